import PyProof.Rows.All
import Wide.All
import OpenK.AllK
import Wide.FinOn
import HandS.ForMost
import HandS.Exc
import HandS.Defaults
import HandS.HeadHook1
import HandS.HeadHook2
import KE.KStateDown
import Lean
import HandS.Head0
import HandS.Head1
import HandS.Head2
import HandS.HeadEnd
import HandS.Evl
import HandS.IsInst
import HandS.Flow
import HandS.DictComp
import HandS.Conv
import HandS.More
import HandS.Sort
import HandS.Wide
import HandS.DictTup
import HandS.Walk
import HandS.SortKw
import KE.KMinKey
import PySem.Challenge.RW_heapdigits_k80_whole_work_far_away
set_option Elab.async false
set_option linter.all false
set_option maxRecDepth 100000
/-! The program's defs by their places in the text, what the head gives of them. Printed by gen_top.py. -/
namespace HD
open PySem L2
def top (i : Nat) : Stmt := PySem.Challenge.pw_heapdigits_k80_whole_work_far_away.main.body.getD i (.Pass ⟨0, 0, 0, 0⟩)
abbrev s_is_integer : Stmt := top 14
abbrev s_is_between : Stmt := top 15
abbrev s_check_time : Stmt := top 19
abbrev s_S_init : Stmt := inClass (top 20) 0
abbrev s_S_generations : Stmt := inClass (top 20) 9
abbrev s_S_last : Stmt := inClass (top 20) 10
abbrev s_S_check_level : Stmt := inClass (top 20) 11
abbrev s_S_level_of : Stmt := inClass (top 20) 14
abbrev s_S_generation_of : Stmt := inClass (top 20) 16
abbrev s_S_next_of : Stmt := inClass (top 20) 18
abbrev s_S_multiples : Stmt := inClass (top 20) 19
abbrev s_generation_at : Stmt := top 22
abbrev s_remembered_until : Stmt := top 23
abbrev s_check_stretch : Stmt := top 24
abbrev s_looks_at : Stmt := top 25
abbrev s_looks : Stmt := top 26
abbrev s_total_work : Stmt := top 27
abbrev s_work_at : Stmt := top 28
abbrev s_reached_from : Stmt := top 33
abbrev s_H_init : Stmt := inClass (top 34) 0
abbrev s_H_now : Stmt := inClass (top 34) 4
abbrev s_H_references : Stmt := inClass (top 34) 7
abbrev s_H_check_object : Stmt := inClass (top 34) 8
abbrev s_H_check_live : Stmt := inClass (top 34) 9
abbrev s_H_check_kept : Stmt := inClass (top 34) 10
abbrev s_H_live : Stmt := inClass (top 34) 13
abbrev s_H_dead : Stmt := inClass (top 34) 14
abbrev s_H_birth : Stmt := inClass (top 34) 15
abbrev s_H_generation_of : Stmt := inClass (top 34) 18
abbrev s_H_found_at : Stmt := inClass (top 34) 21
abbrev s_H_first_found : Stmt := inClass (top 34) 22
abbrev s_H_holders : Stmt := inClass (top 34) 23
abbrev s_H_due : Stmt := inClass (top 34) 24
abbrev s_H_note : Stmt := inClass (top 34) 28
abbrev s_H_check_room : Stmt := inClass (top 34) 29
abbrev s_H_check_reference_room : Stmt := inClass (top 34) 30
abbrev s_H_create : Stmt := inClass (top 34) 31
abbrev s_H_connect : Stmt := inClass (top 34) 32
abbrev s_H_disconnect : Stmt := inClass (top 34) 33
abbrev s_H_refer : Stmt := inClass (top 34) 34
abbrev s_H_clear : Stmt := inClass (top 34) 35
abbrev s_H_hold : Stmt := inClass (top 34) 36
abbrev s_H_drop : Stmt := inClass (top 34) 37
abbrev s_H_settle : Stmt := inClass (top 34) 38
abbrev s_H_collect : Stmt := inClass (top 34) 39
abbrev s_H_force : Stmt := inClass (top 34) 40
abbrev s_H_run : Stmt := inClass (top 34) 41
abbrev s_H_free : Stmt := inClass (top 34) 42
abbrev s_Lcell : Stmt := top 36
abbrev s_Ldigits : Stmt := top 37
abbrev s_Lten : Stmt := top 38
abbrev s_Lplaces : Stmt := top 39
abbrev s_Llevel : Stmt := top 40
abbrev s_Lworld : Stmt := top 41
abbrev s_Lmarked : Stmt := top 42
abbrev s_Lreach : Stmt := top 43
abbrev s_Lkept : Stmt := top 44
abbrev s_Lsettle : Stmt := top 45
abbrev s_Lrun : Stmt := top 46
abbrev s_Lcreate : Stmt := top 47
abbrev s_Lperform : Stmt := top 48
abbrev s_Lchosen : Stmt := top 49
abbrev s_Ldo : Stmt := top 50
abbrev s_Lradices : Stmt := top 51
abbrev s_Lbuilt : Stmt := top 52
abbrev s_Lright : Stmt := top 53
abbrev s_Lgeneration : Stmt := top 54
abbrev s_Luntil_right : Stmt := top 55
abbrev s_law : Stmt := top 56
/-- a def without defaults, where it stands -/
abbrev dd (c : Option Str) (x : Str) (q : Str) (st : Stmt) (dfl : List He.Dv := []) (kwd : List (Str × He.Dv) := []) : He.DefD :=
  ⟨(match c with | some k => (k, some x) | none => (x, none)), x, q, defArgs st, defBody st, defScope st, dfl, kwd⟩
def fn0 : List He.DefD := [dd none "is_integer" "is_integer" s_is_integer [] [],
  dd none "is_between" "is_between" s_is_between [] [],
  dd none "check_time" "check_time" s_check_time [] [],
  dd (some "Scheme") "__init__" "Scheme.__init__" s_S_init [] [],
  dd (some "Scheme") "generations" "Scheme.generations" s_S_generations [] [],
  dd (some "Scheme") "last" "Scheme.last" s_S_last [] [],
  dd (some "Scheme") "check_level" "Scheme.check_level" s_S_check_level [] [],
  dd (some "Scheme") "level_of" "Scheme.level_of" s_S_level_of [] [],
  dd (some "Scheme") "generation_of" "Scheme.generation_of" s_S_generation_of [] [],
  dd (some "Scheme") "next_of" "Scheme.next_of" s_S_next_of [] [],
  dd (some "Scheme") "multiples" "Scheme.multiples" s_S_multiples [] [],
  dd none "generation_at" "generation_at" s_generation_at [] [],
  dd none "remembered_until" "remembered_until" s_remembered_until [] [],
  dd none "check_stretch" "check_stretch" s_check_stretch [] [],
  dd none "looks_at" "looks_at" s_looks_at [] [],
  dd none "looks" "looks" s_looks [] [],
  dd none "total_work" "total_work" s_total_work [] [],
  dd none "work_at" "work_at" s_work_at [] [],
  dd none "reached_from" "reached_from" s_reached_from [] [],
  dd (some "Heap") "__init__" "Heap.__init__" s_H_init [] []]
def fn1 : List He.DefD := [dd (some "Heap") "now" "Heap.now" s_H_now [] [],
  dd (some "Heap") "references" "Heap.references" s_H_references [] [],
  dd (some "Heap") "check_object" "Heap.check_object" s_H_check_object [] [],
  dd (some "Heap") "check_live" "Heap.check_live" s_H_check_live [] [],
  dd (some "Heap") "check_kept" "Heap.check_kept" s_H_check_kept [] [],
  dd (some "Heap") "live" "Heap.live" s_H_live [] [],
  dd (some "Heap") "dead" "Heap.dead" s_H_dead [] [],
  dd (some "Heap") "birth" "Heap.birth" s_H_birth [] [],
  dd (some "Heap") "generation_of" "Heap.generation_of" s_H_generation_of [] [],
  dd (some "Heap") "found_at" "Heap.found_at" s_H_found_at [] [],
  dd (some "Heap") "first_found" "Heap.first_found" s_H_first_found [] [],
  dd (some "Heap") "holders" "Heap.holders" s_H_holders [] [],
  dd (some "Heap") "due" "Heap.due" s_H_due [] [],
  dd (some "Heap") "note" "Heap.note" s_H_note [] [],
  dd (some "Heap") "check_room" "Heap.check_room" s_H_check_room [] [],
  dd (some "Heap") "check_reference_room" "Heap.check_reference_room" s_H_check_reference_room [] [],
  dd (some "Heap") "create" "Heap.create" s_H_create [.non] [("finalizer", .bl false)],
  dd (some "Heap") "connect" "Heap.connect" s_H_connect [] [],
  dd (some "Heap") "disconnect" "Heap.disconnect" s_H_disconnect [] [],
  dd (some "Heap") "refer" "Heap.refer" s_H_refer [] []]
def fn2 : List He.DefD := [dd (some "Heap") "clear" "Heap.clear" s_H_clear [] [],
  dd (some "Heap") "hold" "Heap.hold" s_H_hold [] [],
  dd (some "Heap") "drop" "Heap.drop" s_H_drop [] [],
  dd (some "Heap") "settle" "Heap.settle" s_H_settle [] [],
  dd (some "Heap") "collect" "Heap.collect" s_H_collect [.int 1] [],
  dd (some "Heap") "force" "Heap.force" s_H_force [] [],
  dd (some "Heap") "run" "Heap.run" s_H_run [] [],
  dd (some "Heap") "free" "Heap.free" s_H_free [] [],
  dd none "_law_cell" "_law_cell" s_Lcell [] [],
  dd none "_law_digits" "_law_digits" s_Ldigits [] [],
  dd none "_law_ten" "_law_ten" s_Lten [] [],
  dd none "_law_places" "_law_places" s_Lplaces [] [],
  dd none "_law_level" "_law_level" s_Llevel [] [],
  dd none "_law_world" "_law_world" s_Lworld [] [],
  dd none "_law_marked" "_law_marked" s_Lmarked [] [],
  dd none "_law_reach" "_law_reach" s_Lreach [] [],
  dd none "_law_kept" "_law_kept" s_Lkept [] [],
  dd none "_law_settle" "_law_settle" s_Lsettle [] [],
  dd none "_law_run" "_law_run" s_Lrun [] [],
  dd none "_law_create" "_law_create" s_Lcreate [] []]
def fn3 : List He.DefD := [dd none "_law_perform" "_law_perform" s_Lperform [] [],
  dd none "_law_chosen" "_law_chosen" s_Lchosen [] [],
  dd none "_law_do" "_law_do" s_Ldo [] [],
  dd none "_law_radices" "_law_radices" s_Lradices [] [],
  dd none "_law_built" "_law_built" s_Lbuilt [] [],
  dd none "_law_right" "_law_right" s_Lright [] [],
  dd none "_law_generation" "_law_generation" s_Lgeneration [] [],
  dd none "_law_until_right" "_law_until_right" s_Luntil_right [] [],
  dd none "law" "law" s_law [] []]
def fn : List He.DefD := fn0 ++ (fn1 ++ (fn2 ++ (fn3)))
def fa0 : List He.Fa := [.glo "is_integer", .glo "is_between", .glo "check_time", .glo "generation_at", .glo "remembered_until", .glo "check_stretch", .glo "looks_at", .glo "looks", .glo "total_work", .glo "work_at", .glo "reached_from", .glo "_law_cell", .glo "_law_digits", .glo "_law_ten", .glo "_law_places", .glo "_law_level", .glo "_law_world", .glo "_law_marked", .glo "_law_reach", .glo "_law_kept"]
def fa1 : List He.Fa := [.glo "_law_settle", .glo "_law_run", .glo "_law_create", .glo "_law_perform", .glo "_law_chosen", .glo "_law_do", .glo "_law_radices", .glo "_law_built", .glo "_law_right", .glo "_law_generation", .glo "_law_until_right", .glo "law", .glo "Scheme", .cls "Scheme", .mkr "Scheme", .noat "Scheme" "parts", .noat "Scheme" "places", .glo "Heap", .cls "Heap", .mkr "Heap"]
def fa2 : List He.Fa := [.noat "Heap" "kept_scheme", .noat "Heap" "time", .noat "Heap" "births", .noat "Heap" "deaths", .noat "Heap" "ranks", .noat "Heap" "freed", .noat "Heap" "found", .noat "Heap" "forced_to", .noat "Heap" "pending", .noat "Heap" "targets", .noat "Heap" "sources", .noat "Heap" "root_set", .noat "Heap" "done", .meth "Scheme" "generations", .meth "Scheme" "last", .meth "Scheme" "check_level", .meth "Scheme" "level_of", .meth "Scheme" "generation_of", .meth "Scheme" "next_of", .meth "Scheme" "multiples"]
def fa3 : List He.Fa := [.meth "Heap" "now", .meth "Heap" "references", .meth "Heap" "check_object", .meth "Heap" "check_live", .meth "Heap" "check_kept", .meth "Heap" "live", .meth "Heap" "dead", .meth "Heap" "birth", .meth "Heap" "generation_of", .meth "Heap" "found_at", .meth "Heap" "first_found", .meth "Heap" "holders", .meth "Heap" "due", .meth "Heap" "note", .meth "Heap" "check_room", .meth "Heap" "check_reference_room", .meth "Heap" "create", .meth "Heap" "connect", .meth "Heap" "disconnect", .meth "Heap" "refer"]
def fa4 : List He.Fa := [.meth "Heap" "clear", .meth "Heap" "hold", .meth "Heap" "drop", .meth "Heap" "settle", .meth "Heap" "collect", .meth "Heap" "force", .meth "Heap" "run", .meth "Heap" "free", .free "len", .free "isinstance", .free "int", .free "bool", .free "list", .free "enumerate", .free "range", .free "max", .free "min", .free "sum", .free "any", .free "sorted"]
def fa5 : List He.Fa := [.int "MOST_TIME" 10000000000000000000000000000000000000000, .int "MOST_RADICES" 6, .int "MOST_RADIX" 1000000000000, .int "MOST_OBJECTS" 60, .int "MOST_REFERENCES" 200, .int "MOST_ACTIONS" 400]
def fa : List He.Fa := fa0 ++ (fa1 ++ (fa2 ++ (fa3 ++ (fa4 ++ (fa5)))))
/-- all that the head gives: the written part, the module's names -/
structure TX (K : PySem.W.Frag) (mg : Str → Option Value) : Prop where
  says : He.SaysD fa fn K
  glo : ∀ x : Str, (He.Fa.glo x).ok K = true → mg x = some (.ref (He.ga K x))
  free : ∀ x : Str, (He.Fa.free x).ok K = true → mg x = none
  int : ∀ (x : Str) (i : Int), (He.Fa.int x i).ok K = true → ∃ t, mg x = some (.int i t)
theorem TX.mk' {K : PySem.W.Frag} {mg : Str → Option Value} {h : Heap} (X : K.In h) (G : h.Ns mainGlobals mg) (c : He.SaysD fa fn K) : TX K mg :=
  ⟨c, fun _ e => He.glo_ok X G e, fun _ e => He.free_ok X G e, fun _ _ e => He.int_ok X G e⟩
section
variable {K : PySem.W.Frag} {mg : Str → Option Value}
theorem F_is_integer (T : TX K mg) : ∃ fd, FunD K "is_integer" "is_integer" (defArgs s_is_integer) (defBody s_is_integer) (defScope s_is_integer) [] [] (He.fAd K ("is_integer", none)) fd := T.says.def_ 0 rfl
theorem F_is_between (T : TX K mg) : ∃ fd, FunD K "is_between" "is_between" (defArgs s_is_between) (defBody s_is_between) (defScope s_is_between) [] [] (He.fAd K ("is_between", none)) fd := T.says.def_ 1 rfl
theorem F_check_time (T : TX K mg) : ∃ fd, FunD K "check_time" "check_time" (defArgs s_check_time) (defBody s_check_time) (defScope s_check_time) [] [] (He.fAd K ("check_time", none)) fd := T.says.def_ 2 rfl
theorem F_S_init (T : TX K mg) : ∃ fd, FunD K "__init__" "Scheme.__init__" (defArgs s_S_init) (defBody s_S_init) (defScope s_S_init) [] [] (He.fAd K ("Scheme", some "__init__")) fd := T.says.def_ 3 rfl
theorem F_S_generations (T : TX K mg) : ∃ fd, FunD K "generations" "Scheme.generations" (defArgs s_S_generations) (defBody s_S_generations) (defScope s_S_generations) [] [] (He.fAd K ("Scheme", some "generations")) fd := T.says.def_ 4 rfl
theorem F_S_last (T : TX K mg) : ∃ fd, FunD K "last" "Scheme.last" (defArgs s_S_last) (defBody s_S_last) (defScope s_S_last) [] [] (He.fAd K ("Scheme", some "last")) fd := T.says.def_ 5 rfl
theorem F_S_check_level (T : TX K mg) : ∃ fd, FunD K "check_level" "Scheme.check_level" (defArgs s_S_check_level) (defBody s_S_check_level) (defScope s_S_check_level) [] [] (He.fAd K ("Scheme", some "check_level")) fd := T.says.def_ 6 rfl
theorem F_S_level_of (T : TX K mg) : ∃ fd, FunD K "level_of" "Scheme.level_of" (defArgs s_S_level_of) (defBody s_S_level_of) (defScope s_S_level_of) [] [] (He.fAd K ("Scheme", some "level_of")) fd := T.says.def_ 7 rfl
theorem F_S_generation_of (T : TX K mg) : ∃ fd, FunD K "generation_of" "Scheme.generation_of" (defArgs s_S_generation_of) (defBody s_S_generation_of) (defScope s_S_generation_of) [] [] (He.fAd K ("Scheme", some "generation_of")) fd := T.says.def_ 8 rfl
theorem F_S_next_of (T : TX K mg) : ∃ fd, FunD K "next_of" "Scheme.next_of" (defArgs s_S_next_of) (defBody s_S_next_of) (defScope s_S_next_of) [] [] (He.fAd K ("Scheme", some "next_of")) fd := T.says.def_ 9 rfl
theorem F_S_multiples (T : TX K mg) : ∃ fd, FunD K "multiples" "Scheme.multiples" (defArgs s_S_multiples) (defBody s_S_multiples) (defScope s_S_multiples) [] [] (He.fAd K ("Scheme", some "multiples")) fd := T.says.def_ 10 rfl
theorem F_generation_at (T : TX K mg) : ∃ fd, FunD K "generation_at" "generation_at" (defArgs s_generation_at) (defBody s_generation_at) (defScope s_generation_at) [] [] (He.fAd K ("generation_at", none)) fd := T.says.def_ 11 rfl
theorem F_remembered_until (T : TX K mg) : ∃ fd, FunD K "remembered_until" "remembered_until" (defArgs s_remembered_until) (defBody s_remembered_until) (defScope s_remembered_until) [] [] (He.fAd K ("remembered_until", none)) fd := T.says.def_ 12 rfl
theorem F_check_stretch (T : TX K mg) : ∃ fd, FunD K "check_stretch" "check_stretch" (defArgs s_check_stretch) (defBody s_check_stretch) (defScope s_check_stretch) [] [] (He.fAd K ("check_stretch", none)) fd := T.says.def_ 13 rfl
theorem F_looks_at (T : TX K mg) : ∃ fd, FunD K "looks_at" "looks_at" (defArgs s_looks_at) (defBody s_looks_at) (defScope s_looks_at) [] [] (He.fAd K ("looks_at", none)) fd := T.says.def_ 14 rfl
theorem F_looks (T : TX K mg) : ∃ fd, FunD K "looks" "looks" (defArgs s_looks) (defBody s_looks) (defScope s_looks) [] [] (He.fAd K ("looks", none)) fd := T.says.def_ 15 rfl
theorem F_total_work (T : TX K mg) : ∃ fd, FunD K "total_work" "total_work" (defArgs s_total_work) (defBody s_total_work) (defScope s_total_work) [] [] (He.fAd K ("total_work", none)) fd := T.says.def_ 16 rfl
theorem F_work_at (T : TX K mg) : ∃ fd, FunD K "work_at" "work_at" (defArgs s_work_at) (defBody s_work_at) (defScope s_work_at) [] [] (He.fAd K ("work_at", none)) fd := T.says.def_ 17 rfl
theorem F_reached_from (T : TX K mg) : ∃ fd, FunD K "reached_from" "reached_from" (defArgs s_reached_from) (defBody s_reached_from) (defScope s_reached_from) [] [] (He.fAd K ("reached_from", none)) fd := T.says.def_ 18 rfl
theorem F_H_init (T : TX K mg) : ∃ fd, FunD K "__init__" "Heap.__init__" (defArgs s_H_init) (defBody s_H_init) (defScope s_H_init) [] [] (He.fAd K ("Heap", some "__init__")) fd := T.says.def_ 19 rfl
theorem F_H_now (T : TX K mg) : ∃ fd, FunD K "now" "Heap.now" (defArgs s_H_now) (defBody s_H_now) (defScope s_H_now) [] [] (He.fAd K ("Heap", some "now")) fd := T.says.def_ 20 rfl
theorem F_H_references (T : TX K mg) : ∃ fd, FunD K "references" "Heap.references" (defArgs s_H_references) (defBody s_H_references) (defScope s_H_references) [] [] (He.fAd K ("Heap", some "references")) fd := T.says.def_ 21 rfl
theorem F_H_check_object (T : TX K mg) : ∃ fd, FunD K "check_object" "Heap.check_object" (defArgs s_H_check_object) (defBody s_H_check_object) (defScope s_H_check_object) [] [] (He.fAd K ("Heap", some "check_object")) fd := T.says.def_ 22 rfl
theorem F_H_check_live (T : TX K mg) : ∃ fd, FunD K "check_live" "Heap.check_live" (defArgs s_H_check_live) (defBody s_H_check_live) (defScope s_H_check_live) [] [] (He.fAd K ("Heap", some "check_live")) fd := T.says.def_ 23 rfl
theorem F_H_check_kept (T : TX K mg) : ∃ fd, FunD K "check_kept" "Heap.check_kept" (defArgs s_H_check_kept) (defBody s_H_check_kept) (defScope s_H_check_kept) [] [] (He.fAd K ("Heap", some "check_kept")) fd := T.says.def_ 24 rfl
theorem F_H_live (T : TX K mg) : ∃ fd, FunD K "live" "Heap.live" (defArgs s_H_live) (defBody s_H_live) (defScope s_H_live) [] [] (He.fAd K ("Heap", some "live")) fd := T.says.def_ 25 rfl
theorem F_H_dead (T : TX K mg) : ∃ fd, FunD K "dead" "Heap.dead" (defArgs s_H_dead) (defBody s_H_dead) (defScope s_H_dead) [] [] (He.fAd K ("Heap", some "dead")) fd := T.says.def_ 26 rfl
theorem F_H_birth (T : TX K mg) : ∃ fd, FunD K "birth" "Heap.birth" (defArgs s_H_birth) (defBody s_H_birth) (defScope s_H_birth) [] [] (He.fAd K ("Heap", some "birth")) fd := T.says.def_ 27 rfl
theorem F_H_generation_of (T : TX K mg) : ∃ fd, FunD K "generation_of" "Heap.generation_of" (defArgs s_H_generation_of) (defBody s_H_generation_of) (defScope s_H_generation_of) [] [] (He.fAd K ("Heap", some "generation_of")) fd := T.says.def_ 28 rfl
theorem F_H_found_at (T : TX K mg) : ∃ fd, FunD K "found_at" "Heap.found_at" (defArgs s_H_found_at) (defBody s_H_found_at) (defScope s_H_found_at) [] [] (He.fAd K ("Heap", some "found_at")) fd := T.says.def_ 29 rfl
theorem F_H_first_found (T : TX K mg) : ∃ fd, FunD K "first_found" "Heap.first_found" (defArgs s_H_first_found) (defBody s_H_first_found) (defScope s_H_first_found) [] [] (He.fAd K ("Heap", some "first_found")) fd := T.says.def_ 30 rfl
theorem F_H_holders (T : TX K mg) : ∃ fd, FunD K "holders" "Heap.holders" (defArgs s_H_holders) (defBody s_H_holders) (defScope s_H_holders) [] [] (He.fAd K ("Heap", some "holders")) fd := T.says.def_ 31 rfl
theorem F_H_due (T : TX K mg) : ∃ fd, FunD K "due" "Heap.due" (defArgs s_H_due) (defBody s_H_due) (defScope s_H_due) [] [] (He.fAd K ("Heap", some "due")) fd := T.says.def_ 32 rfl
theorem F_H_note (T : TX K mg) : ∃ fd, FunD K "note" "Heap.note" (defArgs s_H_note) (defBody s_H_note) (defScope s_H_note) [] [] (He.fAd K ("Heap", some "note")) fd := T.says.def_ 33 rfl
theorem F_H_check_room (T : TX K mg) : ∃ fd, FunD K "check_room" "Heap.check_room" (defArgs s_H_check_room) (defBody s_H_check_room) (defScope s_H_check_room) [] [] (He.fAd K ("Heap", some "check_room")) fd := T.says.def_ 34 rfl
theorem F_H_check_reference_room (T : TX K mg) : ∃ fd, FunD K "check_reference_room" "Heap.check_reference_room" (defArgs s_H_check_reference_room) (defBody s_H_check_reference_room) (defScope s_H_check_reference_room) [] [] (He.fAd K ("Heap", some "check_reference_room")) fd := T.says.def_ 35 rfl
theorem F_H_create (T : TX K mg) : ∃ fd, FunD K "create" "Heap.create" (defArgs s_H_create) (defBody s_H_create) (defScope s_H_create) [V.non] [("finalizer", V.bl false)] (He.fAd K ("Heap", some "create")) fd := T.says.def_ 36 rfl
theorem F_H_connect (T : TX K mg) : ∃ fd, FunD K "connect" "Heap.connect" (defArgs s_H_connect) (defBody s_H_connect) (defScope s_H_connect) [] [] (He.fAd K ("Heap", some "connect")) fd := T.says.def_ 37 rfl
theorem F_H_disconnect (T : TX K mg) : ∃ fd, FunD K "disconnect" "Heap.disconnect" (defArgs s_H_disconnect) (defBody s_H_disconnect) (defScope s_H_disconnect) [] [] (He.fAd K ("Heap", some "disconnect")) fd := T.says.def_ 38 rfl
theorem F_H_refer (T : TX K mg) : ∃ fd, FunD K "refer" "Heap.refer" (defArgs s_H_refer) (defBody s_H_refer) (defScope s_H_refer) [] [] (He.fAd K ("Heap", some "refer")) fd := T.says.def_ 39 rfl
theorem F_H_clear (T : TX K mg) : ∃ fd, FunD K "clear" "Heap.clear" (defArgs s_H_clear) (defBody s_H_clear) (defScope s_H_clear) [] [] (He.fAd K ("Heap", some "clear")) fd := T.says.def_ 40 rfl
theorem F_H_hold (T : TX K mg) : ∃ fd, FunD K "hold" "Heap.hold" (defArgs s_H_hold) (defBody s_H_hold) (defScope s_H_hold) [] [] (He.fAd K ("Heap", some "hold")) fd := T.says.def_ 41 rfl
theorem F_H_drop (T : TX K mg) : ∃ fd, FunD K "drop" "Heap.drop" (defArgs s_H_drop) (defBody s_H_drop) (defScope s_H_drop) [] [] (He.fAd K ("Heap", some "drop")) fd := T.says.def_ 42 rfl
theorem F_H_settle (T : TX K mg) : ∃ fd, FunD K "settle" "Heap.settle" (defArgs s_H_settle) (defBody s_H_settle) (defScope s_H_settle) [] [] (He.fAd K ("Heap", some "settle")) fd := T.says.def_ 43 rfl
theorem F_H_collect (T : TX K mg) : ∃ fd, FunD K "collect" "Heap.collect" (defArgs s_H_collect) (defBody s_H_collect) (defScope s_H_collect) [V.int 1] [] (He.fAd K ("Heap", some "collect")) fd := T.says.def_ 44 rfl
theorem F_H_force (T : TX K mg) : ∃ fd, FunD K "force" "Heap.force" (defArgs s_H_force) (defBody s_H_force) (defScope s_H_force) [] [] (He.fAd K ("Heap", some "force")) fd := T.says.def_ 45 rfl
theorem F_H_run (T : TX K mg) : ∃ fd, FunD K "run" "Heap.run" (defArgs s_H_run) (defBody s_H_run) (defScope s_H_run) [] [] (He.fAd K ("Heap", some "run")) fd := T.says.def_ 46 rfl
theorem F_H_free (T : TX K mg) : ∃ fd, FunD K "free" "Heap.free" (defArgs s_H_free) (defBody s_H_free) (defScope s_H_free) [] [] (He.fAd K ("Heap", some "free")) fd := T.says.def_ 47 rfl
theorem F_Lcell (T : TX K mg) : ∃ fd, FunD K "_law_cell" "_law_cell" (defArgs s_Lcell) (defBody s_Lcell) (defScope s_Lcell) [] [] (He.fAd K ("_law_cell", none)) fd := T.says.def_ 48 rfl
theorem F_Ldigits (T : TX K mg) : ∃ fd, FunD K "_law_digits" "_law_digits" (defArgs s_Ldigits) (defBody s_Ldigits) (defScope s_Ldigits) [] [] (He.fAd K ("_law_digits", none)) fd := T.says.def_ 49 rfl
theorem F_Lten (T : TX K mg) : ∃ fd, FunD K "_law_ten" "_law_ten" (defArgs s_Lten) (defBody s_Lten) (defScope s_Lten) [] [] (He.fAd K ("_law_ten", none)) fd := T.says.def_ 50 rfl
theorem F_Lplaces (T : TX K mg) : ∃ fd, FunD K "_law_places" "_law_places" (defArgs s_Lplaces) (defBody s_Lplaces) (defScope s_Lplaces) [] [] (He.fAd K ("_law_places", none)) fd := T.says.def_ 51 rfl
theorem F_Llevel (T : TX K mg) : ∃ fd, FunD K "_law_level" "_law_level" (defArgs s_Llevel) (defBody s_Llevel) (defScope s_Llevel) [] [] (He.fAd K ("_law_level", none)) fd := T.says.def_ 52 rfl
theorem F_Lworld (T : TX K mg) : ∃ fd, FunD K "_law_world" "_law_world" (defArgs s_Lworld) (defBody s_Lworld) (defScope s_Lworld) [] [] (He.fAd K ("_law_world", none)) fd := T.says.def_ 53 rfl
theorem F_Lmarked (T : TX K mg) : ∃ fd, FunD K "_law_marked" "_law_marked" (defArgs s_Lmarked) (defBody s_Lmarked) (defScope s_Lmarked) [] [] (He.fAd K ("_law_marked", none)) fd := T.says.def_ 54 rfl
theorem F_Lreach (T : TX K mg) : ∃ fd, FunD K "_law_reach" "_law_reach" (defArgs s_Lreach) (defBody s_Lreach) (defScope s_Lreach) [] [] (He.fAd K ("_law_reach", none)) fd := T.says.def_ 55 rfl
theorem F_Lkept (T : TX K mg) : ∃ fd, FunD K "_law_kept" "_law_kept" (defArgs s_Lkept) (defBody s_Lkept) (defScope s_Lkept) [] [] (He.fAd K ("_law_kept", none)) fd := T.says.def_ 56 rfl
theorem F_Lsettle (T : TX K mg) : ∃ fd, FunD K "_law_settle" "_law_settle" (defArgs s_Lsettle) (defBody s_Lsettle) (defScope s_Lsettle) [] [] (He.fAd K ("_law_settle", none)) fd := T.says.def_ 57 rfl
theorem F_Lrun (T : TX K mg) : ∃ fd, FunD K "_law_run" "_law_run" (defArgs s_Lrun) (defBody s_Lrun) (defScope s_Lrun) [] [] (He.fAd K ("_law_run", none)) fd := T.says.def_ 58 rfl
theorem F_Lcreate (T : TX K mg) : ∃ fd, FunD K "_law_create" "_law_create" (defArgs s_Lcreate) (defBody s_Lcreate) (defScope s_Lcreate) [] [] (He.fAd K ("_law_create", none)) fd := T.says.def_ 59 rfl
theorem F_Lperform (T : TX K mg) : ∃ fd, FunD K "_law_perform" "_law_perform" (defArgs s_Lperform) (defBody s_Lperform) (defScope s_Lperform) [] [] (He.fAd K ("_law_perform", none)) fd := T.says.def_ 60 rfl
theorem F_Lchosen (T : TX K mg) : ∃ fd, FunD K "_law_chosen" "_law_chosen" (defArgs s_Lchosen) (defBody s_Lchosen) (defScope s_Lchosen) [] [] (He.fAd K ("_law_chosen", none)) fd := T.says.def_ 61 rfl
theorem F_Ldo (T : TX K mg) : ∃ fd, FunD K "_law_do" "_law_do" (defArgs s_Ldo) (defBody s_Ldo) (defScope s_Ldo) [] [] (He.fAd K ("_law_do", none)) fd := T.says.def_ 62 rfl
theorem F_Lradices (T : TX K mg) : ∃ fd, FunD K "_law_radices" "_law_radices" (defArgs s_Lradices) (defBody s_Lradices) (defScope s_Lradices) [] [] (He.fAd K ("_law_radices", none)) fd := T.says.def_ 63 rfl
theorem F_Lbuilt (T : TX K mg) : ∃ fd, FunD K "_law_built" "_law_built" (defArgs s_Lbuilt) (defBody s_Lbuilt) (defScope s_Lbuilt) [] [] (He.fAd K ("_law_built", none)) fd := T.says.def_ 64 rfl
theorem F_Lright (T : TX K mg) : ∃ fd, FunD K "_law_right" "_law_right" (defArgs s_Lright) (defBody s_Lright) (defScope s_Lright) [] [] (He.fAd K ("_law_right", none)) fd := T.says.def_ 65 rfl
theorem F_Lgeneration (T : TX K mg) : ∃ fd, FunD K "_law_generation" "_law_generation" (defArgs s_Lgeneration) (defBody s_Lgeneration) (defScope s_Lgeneration) [] [] (He.fAd K ("_law_generation", none)) fd := T.says.def_ 66 rfl
theorem F_Luntil_right (T : TX K mg) : ∃ fd, FunD K "_law_until_right" "_law_until_right" (defArgs s_Luntil_right) (defBody s_Luntil_right) (defScope s_Luntil_right) [] [] (He.fAd K ("_law_until_right", none)) fd := T.says.def_ 67 rfl
theorem F_law (T : TX K mg) : ∃ fd, FunD K "law" "law" (defArgs s_law) (defBody s_law) (defScope s_law) [] [] (He.fAd K ("law", none)) fd := T.says.def_ 68 rfl
theorem g_is_integer (T : TX K mg) : mg "is_integer" = some (.ref (He.fAd K ("is_integer", none))) := T.glo _ (T.says.fact 0 rfl)
theorem g_is_between (T : TX K mg) : mg "is_between" = some (.ref (He.fAd K ("is_between", none))) := T.glo _ (T.says.fact 1 rfl)
theorem g_check_time (T : TX K mg) : mg "check_time" = some (.ref (He.fAd K ("check_time", none))) := T.glo _ (T.says.fact 2 rfl)
theorem g_generation_at (T : TX K mg) : mg "generation_at" = some (.ref (He.fAd K ("generation_at", none))) := T.glo _ (T.says.fact 3 rfl)
theorem g_remembered_until (T : TX K mg) : mg "remembered_until" = some (.ref (He.fAd K ("remembered_until", none))) := T.glo _ (T.says.fact 4 rfl)
theorem g_check_stretch (T : TX K mg) : mg "check_stretch" = some (.ref (He.fAd K ("check_stretch", none))) := T.glo _ (T.says.fact 5 rfl)
theorem g_looks_at (T : TX K mg) : mg "looks_at" = some (.ref (He.fAd K ("looks_at", none))) := T.glo _ (T.says.fact 6 rfl)
theorem g_looks (T : TX K mg) : mg "looks" = some (.ref (He.fAd K ("looks", none))) := T.glo _ (T.says.fact 7 rfl)
theorem g_total_work (T : TX K mg) : mg "total_work" = some (.ref (He.fAd K ("total_work", none))) := T.glo _ (T.says.fact 8 rfl)
theorem g_work_at (T : TX K mg) : mg "work_at" = some (.ref (He.fAd K ("work_at", none))) := T.glo _ (T.says.fact 9 rfl)
theorem g_reached_from (T : TX K mg) : mg "reached_from" = some (.ref (He.fAd K ("reached_from", none))) := T.glo _ (T.says.fact 10 rfl)
theorem g_Lcell (T : TX K mg) : mg "_law_cell" = some (.ref (He.fAd K ("_law_cell", none))) := T.glo _ (T.says.fact 11 rfl)
theorem g_Ldigits (T : TX K mg) : mg "_law_digits" = some (.ref (He.fAd K ("_law_digits", none))) := T.glo _ (T.says.fact 12 rfl)
theorem g_Lten (T : TX K mg) : mg "_law_ten" = some (.ref (He.fAd K ("_law_ten", none))) := T.glo _ (T.says.fact 13 rfl)
theorem g_Lplaces (T : TX K mg) : mg "_law_places" = some (.ref (He.fAd K ("_law_places", none))) := T.glo _ (T.says.fact 14 rfl)
theorem g_Llevel (T : TX K mg) : mg "_law_level" = some (.ref (He.fAd K ("_law_level", none))) := T.glo _ (T.says.fact 15 rfl)
theorem g_Lworld (T : TX K mg) : mg "_law_world" = some (.ref (He.fAd K ("_law_world", none))) := T.glo _ (T.says.fact 16 rfl)
theorem g_Lmarked (T : TX K mg) : mg "_law_marked" = some (.ref (He.fAd K ("_law_marked", none))) := T.glo _ (T.says.fact 17 rfl)
theorem g_Lreach (T : TX K mg) : mg "_law_reach" = some (.ref (He.fAd K ("_law_reach", none))) := T.glo _ (T.says.fact 18 rfl)
theorem g_Lkept (T : TX K mg) : mg "_law_kept" = some (.ref (He.fAd K ("_law_kept", none))) := T.glo _ (T.says.fact 19 rfl)
theorem g_Lsettle (T : TX K mg) : mg "_law_settle" = some (.ref (He.fAd K ("_law_settle", none))) := T.glo _ (T.says.fact 20 rfl)
theorem g_Lrun (T : TX K mg) : mg "_law_run" = some (.ref (He.fAd K ("_law_run", none))) := T.glo _ (T.says.fact 21 rfl)
theorem g_Lcreate (T : TX K mg) : mg "_law_create" = some (.ref (He.fAd K ("_law_create", none))) := T.glo _ (T.says.fact 22 rfl)
theorem g_Lperform (T : TX K mg) : mg "_law_perform" = some (.ref (He.fAd K ("_law_perform", none))) := T.glo _ (T.says.fact 23 rfl)
theorem g_Lchosen (T : TX K mg) : mg "_law_chosen" = some (.ref (He.fAd K ("_law_chosen", none))) := T.glo _ (T.says.fact 24 rfl)
theorem g_Ldo (T : TX K mg) : mg "_law_do" = some (.ref (He.fAd K ("_law_do", none))) := T.glo _ (T.says.fact 25 rfl)
theorem g_Lradices (T : TX K mg) : mg "_law_radices" = some (.ref (He.fAd K ("_law_radices", none))) := T.glo _ (T.says.fact 26 rfl)
theorem g_Lbuilt (T : TX K mg) : mg "_law_built" = some (.ref (He.fAd K ("_law_built", none))) := T.glo _ (T.says.fact 27 rfl)
theorem g_Lright (T : TX K mg) : mg "_law_right" = some (.ref (He.fAd K ("_law_right", none))) := T.glo _ (T.says.fact 28 rfl)
theorem g_Lgeneration (T : TX K mg) : mg "_law_generation" = some (.ref (He.fAd K ("_law_generation", none))) := T.glo _ (T.says.fact 29 rfl)
theorem g_Luntil_right (T : TX K mg) : mg "_law_until_right" = some (.ref (He.fAd K ("_law_until_right", none))) := T.glo _ (T.says.fact 30 rfl)
theorem g_law (T : TX K mg) : mg "law" = some (.ref (He.fAd K ("law", none))) := T.glo _ (T.says.fact 31 rfl)
abbrev CS (K : PySem.W.Frag) : Addr := He.ga K "Scheme"
theorem g_Scheme (T : TX K mg) : mg "Scheme" = some (.ref (CS K)) := T.glo _ (T.says.fact 32 rfl)
theorem cls_S (T : TX K mg) : Cls K (CS K) := He.cls_ok (T.says.fact 33 rfl)
theorem mk_S (T : TX K mg) : Mk K (CS K) (He.fAd K ("Scheme", some "__init__")) := He.mkr_ok (T.says.fact 34 rfl)
theorem no_S_parts (T : TX K mg) : NoAttr K (CS K) "parts" := He.noat_ok (T.says.fact 35 rfl)
theorem no_S_places (T : TX K mg) : NoAttr K (CS K) "places" := He.noat_ok (T.says.fact 36 rfl)
abbrev CH (K : PySem.W.Frag) : Addr := He.ga K "Heap"
theorem g_Heap (T : TX K mg) : mg "Heap" = some (.ref (CH K)) := T.glo _ (T.says.fact 37 rfl)
theorem cls_H (T : TX K mg) : Cls K (CH K) := He.cls_ok (T.says.fact 38 rfl)
theorem mk_H (T : TX K mg) : Mk K (CH K) (He.fAd K ("Heap", some "__init__")) := He.mkr_ok (T.says.fact 39 rfl)
theorem no_H_kept_scheme (T : TX K mg) : NoAttr K (CH K) "kept_scheme" := He.noat_ok (T.says.fact 40 rfl)
theorem no_H_time (T : TX K mg) : NoAttr K (CH K) "time" := He.noat_ok (T.says.fact 41 rfl)
theorem no_H_births (T : TX K mg) : NoAttr K (CH K) "births" := He.noat_ok (T.says.fact 42 rfl)
theorem no_H_deaths (T : TX K mg) : NoAttr K (CH K) "deaths" := He.noat_ok (T.says.fact 43 rfl)
theorem no_H_ranks (T : TX K mg) : NoAttr K (CH K) "ranks" := He.noat_ok (T.says.fact 44 rfl)
theorem no_H_freed (T : TX K mg) : NoAttr K (CH K) "freed" := He.noat_ok (T.says.fact 45 rfl)
theorem no_H_found (T : TX K mg) : NoAttr K (CH K) "found" := He.noat_ok (T.says.fact 46 rfl)
theorem no_H_forced_to (T : TX K mg) : NoAttr K (CH K) "forced_to" := He.noat_ok (T.says.fact 47 rfl)
theorem no_H_pending (T : TX K mg) : NoAttr K (CH K) "pending" := He.noat_ok (T.says.fact 48 rfl)
theorem no_H_targets (T : TX K mg) : NoAttr K (CH K) "targets" := He.noat_ok (T.says.fact 49 rfl)
theorem no_H_sources (T : TX K mg) : NoAttr K (CH K) "sources" := He.noat_ok (T.says.fact 50 rfl)
theorem no_H_root_set (T : TX K mg) : NoAttr K (CH K) "root_set" := He.noat_ok (T.says.fact 51 rfl)
theorem no_H_done (T : TX K mg) : NoAttr K (CH K) "done" := He.noat_ok (T.says.fact 52 rfl)
theorem m_S_generations (T : TX K mg) : Meth K (CS K) "generations" (He.fAd K ("Scheme", some "generations")) := He.meth_ok (T.says.fact 53 rfl)
theorem m_S_last (T : TX K mg) : Meth K (CS K) "last" (He.fAd K ("Scheme", some "last")) := He.meth_ok (T.says.fact 54 rfl)
theorem m_S_check_level (T : TX K mg) : Meth K (CS K) "check_level" (He.fAd K ("Scheme", some "check_level")) := He.meth_ok (T.says.fact 55 rfl)
theorem m_S_level_of (T : TX K mg) : Meth K (CS K) "level_of" (He.fAd K ("Scheme", some "level_of")) := He.meth_ok (T.says.fact 56 rfl)
theorem m_S_generation_of (T : TX K mg) : Meth K (CS K) "generation_of" (He.fAd K ("Scheme", some "generation_of")) := He.meth_ok (T.says.fact 57 rfl)
theorem m_S_next_of (T : TX K mg) : Meth K (CS K) "next_of" (He.fAd K ("Scheme", some "next_of")) := He.meth_ok (T.says.fact 58 rfl)
theorem m_S_multiples (T : TX K mg) : Meth K (CS K) "multiples" (He.fAd K ("Scheme", some "multiples")) := He.meth_ok (T.says.fact 59 rfl)
theorem m_H_now (T : TX K mg) : Meth K (CH K) "now" (He.fAd K ("Heap", some "now")) := He.meth_ok (T.says.fact 60 rfl)
theorem m_H_references (T : TX K mg) : Meth K (CH K) "references" (He.fAd K ("Heap", some "references")) := He.meth_ok (T.says.fact 61 rfl)
theorem m_H_check_object (T : TX K mg) : Meth K (CH K) "check_object" (He.fAd K ("Heap", some "check_object")) := He.meth_ok (T.says.fact 62 rfl)
theorem m_H_check_live (T : TX K mg) : Meth K (CH K) "check_live" (He.fAd K ("Heap", some "check_live")) := He.meth_ok (T.says.fact 63 rfl)
theorem m_H_check_kept (T : TX K mg) : Meth K (CH K) "check_kept" (He.fAd K ("Heap", some "check_kept")) := He.meth_ok (T.says.fact 64 rfl)
theorem m_H_live (T : TX K mg) : Meth K (CH K) "live" (He.fAd K ("Heap", some "live")) := He.meth_ok (T.says.fact 65 rfl)
theorem m_H_dead (T : TX K mg) : Meth K (CH K) "dead" (He.fAd K ("Heap", some "dead")) := He.meth_ok (T.says.fact 66 rfl)
theorem m_H_birth (T : TX K mg) : Meth K (CH K) "birth" (He.fAd K ("Heap", some "birth")) := He.meth_ok (T.says.fact 67 rfl)
theorem m_H_generation_of (T : TX K mg) : Meth K (CH K) "generation_of" (He.fAd K ("Heap", some "generation_of")) := He.meth_ok (T.says.fact 68 rfl)
theorem m_H_found_at (T : TX K mg) : Meth K (CH K) "found_at" (He.fAd K ("Heap", some "found_at")) := He.meth_ok (T.says.fact 69 rfl)
theorem m_H_first_found (T : TX K mg) : Meth K (CH K) "first_found" (He.fAd K ("Heap", some "first_found")) := He.meth_ok (T.says.fact 70 rfl)
theorem m_H_holders (T : TX K mg) : Meth K (CH K) "holders" (He.fAd K ("Heap", some "holders")) := He.meth_ok (T.says.fact 71 rfl)
theorem m_H_due (T : TX K mg) : Meth K (CH K) "due" (He.fAd K ("Heap", some "due")) := He.meth_ok (T.says.fact 72 rfl)
theorem m_H_note (T : TX K mg) : Meth K (CH K) "note" (He.fAd K ("Heap", some "note")) := He.meth_ok (T.says.fact 73 rfl)
theorem m_H_check_room (T : TX K mg) : Meth K (CH K) "check_room" (He.fAd K ("Heap", some "check_room")) := He.meth_ok (T.says.fact 74 rfl)
theorem m_H_check_reference_room (T : TX K mg) : Meth K (CH K) "check_reference_room" (He.fAd K ("Heap", some "check_reference_room")) := He.meth_ok (T.says.fact 75 rfl)
theorem m_H_create (T : TX K mg) : Meth K (CH K) "create" (He.fAd K ("Heap", some "create")) := He.meth_ok (T.says.fact 76 rfl)
theorem m_H_connect (T : TX K mg) : Meth K (CH K) "connect" (He.fAd K ("Heap", some "connect")) := He.meth_ok (T.says.fact 77 rfl)
theorem m_H_disconnect (T : TX K mg) : Meth K (CH K) "disconnect" (He.fAd K ("Heap", some "disconnect")) := He.meth_ok (T.says.fact 78 rfl)
theorem m_H_refer (T : TX K mg) : Meth K (CH K) "refer" (He.fAd K ("Heap", some "refer")) := He.meth_ok (T.says.fact 79 rfl)
theorem m_H_clear (T : TX K mg) : Meth K (CH K) "clear" (He.fAd K ("Heap", some "clear")) := He.meth_ok (T.says.fact 80 rfl)
theorem m_H_hold (T : TX K mg) : Meth K (CH K) "hold" (He.fAd K ("Heap", some "hold")) := He.meth_ok (T.says.fact 81 rfl)
theorem m_H_drop (T : TX K mg) : Meth K (CH K) "drop" (He.fAd K ("Heap", some "drop")) := He.meth_ok (T.says.fact 82 rfl)
theorem m_H_settle (T : TX K mg) : Meth K (CH K) "settle" (He.fAd K ("Heap", some "settle")) := He.meth_ok (T.says.fact 83 rfl)
theorem m_H_collect (T : TX K mg) : Meth K (CH K) "collect" (He.fAd K ("Heap", some "collect")) := He.meth_ok (T.says.fact 84 rfl)
theorem m_H_force (T : TX K mg) : Meth K (CH K) "force" (He.fAd K ("Heap", some "force")) := He.meth_ok (T.says.fact 85 rfl)
theorem m_H_run (T : TX K mg) : Meth K (CH K) "run" (He.fAd K ("Heap", some "run")) := He.meth_ok (T.says.fact 86 rfl)
theorem m_H_free (T : TX K mg) : Meth K (CH K) "free" (He.fAd K ("Heap", some "free")) := He.meth_ok (T.says.fact 87 rfl)
theorem b_len (T : TX K mg) : mg "len" = none := T.free _ (T.says.fact 88 rfl)
theorem b_isinstance (T : TX K mg) : mg "isinstance" = none := T.free _ (T.says.fact 89 rfl)
theorem b_int (T : TX K mg) : mg "int" = none := T.free _ (T.says.fact 90 rfl)
theorem b_bool (T : TX K mg) : mg "bool" = none := T.free _ (T.says.fact 91 rfl)
theorem b_list (T : TX K mg) : mg "list" = none := T.free _ (T.says.fact 92 rfl)
theorem b_enumerate (T : TX K mg) : mg "enumerate" = none := T.free _ (T.says.fact 93 rfl)
theorem b_range (T : TX K mg) : mg "range" = none := T.free _ (T.says.fact 94 rfl)
theorem b_max (T : TX K mg) : mg "max" = none := T.free _ (T.says.fact 95 rfl)
theorem b_min (T : TX K mg) : mg "min" = none := T.free _ (T.says.fact 96 rfl)
theorem b_sum (T : TX K mg) : mg "sum" = none := T.free _ (T.says.fact 97 rfl)
theorem b_any (T : TX K mg) : mg "any" = none := T.free _ (T.says.fact 98 rfl)
theorem b_sorted (T : TX K mg) : mg "sorted" = none := T.free _ (T.says.fact 99 rfl)
theorem i_MOST_TIME (T : TX K mg) : ∃ t, mg "MOST_TIME" = some (.int 10000000000000000000000000000000000000000 t) := T.int _ _ (T.says.fact 100 rfl)
theorem i_MOST_RADICES (T : TX K mg) : ∃ t, mg "MOST_RADICES" = some (.int 6 t) := T.int _ _ (T.says.fact 101 rfl)
theorem i_MOST_RADIX (T : TX K mg) : ∃ t, mg "MOST_RADIX" = some (.int 1000000000000 t) := T.int _ _ (T.says.fact 102 rfl)
theorem i_MOST_OBJECTS (T : TX K mg) : ∃ t, mg "MOST_OBJECTS" = some (.int 60 t) := T.int _ _ (T.says.fact 103 rfl)
theorem i_MOST_REFERENCES (T : TX K mg) : ∃ t, mg "MOST_REFERENCES" = some (.int 200 t) := T.int _ _ (T.says.fact 104 rfl)
theorem i_MOST_ACTIONS (T : TX K mg) : ∃ t, mg "MOST_ACTIONS" = some (.int 400 t) := T.int _ _ (T.says.fact 105 rfl)
end
end HD
set_option Elab.async false
set_option linter.all false
set_option maxRecDepth 100000
/-! A Hook of my own: what the module's names reach, layer by layer, nothing struck out twice. -/
namespace HD
open PySem PySem.Spec PyProof.Rows L2
def refsM (o : Obj) : List Addr := match o.data with
  | .dict es _ => es.toList.flatMap fun e => He.refV e.val
  | .func fd => He.refV fd.code ++ (He.refV fd.defaults ++ He.refV fd.kwdefaults)
  | .cls cd => [cd.ns]
  | .fields vs => vs.toList.flatMap He.refV
  | _ => []
def layM (g : Addr → Option Obj) (as : List Addr) : List Addr := as.flatMap fun a => match g a with
  | some o => refsM o
  | none => []
def asM (g : Addr → Option Obj) : Nat → List Addr → List Addr
  | 0, l => l
  | n + 1, l => l ++ asM g n (layM g l)
def obsMG (n : Nat) (fa : List He.Fa) (fn : List He.DefD) (g : Addr → Option Obj) : He.AlD := He.obsD fa fn (He.frG g (asM g n [mainGlobals]))
def hookM (n : Nat) (fa : List He.Fa) (fn : List He.DefD) : PySem.W.Hook where
  α := He.AlD
  obs := fun s => obsMG n fa fn s.heap.get?
  val := fun _ => He.valD fn
  says := fun _ h => ∃ K : PySem.W.Frag, K.In h ∧ He.SaysD fa fn K
  of := fun _ _ e => ⟨_, He.frG_in, e⟩
  keeps := fun _ _ _ ⟨K, hK, c⟩ k => ⟨K, PySem.W.Frag.In.keeps hK k, c⟩
theorem obsMG_eq {n : Nat} {fa : List He.Fa} {fn : List He.DefD} {g : Addr → Option Obj} {s : Shared} (h : ∀ a, g a = s.heap.get? a) : obsMG n fa fn g = (hookM n fa fn).obs s := by
  have e : g = s.heap.get? := funext h
  rw [e] <;> rfl
end HD
set_option Elab.async false
set_option linter.all false
set_option maxRecDepth 100000
set_option maxHeartbeats 0
namespace HDR
open HD
open PySem PySem.Spec PyProof.Rows L2
abbrev R : PySem.W.OpenRow := PySem.W.OpenLaw.row PySem.Challenge.rw_heapdigits_k80_whole_work_far_away
def ls0 : List PySem.Str := ["_wall", "HeapError", "InvalidScheme", "InvalidLevel", "InvalidTime", "InvalidObject", "NotLive", "NotRoot", "NoReference", "Freed", "LimitExceeded", "MOST_TIME", "is_integer", "is_between", "MOST_RADICES", "MOST_RADIX", "check_time", "Scheme", "generation_at", "remembered_until", "check_stretch", "looks_at", "looks", "total_work", "work_at", "MOST_OBJECTS", "MOST_REFERENCES", "MOST_ACTIONS", "reached_from", "Heap"]
def ls1 : List PySem.Str := ["_law_cell", "_law_digits", "_law_ten", "_law_places", "_law_level", "_law_world", "_law_marked", "_law_reach", "_law_kept", "_law_settle", "_law_run", "_law_create", "_law_perform", "_law_chosen", "_law_do", "_law_radices", "_law_built", "_law_right", "_law_generation", "_law_until_right"]
def ls : List PySem.Str := ls0 ++ (ls1)
abbrev hk : PySem.W.Hook := hookM 5 fa fn
def ob (s : PySem.W.SharedT) : He.AlD := obsMG 5 fa fn (HandSHeadRun.getT s)
theorem ob_eq (s : PySem.W.SharedT) : ob s = hk.obs s.abs := obsMG_eq (HandSHeadRun.getT_eq s)
theorem run (w : World) : HandSHeadRun.RunEq R (PySem.W.view R.prog [56]) hk ob 20000 ls w := by
  intro os
  kernel_rfl
end HDR
set_option Elab.async false
set_option linter.all false
set_option maxRecDepth 100000
set_option maxHeartbeats 2000000
/-! Short words of mine over the layer: a def with its promise as one thing, calls by it; what readings evaluate to. -/
namespace HD
open PySem PySem.Spec PyProof.Rows L2 Evl
/-- a global def and its promise -/
def Glob (P : Program) (w : World) (K : PySem.W.Frag) (mg : Str → Option Value) (base : Heap) (k : Nat) (x : Str) (ps : List Str) (sp : Sp) : Prop :=
  ∃ f fd, FnOk P w K mg base CX0 k f fd ps sp ∧ mg x = some (.ref f) ∧ PySem.W.keepIn K (.ref f) = true ∧ Binds K fd ps []
/-- a method and its promise (self is a parameter) -/
def MethOk (P : Program) (w : World) (K : PySem.W.Frag) (mg : Str → Option Value) (base : Heap) (C : Addr) (k : Nat) (m : Str) (ps : List Str) (sp : Sp) : Prop :=
  ∃ f fd, FnOk P w K mg base CX0 k f fd ps sp ∧ Meth K C m f ∧ Binds K fd ps []
section
variable {P : Program} {w : World} {K : PySem.W.Frag} {mg : Str → Option Value} {base : Heap}
theorem Glob.mono {j k : Nat} {x : Str} {ps : List Str} {sp : Sp} (G : Glob P w K mg base j x ps sp) (h : j ≤ k) : Glob P w K mg base k x ps sp :=
  let ⟨f, fd, F, r⟩ := G; ⟨f, fd, F.mono h, r⟩
theorem Glob.imp {k : Nat} {x : Str} {ps : List Str} {sp sp' : Sp} (G : Glob P w K mg base k x ps sp) (h : ∀ vs H Q E, sp' vs H Q E → sp vs H Q E) : Glob P w K mg base k x ps sp' :=
  let ⟨f, fd, F, r⟩ := G; ⟨f, fd, F.imp h, r⟩
theorem MethOk.imp {C : Addr} {k : Nat} {x : Str} {ps : List Str} {sp sp' : Sp} (G : MethOk P w K mg base C k x ps sp) (h : ∀ vs H Q E, sp' vs H Q E → sp vs H Q E) : MethOk P w K mg base C k x ps sp' :=
  let ⟨f, fd, F, r⟩ := G; ⟨f, fd, F.imp h, r⟩
/-- the rule for a def of the top, no defaults -/
theorem glob_mk {x : Str} {st : Stmt} {f : Addr} {N ps : List Str} {k : Nat} {sp : Sp} (F : ∃ fd, FunD K x x (defArgs st) (defBody st) (defScope st) [] [] f fd) (hm : mg x = some (.ref f)) (S : FnScope N ps (defScope st))
    (hb : ∀ (kV doc pm : Value) (an : Option Addr) (cdv ct : Value) (us : List Value), us.length = ps.length → bindArgs (PySem.W.fnOf x x (defArgs st) (defBody st) (defScope st) .none kV doc pm an cdv ct) ⟨us, []⟩ = pure (ps.zip us))
    (len : ∀ vs H Q E, sp vs H Q E → vs.length = ps.length)
    (hbody : ∀ (cdv : Value) (A : Around) (outer : List Env) (s : Shared) (H : Hp) (vs : List V) (Q : VK) (E : XK), Room k (A.deeper (envOfC x (defScope st) s.heap.objs.size f cdv)) → sp vs H Q E →
      ∃ t, PSs (cxOf CX0 P w K mg base N x (defScope st) f cdv A outer s H E).nox (defBody st) t ∧ t { nx := fun _ H' => Q .non H', rt := Q } (start N vs) H) : Glob P w K mg base (k + 1) x ps sp := by
  obtain ⟨fd, F⟩ := F
  refine ⟨f, fd, F.ok S len fun cdv A outer s H vs Q E hr h => ?_, hm, F.kp, F.bindsN hb⟩
  obtain ⟨t, h1, h2⟩ := hbody cdv A outer s H vs Q E hr h
  exact ⟨t, h1.nox, h2⟩
/-- .. for a method -/
theorem meth_mk {C f : Addr} {x q : Str} {st : Stmt} {N ps : List Str} {k : Nat} {sp : Sp} (F : ∃ fd, FunD K x q (defArgs st) (defBody st) (defScope st) [] [] f fd) (hm : Meth K C x f) (S : FnScope N ps (defScope st))
    (hb : ∀ (kV doc pm : Value) (an : Option Addr) (cdv ct : Value) (us : List Value), us.length = ps.length → bindArgs (PySem.W.fnOf x q (defArgs st) (defBody st) (defScope st) .none kV doc pm an cdv ct) ⟨us, []⟩ = pure (ps.zip us))
    (len : ∀ vs H Q E, sp vs H Q E → vs.length = ps.length)
    (hbody : ∀ (cdv : Value) (A : Around) (outer : List Env) (s : Shared) (H : Hp) (vs : List V) (Q : VK) (E : XK), Room k (A.deeper (envOfC q (defScope st) s.heap.objs.size f cdv)) → sp vs H Q E →
      ∃ t, PSs (cxOf CX0 P w K mg base N q (defScope st) f cdv A outer s H E).nox (defBody st) t ∧ t { nx := fun _ H' => Q .non H', rt := Q } (start N vs) H) : MethOk P w K mg base C (k + 1) x ps sp := by
  obtain ⟨fd, F⟩ := F
  refine ⟨f, fd, F.ok S len fun cdv A outer s H vs Q E hr h => ?_, hm, F.bindsN hb⟩
  obtain ⟨t, h1, h2⟩ := hbody cdv A outer s H vs Q E hr h
  exact ⟨t, h1.nox, h2⟩
end
section
variable {X : Cx} {k j : Nat} {ps : List Str} {sp : Sp} {x m : Str} {p pos apos : Pos} {e o : Expr} {es : List Expr} {t : TA} {ta : TE} {C : Addr}
theorem pg_call (G : Glob X.prog X.w X.K X.mg X.base k x ps sp) (hr : Room j X.A) (hk : k ≤ j) (hg : Gl X x) (ha : PA X (e :: es) t) (hdb : (x == ("__debug__" : Str)) = false := by decide)
    (he : starEach (e :: es) X.env = (false, eval e X.env) :: starEach es X.env := by rfl) (hpl : (backTo pos (starEach es X.env)).any (·.1) = false := by rfl) : PE X (.Call (.Name x p) (e :: es) [] pos) (tCall sp [] E0 t) := by
  obtain ⟨f, fd, F, hm, kp, b⟩ := G
  exact pe_call F (hr.mono hk) hg hm kp b .nil pass0 ha hdb he hpl
theorem pm_call {pl : Sem Bool} (G : MethOk X.prog X.w X.K X.mg X.base C k m ps sp) (c : Cls X.K C) (hr : Room j X.A) (hk : k ≤ j) (ho : PE X o ta) (ha : PA X (e :: es) t)
    (hst : starEach (e :: es) X.env = (false, eval e X.env) :: starEach es X.env := by rfl) (hpl : (backTo pos (starEach es X.env)).any (·.1) = false := by rfl)
    (ht : eval (.Call (.Attribute o m apos) (e :: es) [] pos) X.env = (do
      let ov ← eval o X.env
      standAt apos.atName
      let (f, first) ← holding [ov] (getMethod ov m pl)
      callWith pos f first (backTo pos (starEach (e :: es) X.env)) (backToKw pos (keywordEach [] X.env))) := by rfl) :
    PE X (.Call (.Attribute o m apos) (e :: es) [] pos) (tMeth C m sp [] E0 ta t) := by
  obtain ⟨f, fd, F, hm, b⟩ := G
  exact pe_meth ho c hm F (hr.mono hk) b .nil pass0 ha hst hpl ht
theorem pm_call0 {pl : Sem Bool} (G : MethOk X.prog X.w X.K X.mg X.base C k m ps sp) (c : Cls X.K C) (hr : Room j X.A) (hk : k ≤ j) (ho : PE X o ta)
    (ht : eval (.Call (.Attribute o m apos) [] [] pos) X.env = (do
      let ov ← eval o X.env
      standAt apos.atName
      let (f, first) ← holding [ov] (getMethod ov m pl)
      callWith pos f first (backTo pos (starEach [] X.env)) (backToKw pos (keywordEach [] X.env))) := by rfl) :
    PE X (.Call (.Attribute o m apos) [] [] pos) (tMeth C m sp [] E0 ta tNil) := by
  obtain ⟨f, fd, F, hm, b⟩ := G
  exact pe_meth0 ho c hm F (hr.mono hk) b .nil pass0 ht
/-- a module's int -/
theorem pe_gi {i : Int} (h : ∃ t, X.mg x = some (.int i t)) (hg : Gl X x) (hd : (x == ("__debug__" : Str)) = false := by decide) : PE X (.Name x pos) (tC (.int i)) :=
  let ⟨t, h⟩ := h; pe_glob hg h ⟨t, rfl⟩ hd
end
/-! ### readings -/
section
variable {K : PySem.W.Frag} {σ : L2.St} {H H' : Hp} {ta tb tc te tx : TE} {t u : TT} {x y z v : V} {r : R2} {a C dx : Addr} {fs : List (Str × V)} {f m : Str} {sp : Sp} {vs : List V} {ts : TA}
theorem ev_fld (h : Ev ta σ H (.ref a)) (ho : H a = some (.ins C dx fs)) (hc : Cls K C) (hn : NoAttr K C f) (hl : fs.lookup f = some v) : Ev (tFld K ta f) σ H v := fun H1 e Q q =>
  h H1 e _ fun H2 e2 => ⟨a, C, dx, fs, v, rfl, e2 _ _ (e _ _ ho), hc, hn, hl, q H2 e2⟩
theorem ev_meth (h : Ev ta σ H (.ref a)) (ho : H a = some (.ins C dx fs)) (hl : fs.lookup m = none) (ht : EvA ts σ H vs) (hs : SpV sp (.ref a :: (vs ++ [])) H z) {E : XK} : Ev (tMeth C m sp [] E ta ts) σ H z := fun H1 e Q q =>
  h H1 e _ fun H2 e2 => ⟨a, dx, fs, rfl, e2 _ _ (e _ _ ho), hl, ht H2 (e.trans e2) _ fun H3 e3 => hs H3 ((e.trans e2).trans e3) Q (fun H4 e4 => q H4 ((e2.trans e3).trans e4)) E⟩
theorem el_meth {xs : List V} (h : Ev ta σ H (.ref a)) (ho : H a = some (.ins C dx fs)) (hl : fs.lookup m = none) (ht : EvA ts σ H vs) (hs : SpL sp (.ref a :: (vs ++ [])) H xs) {E : XK} : EvL (tMeth C m sp [] E ta ts) σ H xs := fun H1 e Q q =>
  h H1 e _ fun H2 e2 => ⟨a, dx, fs, rfl, e2 _ _ (e _ _ ho), hl, ht H2 (e.trans e2) _ fun H3 e3 => hs H3 ((e.trans e2).trans e3) Q (fun p H4 hp e4 h4 => q p H4 (fresh_back (e2.trans e3) hp) ((e2.trans e3).trans e4) h4) E⟩
theorem ex_dg {o : Option V} (e : Ex H H') (h : DGet H a y o) : DGet H' a y o := by
  rcases h with ⟨kvs, k, r, e1, e2⟩ | ⟨kvs, k, b, r, e1, hb, e2⟩
  · exact .inl ⟨kvs, k, ex_rd e r, e1, e2⟩
  · exact .inr ⟨kvs, k, b, ex_rd e r, e1, e _ _ hb, e2⟩
theorem ev_dget (h : Ev ta σ H (.ref a)) (hy : Ev tb σ H y) (hg : DGet H a y (some v)) : Ev (tDGet ta tb) σ H v := fun H1 e Q q =>
  h H1 e _ fun H2 e2 => hy H2 (e.trans e2) _ fun H3 e3 => ⟨a, v, rfl, ex_dg ((e.trans e2).trans e3) hg, q H3 (e2.trans e3)⟩
theorem ev_din {o : Option V} (hy : Ev tb σ H y) (h : Ev ta σ H (.ref a)) (hg : DGet H a y o) : Ev (tDIn tb ta) σ H (.bl o.isSome) := fun H1 e Q q =>
  hy H1 e _ fun H2 e2 => h H2 (e.trans e2) _ fun H3 e3 => ⟨a, o, rfl, ex_dg ((e.trans e2).trans e3) hg, q H3 (e2.trans e3)⟩
theorem ev_dnotin {o : Option V} (hy : Ev tb σ H y) (h : Ev ta σ H (.ref a)) (hg : DGet H a y o) : Ev (tDNotIn tb ta) σ H (.bl (!o.isSome)) := fun H1 e Q q =>
  hy H1 e _ fun H2 e2 => h H2 (e.trans e2) _ fun H3 e3 => ⟨a, o, rfl, ex_dg ((e.trans e2).trans e3) hg, q H3 (e2.trans e3)⟩
theorem ev_chain {r' : R2} {k c : Bool} (ha : Ev ta σ H x) (hb : Ev tb σ H y) (hr : RV r x y H (.bl k)) (hc : k = true → Ev tc σ H z ∧ RV r' y z H (.bl c)) : Ev (tChain r r' ta tb tc) σ H (.bl (k && c)) := fun H1 e Q q =>
  ha H1 e _ fun H2 e2 => hb H2 (e.trans e2) _ fun H3 e3 => hr H3 ((e.trans e2).trans e3) _ fun H4 e4 => ⟨k, rfl, by
    cases k with
    | true =>
      obtain ⟨h1, h2⟩ := hc rfl
      refine iteT ?_
      exact h1 H4 (((e.trans e2).trans e3).trans e4) _ fun H5 e5 => h2 H5 ((((e.trans e2).trans e3).trans e4).trans e5) Q fun H6 e6 => q H6 ((((e2.trans e3).trans e4).trans e5).trans e6)
    | false => exact iteF (q H4 ((e2.trans e3).trans e4))⟩
/-- behind any value: what is known is kept -/
theorem SpV.of {vs : List V} {sp : Sp} (h : ∀ H1, Ex H H1 → ∀ Q : VK, RetV z H1 Q → ∀ E : XK, sp vs H1 Q E) : SpV sp vs H z := fun H1 e Q q E => h H1 e Q q E
theorem et_dcmp {b : Bool} (h : Ev te σ H (.bl b)) : EvT (tB te) σ H b := et_B h
end
end HD
set_option Elab.async false
set_option linter.all false
set_option maxRecDepth 100000
set_option maxHeartbeats 2000000
namespace HD
open PySem PySem.Spec PyProof.Rows L2 Evl
section
variable {P : Program} {w : World} {K : PySem.W.Frag} {mg : Str → Option Value} {base : Heap}
def spIsInteger : Sp := fun vs H Q _ => ∃ i : Int, vs = [.int i] ∧ RetV (.bl true) H Q
theorem rc_isi_int {H : Hp} {i : Int} : RC (rIsi K) [.int i, .ty "int"] H (.bl true) := fun H1 _ Q q =>
  ⟨.int i, .ty "int", .type "int", .type "int", true, rfl, .ty _, .base (.int i), kit_ty (by decide +kernel), q H1 (Ex.refl _)⟩
theorem rc_isi_bool {H : Hp} {i : Int} : RC (rIsi K) [.int i, .ty "bool"] H (.bl false) := fun H1 _ Q q =>
  ⟨.int i, .ty "bool", .type "int", .type "bool", false, rfl, .ty _, .base (.int i), kit_ty (by decide +kernel), q H1 (Ex.refl _)⟩
theorem ok_is_integer (T : TX K mg) : Glob P w K mg base 1 "is_integer" ["thing"] spIsInteger := by
  refine glob_mk (N := ["thing"]) (F_is_integer T) (g_is_integer T) ⟨rfl, rfl, rfl, by decide +kernel, rfl, by decide +kernel, by decide +kernel⟩ (fun _ _ _ _ _ _ us hl => match us, hl with | [_], _ => rfl) (fun vs H Q E h => ?_) (fun cdv A outer s H vs Q E hr h => ?_)
  · obtain ⟨i, rfl, _⟩ := h
    rfl
  · obtain ⟨i, rfl, k⟩ := h
    refine ⟨_, pss_one (ps_ret (pe_and (pe_callB call_isi rfl (b_isinstance T) (by decide +kernel) (pa_cons (pv 0) (pa_cons (pe_bltn rfl (b_int T) (by decide +kernel) (v := .ty "int") rfl) pa_nil)))
      (pe_one (pe_not (pe_callB call_isi rfl (b_isinstance T) (by decide +kernel) (pa_cons (pv 0) (pa_cons (pe_bltn rfl (b_bool T) (by decide +kernel) (v := .ty "bool") rfl) pa_nil))))))), ?_⟩
    refine s_ret (v := .bl true) (ev_is (ev_andV (a := true) (b := true) (ev_cb (ea_cons (ev_var rfl) (ea_cons ev_c ea_nil)) rc_isi_int) fun _ => ev_notV (a := false) (ev_cb (ea_cons (ev_var rfl) (ea_cons ev_c ea_nil)) rc_isi_bool)) rfl) fun H1 e => k H1 e
def spIsBetween : Sp := fun vs H Q _ => ∃ i a b : Int, vs = [.int i, .int a, .int b] ∧ RetV (.bl (decide (a ≤ i) && decide (i ≤ b))) H Q
theorem ok_is_between (T : TX K mg) : Glob P w K mg base 2 "is_between" ["thing", "least", "most"] spIsBetween := by
  refine glob_mk (N := ["thing", "least", "most"]) (F_is_between T) (g_is_between T) ⟨rfl, rfl, rfl, by decide +kernel, rfl, by decide +kernel, by decide +kernel⟩ (fun _ _ _ _ _ _ us hl => match us, hl with | [_, _, _], _ => rfl) (fun vs H Q E h => ?_) (fun cdv A outer s H vs Q E hr h => ?_)
  · obtain ⟨i, a, b, rfl, _⟩ := h
    rfl
  · obtain ⟨i, a, b, rfl, k⟩ := h
    refine ⟨_, pss_one (ps_ret (pe_and (pg_call (ok_is_integer T) hr (by decide) rfl (pa_cons (pv 0) pa_nil)) (pe_one (pe_chain op_le op_le (pv 1) (pv 0) (pv 2))))), ?_⟩
    refine s_ret (v := .bl (decide (a ≤ i) && decide (i ≤ b))) (ev_is (ev_andV (a := true) (b := decide (a ≤ i) && decide (i ≤ b)) (ev_call (ea_cons (ev_var rfl) ea_nil) fun H1 e Q q E => ⟨i, rfl, q⟩)
      fun _ => ev_chain (ev_var rfl) (ev_var rfl) rv_I0 fun _ => ⟨ev_var rfl, rv_I0⟩) rfl) fun H1 e => k H1 e
def spCheckTime : Sp := fun vs H Q _ => ∃ i a : Int, vs = [.int i, .int a] ∧ a ≤ i ∧ i ≤ 10000000000000000000000000000000000000000 ∧ RetV .non H Q
theorem ok_check_time (T : TX K mg) : Glob P w K mg base 3 "check_time" ["thing", "least"] spCheckTime := by
  refine glob_mk (N := ["thing", "least"]) (F_check_time T) (g_check_time T) ⟨rfl, rfl, rfl, by decide +kernel, rfl, by decide +kernel, by decide +kernel⟩ (fun _ _ _ _ _ _ us hl => match us, hl with | [_, _], _ => rfl) (fun vs H Q E h => ?_) (fun cdv A outer s H vs Q E hr h => ?_)
  · obtain ⟨i, a, rfl, _⟩ := h
    rfl
  · obtain ⟨i, a, rfl, h1, h2, k⟩ := h
    refine ⟨_, pss_one (ps_if (pt_not (pt_val (pg_call (ok_is_between T) hr (by decide) rfl (pa_cons (pv 0) (pa_cons (pv 1) (pa_cons (pe_gi (i_MOST_TIME T) rfl) pa_nil)))))) pss_never pss_nil), ?_⟩
    refine s_when (b := false) (et_is (et_not (a := true) (et_B (ev_is (ev_call (ea_cons (ev_var rfl) (ea_cons (ev_var rfl) (ea_cons ev_c ea_nil))) fun H1 e Q q E => ⟨i, a, _, rfl, q⟩) ?_))) rfl) (fun q => nomatch q) (fun _ H1 e => k H1 e)
    rw [decide_eq_true h1, decide_eq_true h2]
    rfl
end
end HD
set_option Elab.async false
set_option linter.all false
set_option maxRecDepth 100000
set_option maxHeartbeats 2000000
/-! More of what readings evaluate to: comprehensions over enumerate and over a new dict, a list against the empty one, natural numbers. -/
namespace HD
open PySem PySem.Spec PyProof.Rows L2 Evl
/-! ### walking a dict that was just made -/
def iKeysF (td : TE) : TI := fun σ H R => td σ H fun x H1 => ∃ d kvs, x = .ref d ∧ H1 d = some (.dK kvs) ∧ ∀ o, R (Itk d o kvs) (upd H1 d (.frz o (.dK kvs)))
theorem pi_keysF {X : Cx} {tg e : Expr} {td : TE} (he : PE X e td) : PI X tg e (iKeysF td) := by
  refine ⟨fun pins s σ H R I h => ?_⟩
  refine thn (he.run pins s σ H _ I h) fun u s1 ⟨x, H1, I1, rx, d, kvs, ex, hd, q⟩ => ?_
  subst ex
  obtain rfl : u = Value.ref d := rx
  obtain ⟨o, I2⟩ := I1.lock hd trivial
  obtain ⟨hs, hgd, hx, es, ep, vs, hdt, hsz, kv, hm⟩ := I2.frzK upd_same
  refine iter_keys hs hgd hx hdt (pi_one (tk := s1.toks) I2 _ (turn_keys _ hdt) ⟨_, Heap.get?_push_size _ rfl, rfl, ?_⟩ (q o))
  rw [hsz] <;> rfl
/-- a new dict whose pairs are told by Pk; a new list told by Pl -/
def EvKP (te : TE) (σ : L2.St) (H : Hp) (Pk : List (Key × V) → Prop) : Prop := ∀ H1, Ex H H1 → ∀ Q : VK, (∀ kvs p H2, Pk kvs → H1 p = none → Ex H1 H2 → H2 p = some (.dK kvs) → Q (.ref p) H2) → te σ H1 Q
def EvLP (te : TE) (σ : L2.St) (H : Hp) (Pl : List V → Prop) : Prop := ∀ H1, Ex H H1 → ∀ Q : VK, (∀ xs p H2, Pl xs → H1 p = none → Ex H1 H2 → H2 p = some (.lst xs) → Q (.ref p) H2) → te σ H1 Q
section
variable {K : PySem.W.Frag} {σ : L2.St} {H H' : Hp} {ta tb tc te tx td : TE} {t u : TT} {x y z v : V} {r : R2} {a : Addr}
theorem el_lcF {Pk : List (Key × V) → Prop} {j : Nat} {vs : List Nat} (f : List (Key × V) → Nat → Bool) (v : List (Key × V) → Nat → V) (h : EvKP td σ H Pk) (hz : ∀ kvs, Pk kvs → kvs.length ≤ 40000) (hw : ∀ x, wipe ((wipe σ vs).set j (some x)) vs = wipe σ vs)
    (ht : ∀ kvs, Pk kvs → ∀ (i : Nat) (k : Key) (w : V) H1, Ex H H1 → kvs[i]? = some (k, w) → EvT t ((wipe σ vs).set j (some (kV k))) H1 (f kvs i))
    (he : ∀ kvs, Pk kvs → ∀ (i : Nat) (k : Key) (w : V) H1, Ex H H1 → kvs[i]? = some (k, w) → f kvs i = true → Ev te ((wipe σ vs).set j (some (kV k))) H1 (v kvs i)) :
    EvLP (tLc (iKeysF td) (gName j) t te vs) σ H (fun xs => ∃ kvs, Pk kvs ∧ xs = given kvs.length (f kvs) (v kvs)) := fun H0 e Q q => h H0 e _ fun kvs d H1 pk hd e1 h1 => by
  refine ⟨d, kvs, rfl, h1, fun o Dl hD => ?_⟩
  have nd : H0 d = none := hd
  have e2 : Ex H0 (upd H1 d (.frz o (.dK kvs))) := Ex.mut e1 nd
  have nDd : Dl ≠ d := fun z => by
    rw [z, upd_same] at hD
    cases hD
  refine lc_it (walk_keys (d := d) (o := o) (kvs := kvs)) (fun i H' => Cw (upd H1 d (.frz o (.dK kvs))) (f kvs) (v kvs) Dl i H') ⟨hD, Ex.new hD, upd_same⟩ (fun i H' _ p => p.2.1 _ _ upd_same) (fun i x H2 H3 hi p y => ?_) (fun H' p => q _ Dl H' ⟨kvs, pk, rfl⟩ ?_ (e2.trans p.2.1) p.2.2)
  · obtain ⟨rfl, k, w, hk, rfl⟩ := y
    have hi2 := hz kvs pk
    exact ⟨hw _, cw_turn p (by omega) ((ht kvs pk i k w _ (e.trans e2) hk)) fun hf => he kvs pk i k w _ (e.trans e2) hk hf⟩
  · exact fresh_back e2 hD
/-- over enumerate -/
theorem el_lcE {a : Addr} {xs : List V} {ts : TA} {j1 j2 : Nat} {vs : List Nat} (f : Nat → Bool) (v : Nat → V) (h : EvA ts σ H [.ref a]) (hx : SqL K H a xs) (hz : xs.length ≤ 40000) (hw : ∀ x y, wipe (((wipe σ vs).set j1 (some x)).set j2 (some y)) vs = wipe σ vs)
    (ht : ∀ (i : Nat) (x : V) H1, Ex H H1 → xs[i]? = some x → EvT t (((wipe σ vs).set j1 (some (.int (i : Nat)))).set j2 (some x)) H1 (f i))
    (he : ∀ (i : Nat) (x : V) H1, Ex H H1 → xs[i]? = some x → f i = true → Ev te (((wipe σ vs).set j1 (some (.int (i : Nat)))).set j2 (some x)) H1 (v i)) :
    EvL (tLc (iEnum K ts) (gTup K 2 (gCons (gName j1) (gCons (gName j2) gNil))) t te vs) σ H (given xs.length f v) := fun H0 e Q q => h H0 e _ fun H1 e1 => by
  refine ⟨a, xs, rfl, ex_l (e.trans e1) hx, fun Dl hD => ?_⟩
  refine lc_it (walk_enum (K := K) (a := a) (xs := xs)) (fun i H' => Cw H1 f v Dl i H') ⟨hD, Ex.new hD, upd_same⟩ (fun i H' _ p => ex_l ((e.trans e1).trans p.2.1) hx) (fun i x H2 H3 hi p y => ?_) (fun H' p => q Dl H' (fresh_back e1 p.1) (e1.trans p.2.1) p.2.2)
  obtain ⟨T, x1, x2, rfl, hT, rfl, h1, h2⟩ := y
  cases h1
  have p' : Cw H1 f v Dl i (upd H2 T (.tup [.int (i : Nat), x2])) := ⟨p.1, p.2.1.trans (Ex.new hT), by rw [upd_ne (ne_of_none p.2.2 hT)]; exact p.2.2⟩
  refine ⟨T, _, rfl, st_of upd_same, rfl, _, _, rfl, _, _, rfl, rfl, hw _ _, ?_⟩
  exact cw_turn p' (by omega) (ht i x2 H1 (e.trans e1) h2) fun hf => he i x2 H1 (e.trans e1) h2 hf
/-! ### a list against the empty one -/
/-- data of ints and of tuples of ints, as lists -/
inductive Flat2 (K : PySem.W.Frag) (H : Hp) : V → PyData → Prop where
  | int (i : Int) : Flat2 K H (.int i) (.int i)
  | tup {b : Addr} {is : List Int} (h : SqT K H b (is.map V.int)) : Flat2 K H (.ref b) (.tuple (is.map PyData.int))
theorem dpAll_ints {K : PySem.W.Frag} {H : Hp} : ∀ is : List Int, DpAll K H (is.map V.int) (is.map PyData.int)
  | [] => .nil
  | i :: r => .cons (.int i) (dpAll_ints r)
theorem lay_ints : ∀ is : List Int, PyData.canLayAll0 (is.map PyData.int) = true
  | [] => rfl
  | i :: r => by
    show (PyData.canLay0 (.int i) && PyData.canLayAll0 (r.map PyData.int)) = true
    rw [lay_ints r]
    rfl
theorem dep_ints : ∀ is : List Int, PyData.depthAll (is.map PyData.int) = 0
  | [] => rfl
  | i :: r => by
    show max (PyData.depth (.int i)) (PyData.depthAll (r.map PyData.int)) = 0
    rw [dep_ints r]
    rfl
theorem flat2_all {K : PySem.W.Frag} {H : Hp} : ∀ {xs : List V}, (∀ x ∈ xs, ∃ d, Flat2 K H x d) → ∃ ds, DpAll K H xs ds ∧ ds.length = xs.length ∧ PyData.canLayAll0 ds = true ∧ PyData.depthAll ds ≤ 1
  | [], _ => ⟨[], .nil, rfl, rfl, Nat.zero_le _⟩
  | x :: r, h => by
    obtain ⟨d, hd⟩ := h x (List.mem_cons_self ..)
    obtain ⟨ds, h1, h2, h3, h4⟩ := flat2_all (xs := r) fun y hy => h y (List.mem_cons_of_mem _ hy)
    refine ⟨d :: ds, ?_, congrArg Nat.succ h2, ?_, ?_⟩
    · cases hd with
      | int i => exact .cons (.int i) h1
      | tup hb => exact .cons (.tup hb (dpAll_ints _)) h1
    · show (PyData.canLay0 d && PyData.canLayAll0 ds) = true
      rw [h3, Bool.and_true]
      cases hd with
      | int i => rfl
      | tup hb => exact lay_ints _
    · show max (PyData.depth d) (PyData.depthAll ds) ≤ 1
      refine Nat.max_le.mpr ⟨?_, h4⟩
      cases hd with
      | int i => exact Nat.zero_le _
      | tup hb =>
        show PyData.depthAll _ + 1 ≤ 1
        rw [dep_ints]
        exact Nat.le_refl _
theorem flat2_ex {x : V} {d : PyData} (e : Ex H H') (h : Flat2 K H x d) : Flat2 K H' x d := by
  cases h with
  | int i => exact .int i
  | tup hb => exact .tup (ex_t e hb)
theorem eqv_nil {ds : List PyData} : PyData.eqv (.list ds) (.list []) = ds.isEmpty := by
  cases ds with
  | nil => rfl
  | cons a r => rfl
theorem shaped_of {ds : List PyData} (h : PyData.canLayAll0 ds = true) (hd : PyData.depthAll ds ≤ 1) : SeqAt.shaped (.list ds) = true := by
  show (PyData.canLayAll0 ds && decide (PyData.depthAll ds + 1 ≤ 64)) = true
  rw [h, decide_eq_true (by omega)]
  rfl
/-- what is asked: the list and its items; then xs == [] -/
theorem ev_eqNil {xs : List V} (h : Ev ta σ H (.ref a)) (hx : SqL K H a xs) (hf : ∀ x ∈ xs, ∃ d, Flat2 K H x d) : Ev (tOp (rEqD K) ta (tLst tNil)) σ H (.bl xs.isEmpty) := fun H1 e Q q => h H1 e _ fun H2 e2 => by
  refine ⟨Nat.zero_le _, fun p hp => ?_⟩
  have e3 : Ex H2 (upd H2 p (.lst [])) := Ex.new hp
  obtain ⟨ds, h1, h2, h3, h4⟩ := flat2_all (K := K) (H := upd H2 p (.lst [])) (xs := xs) fun x m => let ⟨d, hd⟩ := hf x m; ⟨d, flat2_ex ((e.trans e2).trans e3) hd⟩
  refine ⟨.list ds, .list [], .lst (ex_l ((e.trans e2).trans e3) hx) h1, .lst (SqL.of upd_same) .nil, shaped_of h3 h4, by decide, ?_⟩
  rw [eqv_nil]
  have e4 : ds.isEmpty = xs.isEmpty := by
    cases ds with
    | nil => cases xs with
      | nil => rfl
      | cons b r => exact absurd h2 (by simp)
    | cons c s => cases xs with
      | nil => exact absurd h2 (by simp)
      | cons b r => rfl
  rw [e4]
  exact q _ (e2.trans e3)
theorem ev_neNil {xs : List V} (h : Ev ta σ H (.ref a)) (hx : SqL K H a xs) (hf : ∀ x ∈ xs, ∃ d, Flat2 K H x d) : Ev (tOp (rNeD K) ta (tLst tNil)) σ H (.bl (!xs.isEmpty)) := fun H1 e Q q => h H1 e _ fun H2 e2 => by
  refine ⟨Nat.zero_le _, fun p hp => ?_⟩
  have e3 : Ex H2 (upd H2 p (.lst [])) := Ex.new hp
  obtain ⟨ds, h1, h2, h3, h4⟩ := flat2_all (K := K) (H := upd H2 p (.lst [])) (xs := xs) fun x m => let ⟨d, hd⟩ := hf x m; ⟨d, flat2_ex ((e.trans e2).trans e3) hd⟩
  refine ⟨.list ds, .list [], .lst (ex_l ((e.trans e2).trans e3) hx) h1, .lst (SqL.of upd_same) .nil, shaped_of h3 h4, by decide, ?_⟩
  rw [eqv_nil]
  have e4 : ds.isEmpty = xs.isEmpty := by
    cases ds with
    | nil => cases xs with
      | nil => rfl
      | cons b r => exact absurd h2 (by simp)
    | cons c s => cases xs with
      | nil => exact absurd h2 (by simp)
      | cons b r => rfl
  rw [e4]
  exact q _ (e2.trans e3)
/-! ### natural numbers -/
theorem rv_addN {i j : Nat} : RV (rI0 fun i j => .int (i + j)) (.int (i : Nat)) (.int (j : Nat)) H (.int ((i + j : Nat) : Int)) := rv_I0
theorem rv_add1 {i : Nat} : RV (rI0 fun i j => .int (i + j)) (.int (i : Nat)) (.int 1) H (.int ((i + 1 : Nat) : Int)) := rv_I0
theorem rv_subN {i j : Nat} (h : j ≤ i) : RV (rI0 fun i j => .int (i - j)) (.int (i : Nat)) (.int (j : Nat)) H (.int ((i - j : Nat) : Int)) := by
  have e : ((i - j : Nat) : Int) = (i : Int) - (j : Int) := by omega
  rw [e]
  exact rv_I0
theorem rv_sub1 {i : Nat} (h : 1 ≤ i) : RV (rI0 fun i j => .int (i - j)) (.int (i : Nat)) (.int 1) H (.int ((i - 1 : Nat) : Int)) := by
  have e : ((i - 1 : Nat) : Int) = (i : Int) - 1 := by omega
  rw [e]
  exact rv_I0
theorem cdivW {j b : Nat} {i : Int} (h : 0 < j) (hb : j < 2 ^ b) (h0 : 0 < b) (h9 : b ≤ 9000) : CDivW i (j : Nat) := wide_div (by omega) (by rw [Int.natAbs_natCast]; exact hb) h0 h9
theorem rv_divN {i j : Nat} (b : Nat) (h : 0 < j) (hb : j < 2 ^ b) (h0 : 0 < b := by decide) (h9 : b ≤ 9000 := by decide) : RV (rI CDivW fun i j => .int (i / j)) (.int (i : Nat)) (.int (j : Nat)) H (.int ((i / j : Nat) : Int)) := by
  rw [Int.natCast_ediv]
  exact rv_I (cdivW h hb h0 h9)
theorem rv_mulN {i j : Nat} (a b : Nat) (ha : i < 2 ^ a) (hb : j < 2 ^ b) (h0 : 0 < a := by decide) (h1 : 0 < b := by decide) (h : a + b ≤ 1000000 := by decide) : RV (rI CMulW fun i j => .int (i * j)) (.int (i : Nat)) (.int (j : Nat)) H (.int ((i * j : Nat) : Int)) := by
  rw [Int.natCast_mul]
  exact rv_I (wide_mul (by rw [Int.natAbs_natCast]; exact ha) (by rw [Int.natAbs_natCast]; exact hb) h0 h1 h)
theorem rv_modN {i j : Nat} (h : 0 < j) : RV (rI (fun _ j => 0 < j) fun i j => .int (i % j)) (.int (i : Nat)) (.int (j : Nat)) H (.int ((i % j : Nat) : Int)) := by
  rw [Int.natCast_emod]
  exact rv_I (by omega)
theorem rv_ltN {i j : Nat} : RV (rI0 fun i j => .bl (decide (i < j))) (.int (i : Nat)) (.int (j : Nat)) H (.bl (decide (i < j))) := by
  rw [show decide (i < j) = decide ((i : Int) < (j : Int)) from decide_eq_decide.mpr (by omega)]
  exact rv_I0
theorem rv_leN {i j : Nat} : RV (rI0 fun i j => .bl (decide (i ≤ j))) (.int (i : Nat)) (.int (j : Nat)) H (.bl (decide (i ≤ j))) := by
  rw [show decide (i ≤ j) = decide ((i : Int) ≤ (j : Int)) from decide_eq_decide.mpr (by omega)]
  exact rv_I0
theorem rv_gtN {i j : Nat} : RV (rI0 fun i j => .bl (decide (j < i))) (.int (i : Nat)) (.int (j : Nat)) H (.bl (decide (j < i))) := by
  rw [show decide (j < i) = decide ((j : Int) < (i : Int)) from decide_eq_decide.mpr (by omega)]
  exact rv_I0
theorem rv_geN {i j : Nat} : RV (rI0 fun i j => .bl (decide (j ≤ i))) (.int (i : Nat)) (.int (j : Nat)) H (.bl (decide (j ≤ i))) := by
  rw [show decide (j ≤ i) = decide ((j : Int) ≤ (i : Int)) from decide_eq_decide.mpr (by omega)]
  exact rv_I0
theorem rv_eqN {i j : Nat} : RV rEq (.int (i : Nat)) (.int (j : Nat)) H (.bl (decide (i = j))) := by
  rw [show decide (i = j) = decide (V.int (i : Nat) = V.int (j : Nat)) from decide_eq_decide.mpr ⟨fun e => by rw [e], fun e => by injection e with e; omega⟩]
  exact rv_eq rfl
theorem rv_neN {i j : Nat} : RV rNe (.int (i : Nat)) (.int (j : Nat)) H (.bl (decide (i ≠ j))) := by
  rw [show decide (i ≠ j) = !decide (V.int (i : Nat) = V.int (j : Nat)) from by
    rw [decide_not]
    exact congrArg _ (decide_eq_decide.mpr ⟨fun e => by rw [e], fun e => by injection e with e; omega⟩)]
  exact rv_ne rfl
theorem rv_eq0 {i : Nat} : RV rEq (.int (i : Nat)) (.int 0) H (.bl (decide (i = 0))) := rv_eqN (j := 0)
theorem rv_ne0 {i : Nat} : RV rNe (.int (i : Nat)) (.int 0) H (.bl (decide (i ≠ 0))) := rv_neN (j := 0)
/-! ### None or not -/
theorem ev_isN (h : Ev ta σ H x) : Ev (tIsN ta) σ H (.bl (decide (x = .non))) := fun H1 e Q q => h H1 e _ fun H2 e2 => q H2 e2
theorem ev_notN (h : Ev ta σ H x) : Ev (tNotN ta) σ H (.bl (!decide (x = .non))) := fun H1 e Q q => h H1 e _ fun H2 e2 => q H2 e2
theorem ev_int1 {i : Int} {ts : TA} (h : EvA ts σ H [.int i]) : Ev (tCB (fun xs H Q => (∃ i, xs = [.int i] ∧ Q (.int i) H) ∨ ∃ k, xs = [.bl k] ∧ Q (.int (if k then 1 else 0)) H) ts) σ H (.int i) := fun H1 e Q q =>
  h H1 e _ fun H2 e2 => .inl ⟨i, rfl, q H2 e2⟩
theorem ev_intb {k : Bool} {ts : TA} (h : EvA ts σ H [.bl k]) : Ev (tCB (fun xs H Q => (∃ i, xs = [.int i] ∧ Q (.int i) H) ∨ ∃ k, xs = [.bl k] ∧ Q (.int (if k then 1 else 0)) H) ts) σ H (.int (if k then 1 else 0)) := fun H1 e Q q =>
  h H1 e _ fun H2 e2 => .inr ⟨k, rfl, q H2 e2⟩
theorem ev_max2N {i j : Nat} {ts : TA} (h : EvA ts σ H [.int (i : Nat), .int (j : Nat)]) : Ev (tCB (fun xs H Q => ∃ i j, xs = [.int i, .int j] ∧ Q (.int (if j > i then j else i)) H) ts) σ H (.int ((max i j : Nat) : Int)) := fun H1 e Q q =>
  h H1 e _ fun H2 e2 => ⟨i, j, rfl, by
    have e3 : (if (j : Int) > (i : Int) then (j : Int) else (i : Int)) = ((max i j : Nat) : Int) := by
      split <;> omega
    rw [e3]
    exact q H2 e2⟩
theorem ev_min2N {i j : Nat} {ts : TA} (h : EvA ts σ H [.int (i : Nat), .int (j : Nat)]) : Ev (tCB (fun xs H Q => ∃ i j, xs = [.int i, .int j] ∧ Q (.int (if j < i then j else i)) H) ts) σ H (.int ((min i j : Nat) : Int)) := fun H1 e Q q =>
  h H1 e _ fun H2 e2 => ⟨i, j, rfl, by
    have e3 : (if (j : Int) < (i : Int) then (j : Int) else (i : Int)) = ((min i j : Nat) : Int) := by
      split <;> omega
    rw [e3]
    exact q H2 e2⟩
end
/-! ### rules whose written part is a letter (within a comprehension's block) -/
section
variable {X : Cx} {K : PySem.W.Frag} {e a b : Expr} {f : Str} {pos : Pos} {ta tb : TE}
theorem kfld (he : PE X e ta) (hK : X.K = K := by rfl) (hb : attributeBase e f X.env (eval e X.env) = eval e X.env := by rfl) : PE X (.Attribute e f pos) (tFld K ta f) := by
  subst hK
  exact pe_fld he hb
theorem kix (ha : PE X a ta) (hb : PE X b tb) (hs : PlainIx b := by exact fun _ _ => rfl) (hK : X.K = K := by rfl) : PE X (.Subscript a b pos) (tOp (rIxL K) ta tb) := by
  subst hK
  exact pe_ix ix_list ha hb hs
theorem kixT (ha : PE X a ta) (hb : PE X b tb) (hs : PlainIx b := by exact fun _ _ => rfl) (hK : X.K = K := by rfl) : PE X (.Subscript a b pos) (tOp (rIxT K) ta tb) := by
  subst hK
  exact pe_ix ix_tup ha hb hs
theorem ktup {es : List Expr} {k : Nat} {t : TGs} (n : Nat) (hc : X.calm = true) (h : PGs X es t) (hn : (assignEach es X.env).length = n := by rfl) (hst : (assignEach es X.env).findIdx? (·.1) = none := by rfl) (hK : X.K = K := by rfl) : PG X (.Tuple es k pos) (gTup K n t) := by
  subst hK
  exact pg_tup hc h hn hst
theorem klen {p : Pos} {es : List Expr} {t : TA} (hg : Gl X "len") (hm : X.mg "len" = none) (ha : PA X (e :: es) t) (he : starEach (e :: es) X.env = (false, eval e X.env) :: starEach es X.env := by rfl) (hpl : (backTo pos (starEach es X.env)).any (·.1) = false := by rfl) (hK : X.K = K := by rfl) : PE X (.Call (.Name "len" p) (e :: es) [] pos) (tCB (rLenS K) t) := by
  subst hK
  exact pe_callB call_len_seq hg hm (by decide +kernel) ha (by decide) (by decide) he hpl
theorem kin (ha : PE X a ta) (hb : PE X b tb) (hm : behindInMarks .In b = false := by rfl) (hK : X.K = K := by rfl) : PE X (.Compare a [.In] [b] pos) (tOp (rIn K false) ta tb) := by
  subst hK
  exact pe_cmpR op_in_seq ha hb hm
theorem knotin (ha : PE X a ta) (hb : PE X b tb) (hm : behindInMarks .NotIn b = false := by rfl) (hK : X.K = K := by rfl) : PE X (.Compare a [.NotIn] [b] pos) (tOp (rIn K true) ta tb) := by
  subst hK
  exact pe_cmpR op_notIn_seq ha hb hm
theorem ktin (ha : PE X a ta) (hb : PE X b tb) (hm : behindInMarks .In b = false := by rfl) (hK : X.K = K := by rfl) : PT X (.Compare a [.In] [b] pos) (tTest (tOp (rIn K false) ta tb)) := by
  subst hK
  exact pt_cmpR op_in_seq ha hb hm
theorem ktnotin (ha : PE X a ta) (hb : PE X b tb) (hm : behindInMarks .NotIn b = false := by rfl) (hK : X.K = K := by rfl) : PT X (.Compare a [.NotIn] [b] pos) (tTest (tOp (rIn K true) ta tb)) := by
  subst hK
  exact pt_cmpR op_notIn_seq ha hb hm
end
/-! ### readings opened one layer at a time -/
section
variable {K : PySem.W.Frag} {σ : L2.St} {H : Hp} {te : TE} {tk : TA} {t u : TS} {D : Ends} {Q : VK} {Pl : List V → Prop} {xs : List V} {g : TG}
theorem u_ret (h : te σ H D.rt) : tRet te D σ H := h
theorem u_seq (h : t { D with nx := u D } σ H) : tSeq t u D σ H := h
theorem u_ifB (h : te σ H fun x H1 => ∃ c, x = .bl c ∧ if c = true then t D σ H1 else u D σ H1) : tIfS (tB te) t u D σ H := h
theorem u_asg (h : te σ H fun x H1 => g x σ H1 D.nx) : tAsg te g D σ H := h
theorem u_drop (h : te σ H fun _ H1 => D.nx σ H1) : tDrop te D σ H := h
theorem u_cbL {r : List V → Hp → VK → Prop} (h : EvL te σ H xs) (k : ∀ p H1, H p = none → Ex H H1 → H1 p = some (.lst xs) → r [.ref p] H1 Q) : tCB r (tCons te tNil) σ H Q := h H (Ex.refl H) _ k
theorem u_cbLP {r : List V → Hp → VK → Prop} (h : EvLP te σ H Pl) (k : ∀ xs p H1, Pl xs → H p = none → Ex H H1 → H1 p = some (.lst xs) → r [.ref p] H1 Q) : tCB r (tCons te tNil) σ H Q := h H (Ex.refl H) _ k
theorem u_ckwL {r : List V → List V → Hp → VK → Prop} (h : EvL te σ H xs) (k : ∀ p H1, H p = none → Ex H H1 → H1 p = some (.lst xs) → tk σ H1 fun zs H2 => r [.ref p] zs H2 Q) : tCKw r (tCons te tNil) tk σ H Q := h H (Ex.refl H) _ k
end
section
variable {σ : L2.St} {H : Hp} {td ty tv : TE} {D : Ends} {a : Addr} {kvs : List (L2.Key × V)} {k : L2.Key} {v : V}
/-- d.pop(k) as a statement -/
theorem q_pop (h : Ev td σ H (.ref a)) (ha : H a = some (.dK kvs)) (hy : Ev ty σ H (kV k)) (hv : valV kvs k = some v) (q : ∀ H1, Ex H H1 → D.nx σ (upd H1 a (.dK (dropK kvs k)))) : tDrop (tDPop1 td ty) D σ H :=
  h H (Ex.refl H) _ fun H1 e1 => ⟨a, rfl, .inl ⟨_, .inl (e1 _ _ ha)⟩, hy H1 e1 _ fun H2 e2 => ⟨kvs, k, v, e2 _ _ (e1 _ _ ha), rfl, hv, q H2 (e1.trans e2)⟩⟩
/-- d[k] = v -/
theorem q_put (hw : Ev tv σ H v) (h : Ev td σ H (.ref a)) (ha : H a = some (.dK kvs)) (hy : Ev ty σ H (kV k)) (hl : kvs.length < 100000) (q : ∀ H1, Ex H H1 → D.nx σ (upd H1 a (.dK (putK kvs k v)))) : sDPut td ty tv D σ H :=
  hw H (Ex.refl H) _ fun H0 e0 => h H0 e0 _ fun H1 e1 => hy H1 (e0.trans e1) _ fun H2 e2 => ⟨a, _, rfl, DPut.k (e2 _ _ (e1 _ _ (e0 _ _ ha))) (sz_lt hl), q H2 ((e0.trans e1).trans e2)⟩
end
/-! ### a walrus ahead of and -/
def wAnd (t : TTw) (u : TT) : TTw := fun σ H Q => t σ H fun c σ1 H1 => if c = true then u σ1 H1 fun d H2 => Q d σ1 H2 else Q false σ1 H1
theorem ptw_and {X : Cx} {a b : Expr} {rest : List Expr} {pos : Pos} {tA : TTw} {tB : TT} (ha : PTw X a tA) (hb : PW X (.BoolOp .And (b :: rest) pos) tB) : PTw X (.BoolOp .And (a :: b :: rest) pos) (wAnd tA tB) := by
  refine ⟨fun pins s σ H Q I h => ?_⟩
  refine isTrue_and (thn (ha.run pins s σ H _ I h) fun c s1 ⟨σ1, H1, I1, q1⟩ => ?_)
  cases c with
  | true => exact thn (hb.run _ pins s1 σ1 H1 _ I1 (by simpa using q1)) fun d s2 ⟨H2, I2, q2⟩ => ⟨σ1, H2, I2, q2⟩
  | false => exact ⟨σ1, H1, I1, by simpa using q1⟩
end HD
/-! The plain side: what the program's objects hold, what the law's world holds, in plain Lean. -/
namespace HD
/-- f with x at i -/
def fset {α : Type} (f : Nat → α) (i : Nat) (x : α) : Nat → α := fun j => if j = i then x else f j
theorem fset_same {α : Type} (f : Nat → α) (i : Nat) (x : α) : fset f i x i = x := if_pos rfl
theorem fset_ne {α : Type} (f : Nat → α) {i j : Nat} (x : α) (h : j ≠ i) : fset f i x j = f j := if_neg h
/-- the oldest generation -/
def lastOf (ps : List Nat) : Nat := ps.length - 1
/-- how many of the next places divide t -/
def lvlL (t : Nat) : List Nat → Nat
  | [] => 0
  | p :: r => if t % p = 0 then 1 + lvlL t r else 0
/-- the level of a collection -/
def lvl (ps : List Nat) (t : Nat) : Nat := lvlL t ps.tail
/-- the place of a level -/
def plc (ps : List Nat) (l : Nat) : Nat := ps.getD l 1
/-- the next collection of at least a level -/
def nxt (ps : List Nat) (t l : Nat) : Nat := (t / plc ps l + 1) * plc ps l
/-- the levels at which two times differ -/
def difs (ps : List Nat) (b t : Nat) : List Nat := (List.range ps.length).filter fun j => decide (b / plc ps j ≠ t / plc ps j)
/-- the generation by digits -/
def dig (ps : List Nat) (b t : Nat) : Nat := match (difs ps b t).getLast? with
  | none => 0
  | some j => min (lastOf ps) (1 + j)
/-- what is reached -/
inductive Reach (st : Nat → List Nat) (s : Nat → Prop) : Nat → Prop where
  | start {x : Nat} (h : s x) : Reach st s x
  | step {x y : Nat} (h : Reach st s x) (e : y ∈ st x) : Reach st s y
/-- what a heap holds -/
structure HS where
  ps : List Nat
  time : Nat
  n : Nat
  birth : Nat → Nat
  death : Nat → Option Nat
  rank : Nat → Option Nat
  freed : Nat → Bool
  forced : Nat → Nat
  pend : Nat → Bool
  tg : Nat → List Nat
  sr : Nat → List Nat
  roots : List Nat
  nd : Nat
/-- a generation by the birth and the forced collections since, at a time -/
def HS.genAt (S : HS) (i t : Nat) : Nat := min (lastOf S.ps) (max (dig S.ps (S.birth i) t) (S.forced i))
def HS.gen (S : HS) (i : Nat) : Nat := S.genAt i S.time
/-- what holds of each heap at any moment: numbers in bounds -/
structure HS.Wf (S : HS) : Prop where
  ps1 : ∃ r, S.ps = 1 :: r
  pos : ∀ p ∈ S.ps, 0 < p
  n60 : S.n ≤ 60
  psn : S.ps.length ≤ 7
  psb : ∀ p ∈ S.ps, p < 2 ^ 300
  tb : S.time < 2 ^ 300
  tgn : ∀ i, i < S.n → (S.tg i).Nodup
  srn : ∀ i, i < S.n → (S.sr i).Nodup
  tgl : ∀ i j, i < S.n → j ∈ S.tg i → j < S.n
  srl : ∀ i j, i < S.n → j ∈ S.sr i → j < S.n
  rn : S.roots.Nodup
  rl : ∀ i, i ∈ S.roots → i < S.n
/-- what holds between two actions -/
structure HS.Good (S : HS) : Prop where
  ts : ∀ i j, i < S.n → j < S.n → (j ∈ S.tg i ↔ i ∈ S.sr j)
  rk : ∀ i, i < S.n → S.death i ≠ none → S.freed i = false → ∃ r, S.rank i = some r ∧ r ≤ lastOf S.ps
  fr : ∀ i, i < S.n → S.freed i = true → S.tg i = [] ∧ S.sr i = []
  fd : ∀ i, i < S.n → S.freed i = true → S.death i ≠ none
  lv : ∀ i j, i < S.n → j ∈ S.tg i → S.death i = none → S.death j = none
  rt : ∀ i, i ∈ S.roots → S.death i = none
/-- the next numbered collection that finds a dead object -/
def HS.fat (S : HS) (i : Nat) : Nat := nxt S.ps S.time ((S.rank i).getD 0)
/-- one that reaches it has a finalizer that has not run and is found together with it -/
def HS.keeps (S : HS) (i : Nat) : Prop := ∃ h, Reach S.sr (· = i) h ∧ S.pend h = true ∧ S.fat h = S.fat i
open Classical in
/-- the due -/
noncomputable def HS.due (S : HS) (i : Nat) : Option Nat :=
  if S.death i = none then none else if S.keeps i then some (nxt S.ps (S.fat i) (min (lastOf S.ps) (lvl S.ps (S.fat i) + 1))) else some (S.fat i)
theorem Reach.mono {st st' : Nat → List Nat} {s s' : Nat → Prop} (h1 : ∀ x, s x → s' x) (h2 : ∀ x y, y ∈ st x → y ∈ st' x) {x : Nat} (r : Reach st s x) : Reach st' s' x := by
  induction r with
  | start h => exact .start (h1 _ h)
  | step _ e ih => exact .step ih (h2 _ _ e)
theorem Reach.congr {st : Nat → List Nat} {s s' : Nat → Prop} (h : ∀ x, s x ↔ s' x) {x : Nat} : Reach st s x ↔ Reach st s' x :=
  ⟨Reach.mono (fun x => (h x).mp) fun _ _ e => e, Reach.mono (fun x => (h x).mpr) fun _ _ e => e⟩
theorem Reach.lt {st : Nat → List Nat} {s : Nat → Prop} {n : Nat} (h1 : ∀ x, s x → x < n) (h2 : ∀ x y, x < n → y ∈ st x → y < n) {x : Nat} (r : Reach st s x) : x < n := by
  induction r with
  | start h => exact h1 _ h
  | step _ e ih => exact h2 _ _ ih e
/-- those that reach a dead object are dead, and not freed (itself apart) -/
theorem HS.Good.up {S : HS} (g : S.Good) (w : S.Wf) {i h : Nat} (hi : i < S.n) (hd : S.death i ≠ none) (hf : S.freed i = false) (r : Reach S.sr (· = i) h) : h < S.n ∧ S.death h ≠ none ∧ S.freed h = false := by
  induction r with
  | start e =>
    subst e
    exact ⟨hi, hd, hf⟩
  | @step x y r e ih =>
    obtain ⟨h1, h2, h3⟩ := ih
    have hy := w.srl x y h1 e
    have ht := (g.ts y x hy h1).mpr e
    refine ⟨hy, fun z => h2 (g.lv y x hy ht z), ?_⟩
    cases q : S.freed y with
    | false => rfl
    | true =>
      rw [(g.fr y hy q).1] at ht
      cases ht
end HD
set_option Elab.async false
set_option linter.all false
set_option maxRecDepth 100000
set_option maxHeartbeats 2000000
/-! How a heap of the program lies in memory: a label a thing, what stands at each. -/
namespace HD
open PySem PySem.Spec PyProof.Rows L2 Evl
/-! ### lists by a function -/
def vl (n : Nat) (f : Nat → V) : List V := (List.range n).map f
theorem vl_len {n : Nat} {f : Nat → V} : (vl n f).length = n := by unfold vl; rw [List.length_map, List.length_range]
theorem vl_get {n : Nat} {f : Nat → V} {i : Nat} (h : i < n) : (vl n f)[i]? = some (f i) := by
  unfold vl
  rw [List.getElem?_map, List.getElem?_range h]
  rfl
theorem vl_at {n : Nat} {f : Nat → V} {i : Nat} {x : V} (h : (vl n f)[i]? = some x) : i < n ∧ x = f i := by
  have hi : i < n := by
    have q := (List.getElem?_eq_some_iff.mp h).1
    rw [vl_len] at q
    exact q
  rw [vl_get hi] at h
  exact ⟨hi, (Option.some.inj h).symm⟩
theorem vl_congr {n : Nat} {f g : Nat → V} (h : ∀ i, i < n → f i = g i) : vl n f = vl n g := by
  unfold vl
  exact List.map_congr_left fun i hi => h i (List.mem_range.mp hi)
theorem vl_ext {n : Nat} {f : Nat → V} {l : List V} (hl : l.length = n) (h : ∀ i, i < n → l[i]? = some (f i)) : l = vl n f := by
  refine List.ext_getElem? fun i => ?_
  by_cases hi : i < n
  · rw [h i hi, vl_get hi]
  · rw [List.getElem?_eq_none (by omega), List.getElem?_eq_none (by rw [vl_len]; omega)]
theorem vl_set {n : Nat} {f : Nat → V} {i : Nat} {x : V} : (vl n f).set i x = vl n (fset f i x) := by
  refine vl_ext (by rw [List.length_set, vl_len]) fun j hj => ?_
  by_cases e : j = i
  · subst e
    rw [List.getElem?_set_self (by rw [vl_len]; exact hj), fset_same]
  · rw [List.getElem?_set_ne (Ne.symm e), vl_get hj, fset_ne _ _ e]
theorem vl_app {n : Nat} {f : Nat → V} {x : V} : vl n f ++ [x] = vl (n + 1) (fset f n x) := by
  refine vl_ext (by rw [List.length_append, vl_len]; rfl) fun j hj => ?_
  by_cases e : j = n
  · subst e
    rw [List.getElem?_append_right (by rw [vl_len]; exact Nat.le_refl _), vl_len, fset_same, Nat.sub_self]
    rfl
  · rw [List.getElem?_append_left (by rw [vl_len]; omega), vl_get (by omega), fset_ne _ _ e]
theorem fset_map {α : Type} (g : α → V) (f : Nat → α) (i : Nat) (x : α) : (fun j => g (fset f i x j)) = fset (fun j => g (f j)) i (g x) := by
  funext j
  unfold fset
  split <;> rfl
/-! ### values -/
def oV : Option Nat → V
  | none => .non
  | some t => .int (t : Nat)
theorem oV_non {o : Option Nat} : oV o = .non ↔ o = none := by
  cases o with
  | none => exact ⟨fun _ => rfl, fun _ => rfl⟩
  | some t => exact ⟨fun h => (by cases h), fun h => (by cases h)⟩
theorem oV_dec {o : Option Nat} : decide (oV o = .non) = o.isNone := by
  cases o with
  | none => rfl
  | some t => exact decide_eq_false fun h => (by cases h)
abbrev nV (n : Nat) : V := .int (n : Nat)
/-- a dict whose keys are these numbers, each True -/
def kD (l : List Nat) : List (Key × V) := l.map fun (k : Nat) => ((Sum.inl (k : Int) : Key), V.bl true)
theorem kD_len {l : List Nat} : (kD l).length = l.length := by unfold kD; rw [List.length_map]
theorem kD_val : ∀ {l : List Nat} {k : Nat}, valV (kD l) (Sum.inl (k : Int)) = if k ∈ l then some (.bl true) else none
  | [], k => by rw [if_neg (by simp)]; rfl
  | a :: r, k => by
    show valV ((Sum.inl (a : Int), V.bl true) :: kD r) (Sum.inl (k : Int)) = _
    by_cases e : a = k
    · subst e
      rw [valV_pos rfl, if_pos (List.mem_cons_self ..)]
    · rw [valV_neg (fun q => e (by injection q with q; omega)), kD_val]
      by_cases m : k ∈ r
      · rw [if_pos m, if_pos (List.mem_cons_of_mem _ m)]
      · rw [if_neg m, if_neg (fun q => by
          rcases List.mem_cons.mp q with z | z
          · exact e z.symm
          · exact m z)]
theorem kD_some {l : List Nat} {k : Nat} : (valV (kD l) (Sum.inl (k : Int))).isSome = decide (k ∈ l) := by
  rw [kD_val]
  by_cases m : k ∈ l
  · rw [if_pos m, decide_eq_true m]
    rfl
  · rw [if_neg m, decide_eq_false m]
    rfl
/-- a key put in -/
def addK (l : List Nat) (k : Nat) : List Nat := if k ∈ l then l else l ++ [k]
/-- a key taken out -/
def delK (l : List Nat) (k : Nat) : List Nat := l.filter fun j => decide (j ≠ k)
theorem kD_put {l : List Nat} {k : Nat} : putK (kD l) (Sum.inl (k : Int)) (.bl true) = kD (addK l k) := by
  unfold addK
  by_cases m : k ∈ l
  · rw [if_pos m]
    unfold putK
    rw [valV_any, kD_some, decide_eq_true m, if_pos rfl]
    unfold kD
    rw [List.map_map]
    refine List.map_congr_left fun a _ => ?_
    show (if (Sum.inl (a : Int) : Key) = Sum.inl (k : Int) then ((Sum.inl (a : Int) : Key), V.bl true) else (Sum.inl (a : Int), V.bl true)) = (Sum.inl (a : Int), V.bl true)
    split <;> rfl
  · rw [if_neg m, putK_new _ (by rw [kD_val, if_neg m])]
    unfold kD
    rw [List.map_append]
    rfl
theorem kD_drop {l : List Nat} {k : Nat} : dropK (kD l) (Sum.inl (k : Int)) = kD (delK l k) := by
  unfold dropK kD delK
  rw [List.filter_map]
  refine congrArg _ (List.filter_congr fun a _ => ?_)
  show decide ((Sum.inl (a : Int) : Key) ≠ Sum.inl (k : Int)) = decide (a ≠ k)
  rw [decide_eq_decide]
  constructor
  · intro h e
    exact h (by rw [e])
  · intro h e
    exact h (by injection e with e; omega)
theorem mem_addK {l : List Nat} {k x : Nat} : x ∈ addK l k ↔ x ∈ l ∨ x = k := by
  unfold addK
  split
  · rename_i m
    exact ⟨.inl, fun h => h.elim id fun e => e ▸ m⟩
  · rw [List.mem_append, List.mem_singleton]
theorem nd_addK {l : List Nat} {k : Nat} (h : l.Nodup) : (addK l k).Nodup := by
  unfold addK
  split
  · exact h
  · rename_i m
    exact nd_snoc h m
theorem mem_delK {l : List Nat} {k x : Nat} : x ∈ delK l k ↔ x ∈ l ∧ x ≠ k := by
  unfold delK
  rw [List.mem_filter, decide_eq_true_eq]
theorem nd_delK {l : List Nat} {k : Nat} (h : l.Nodup) : (delK l k).Nodup := h.filter _
theorem len_addK {l : List Nat} {k : Nat} : (addK l k).length ≤ l.length + 1 := by
  unfold addK
  split
  · omega
  · rw [List.length_append]
    exact Nat.le_refl _
/-- distinct numbers below n: at most n -/
theorem nd_len : ∀ {n : Nat} {l : List Nat}, l.Nodup → (∀ i ∈ l, i < n) → l.length ≤ n
  | 0, l, _, h => by
    cases l with
    | nil => exact Nat.le_refl _
    | cons a r => exact absurd (h a (List.mem_cons_self ..)) (Nat.not_lt_zero _)
  | n + 1, l, hn, h => by
    have q := nd_len (n := n) (nd_delK (k := n) hn) fun i hi => by
      have := mem_delK.mp hi
      have := h i this.1
      omega
    have e : l.length ≤ (delK l n).length + 1 := by
      clear q h
      induction l with
      | nil => exact Nat.zero_le _
      | cons a r ih =>
        obtain ⟨h1, h2⟩ := List.nodup_cons.mp hn
        by_cases e : a = n
        · subst e
          have e2 : delK (a :: r) a = delK r a := by
            unfold delK
            rw [List.filter_cons, if_neg (by simp)]
          have e3 : delK r a = r := by
            unfold delK
            exact List.filter_eq_self.mpr fun b hb => decide_eq_true fun z => h1 (z ▸ hb)
          rw [e2, e3]
          exact Nat.le_refl _
        · have e2 : delK (a :: r) n = a :: delK r n := by
            unfold delK
            rw [List.filter_cons, if_pos (decide_eq_true e)]
          rw [e2, List.length_cons, List.length_cons]
          have := ih h2
          omega
    omega
/-! ### labels -/
inductive Lab where
  | inst | births | deaths | ranks | freed | found | forced | pending | targets | sources | roots | done | sc | scp | scq
  | tg (i : Nat) | sr (i : Nat)
  deriving DecidableEq
/-- where things lie; the lists whose items do not matter -/
structure Rep where
  at_ : Lab → Addr
  dx : Addr
  sdx : Addr
  fv : List V
  fo : List V
  dn : List V
  parts : List V
def scF (a b : Addr) : List (Str × V) := [("parts", .ref a), ("places", .ref b)]
def hpF (A : Rep) (t : Nat) : List (Str × V) := [("kept_scheme", .ref (A.at_ .sc)), ("time", nV t), ("births", .ref (A.at_ .births)), ("deaths", .ref (A.at_ .deaths)), ("ranks", .ref (A.at_ .ranks)), ("freed", .ref (A.at_ .freed)),
  ("found", .ref (A.at_ .found)), ("forced_to", .ref (A.at_ .forced)), ("pending", .ref (A.at_ .pending)), ("targets", .ref (A.at_ .targets)), ("sources", .ref (A.at_ .sources)), ("root_set", .ref (A.at_ .roots)), ("done", .ref (A.at_ .done))]
def obj (K : PySem.W.Frag) (A : Rep) (S : HS) : Lab → HO
  | .inst => .ins (CH K) A.dx (hpF A S.time)
  | .births => .lst (vl S.n fun i => nV (S.birth i))
  | .deaths => .lst (vl S.n fun i => oV (S.death i))
  | .ranks => .lst (vl S.n fun i => oV (S.rank i))
  | .freed => .lst A.fv
  | .found => .lst A.fo
  | .forced => .lst (vl S.n fun i => nV (S.forced i))
  | .pending => .lst (vl S.n fun i => .bl (S.pend i))
  | .targets => .lst (vl S.n fun i => .ref (A.at_ (.tg i)))
  | .sources => .lst (vl S.n fun i => .ref (A.at_ (.sr i)))
  | .roots => .dK (kD S.roots)
  | .done => .lst A.dn
  | .sc => .ins (CS K) A.sdx (scF (A.at_ .scp) (A.at_ .scq))
  | .scp => .lst A.parts
  | .scq => .lst (S.ps.map fun p => nV p)
  | .tg i => .dK (kD (S.tg i))
  | .sr i => .dK (kD (S.sr i))
def okL (n : Nat) : Lab → Prop
  | .tg i => i < n
  | .sr i => i < n
  | _ => True
structure HeapAt (K : PySem.W.Frag) (H : Hp) (A : Rep) (S : HS) : Prop where
  ob : ∀ l, okL S.n l → H (A.at_ l) = some (obj K A S l)
  inj : ∀ l l', okL S.n l → okL S.n l' → A.at_ l = A.at_ l' → l = l'
  wf : S.Wf
  fvl : A.fv.length = S.n
  fvn : ∀ i, i < S.n → ∃ v, A.fv[i]? = some v ∧ (v = .non ↔ S.freed i = false)
  fol : A.fo.length = S.n
  dnl : A.dn.length = S.nd
/-- whose the addresses are -/
def Own (A : Rep) (n : Nat) (b : Addr) : Prop := ∃ l, okL n l ∧ A.at_ l = b
/-- all that was tracked but what F holds is as it was -/
def Chg (F : Addr → Prop) (H H' : Hp) : Prop := ∀ b o, H b = some o → ¬ F b → H' b = some o
theorem HeapAt.ex {K : PySem.W.Frag} {H H' : Hp} {A : Rep} {S : HS} (h : HeapAt K H A S) (e : Ex H H') : HeapAt K H' A S :=
  ⟨fun l hl => e _ _ (h.ob l hl), h.inj, h.wf, h.fvl, h.fvn, h.fol, h.dnl⟩
theorem HeapAt.frame {K : PySem.W.Frag} {H H' : Hp} {A : Rep} {S : HS} {F : Addr → Prop} (h : HeapAt K H A S) (e : Chg F H H') (d : ∀ b, F b → ¬ Own A S.n b) : HeapAt K H' A S :=
  ⟨fun l hl => e _ _ (h.ob l hl) fun f => d _ f ⟨l, hl, rfl⟩, h.inj, h.wf, h.fvl, h.fvn, h.fol, h.dnl⟩
theorem Chg.refl (F : Addr → Prop) (H : Hp) : Chg F H H := fun _ _ h _ => h
theorem Chg.ex {F : Addr → Prop} {H H' : Hp} (e : Ex H H') : Chg F H H' := fun b o h _ => e b o h
theorem Chg.trans {F : Addr → Prop} {H H1 H2 : Hp} (a : Chg F H H1) (b : Chg F H1 H2) : Chg F H H2 := fun c o h f => b c o (a c o h f) f
theorem Chg.upd {F : Addr → Prop} {H : Hp} {p : Addr} {o : HO} (h : F p) : Chg F H (upd H p o) := fun b u e f => by
  rw [upd_ne (fun z => f (by rw [z]; exact h))]
  exact e
theorem Chg.mono {F G : Addr → Prop} {H H' : Hp} (a : Chg F H H') (h : ∀ b, F b → G b) : Chg G H H' := fun b o e f => a b o e fun z => f (h b z)
/-- a scheme stands at sc -/
def SchemeAt (K : PySem.W.Frag) (H : Hp) (sc : Addr) (ps : List Nat) : Prop := ∃ dx a b, H sc = some (.ins (CS K) dx (scF a b)) ∧ H b = some (.lst (ps.map fun p => nV p))
theorem SchemeAt.ex {K : PySem.W.Frag} {H H' : Hp} {sc : Addr} {ps : List Nat} (h : SchemeAt K H sc ps) (e : Ex H H') : SchemeAt K H' sc ps :=
  let ⟨dx, a, b, h1, h2⟩ := h; ⟨dx, a, b, e _ _ h1, e _ _ h2⟩
theorem HeapAt.scheme {K : PySem.W.Frag} {H : Hp} {A : Rep} {S : HS} (h : HeapAt K H A S) : SchemeAt K H (A.at_ .sc) S.ps :=
  ⟨A.sdx, A.at_ .scp, A.at_ .scq, h.ob .sc trivial, h.ob .scq trivial⟩
/-! ### fields by name -/
theorem sc_places (a b : Addr) : (scF a b).lookup ("places" : Str) = some (.ref b) := by kernel_rfl
theorem hf_sc (A : Rep) (t : Nat) : (hpF A t).lookup ("kept_scheme" : Str) = some (.ref (A.at_ .sc)) := by kernel_rfl
theorem hf_time (A : Rep) (t : Nat) : (hpF A t).lookup ("time" : Str) = some (nV t) := by kernel_rfl
theorem hf_births (A : Rep) (t : Nat) : (hpF A t).lookup ("births" : Str) = some (.ref (A.at_ .births)) := by kernel_rfl
theorem hf_deaths (A : Rep) (t : Nat) : (hpF A t).lookup ("deaths" : Str) = some (.ref (A.at_ .deaths)) := by kernel_rfl
theorem hf_ranks (A : Rep) (t : Nat) : (hpF A t).lookup ("ranks" : Str) = some (.ref (A.at_ .ranks)) := by kernel_rfl
theorem hf_freed (A : Rep) (t : Nat) : (hpF A t).lookup ("freed" : Str) = some (.ref (A.at_ .freed)) := by kernel_rfl
theorem hf_found (A : Rep) (t : Nat) : (hpF A t).lookup ("found" : Str) = some (.ref (A.at_ .found)) := by kernel_rfl
theorem hf_forced (A : Rep) (t : Nat) : (hpF A t).lookup ("forced_to" : Str) = some (.ref (A.at_ .forced)) := by kernel_rfl
theorem hf_pending (A : Rep) (t : Nat) : (hpF A t).lookup ("pending" : Str) = some (.ref (A.at_ .pending)) := by kernel_rfl
theorem hf_targets (A : Rep) (t : Nat) : (hpF A t).lookup ("targets" : Str) = some (.ref (A.at_ .targets)) := by kernel_rfl
theorem hf_sources (A : Rep) (t : Nat) : (hpF A t).lookup ("sources" : Str) = some (.ref (A.at_ .sources)) := by kernel_rfl
theorem hf_roots (A : Rep) (t : Nat) : (hpF A t).lookup ("root_set" : Str) = some (.ref (A.at_ .roots)) := by kernel_rfl
theorem hf_done (A : Rep) (t : Nat) : (hpF A t).lookup ("done" : Str) = some (.ref (A.at_ .done)) := by kernel_rfl
theorem hp_time (A : Rep) (t u : Nat) : putF "time" (nV u) (hpF A t) = hpF A u := by kernel_rfl
end HD
set_option Elab.async false
set_option linter.all false
set_option maxRecDepth 100000
set_option maxHeartbeats 2000000
/-! The methods of a scheme. -/
namespace HD
open PySem PySem.Spec PyProof.Rows L2 Evl
/-- places as they come -/
structure Ps (ps : List Nat) : Prop where
  one : ∃ r, ps = 1 :: r
  pos : ∀ p ∈ ps, 0 < p
  big : ∀ p ∈ ps, p < 2 ^ 300
theorem Ps.len {ps : List Nat} (h : Ps ps) : 0 < ps.length := by
  obtain ⟨r, rfl⟩ := h.one
  exact Nat.succ_pos _
theorem Ps.last {ps : List Nat} (h : Ps ps) : lastOf ps + 1 = ps.length := by
  have := h.len
  unfold lastOf
  omega
theorem plc_at {ps : List Nat} {l : Nat} (h : l < ps.length) : ps[l]? = some (plc ps l) := by
  unfold plc
  rw [List.getD_eq_getElem?_getD, List.getElem?_eq_getElem h]
  rfl
theorem plc_mem {ps : List Nat} {l : Nat} (h : l < ps.length) : plc ps l ∈ ps := List.mem_of_getElem? (plc_at h)
theorem psV_at {ps : List Nat} {l : Nat} (h : l < ps.length) : (ps.map fun p => nV p)[l]? = some (nV (plc ps l)) := by
  rw [List.getElem?_map, plc_at h]
  rfl
theorem HS.Wf.p {S : HS} (h : S.Wf) : Ps S.ps := ⟨h.ps1, h.pos, h.psb⟩
section
variable {P : Program} {w : World} {K : PySem.W.Frag} {mg : Str → Option Value} {base : Heap}
theorem ev_places (T : TX K mg) {H : Hp} {σ : L2.St} {ta : TE} {sc dx a b : Addr} (h : Ev ta σ H (.ref sc)) (hs : H sc = some (.ins (CS K) dx (scF a b))) : Ev (tFld K ta "places") σ H (.ref b) :=
  ev_fld h hs (cls_S T) (no_S_places T) (sc_places a b)
theorem ev_place (T : TX K mg) {H : Hp} {σ : L2.St} {ta tb : TE} {sc dx a b : Addr} {ps : List Nat} {l : Nat} (h : Ev ta σ H (.ref sc)) (hs : H sc = some (.ins (CS K) dx (scF a b))) (hp : H b = some (.lst (ps.map fun p => nV p))) (hi : Ev tb σ H (nV l)) (hl : l < ps.length) :
    Ev (tOp (rIxL K) (tFld K ta "places") tb) σ H (nV (plc ps l)) :=
  ev_op (ev_places T h hs) hi (rv_ixL (sq_of hp) (atI_nat (psV_at hl)))
theorem sc_S_generations : FnScope ["self"] ["self"] (defScope s_S_generations) := ⟨rfl, rfl, rfl, by decide +kernel, rfl, by decide +kernel, by decide +kernel⟩
def sp_S_generations (K : PySem.W.Frag) : Sp := fun vs H Q _ => ∃ sc ps, vs = [.ref sc] ∧ SchemeAt K H sc ps ∧ RetV (nV ps.length) H Q
theorem ok_S_generations (T : TX K mg) : MethOk P w K mg base (CS K) 1 "generations" ["self"] (sp_S_generations K) := by
  have SC := sc_S_generations
  refine meth_mk (F_S_generations T) (m_S_generations T) sc_S_generations (fun _ _ _ _ _ _ us hl => match us, hl with | [_], _ => rfl) (fun vs H Q E h => ?_) (fun cdv A outer s H vs Q E hr h => ?_)
  · obtain ⟨sc, ps, rfl, _⟩ := h
    rfl
  · obtain ⟨sc, ps, rfl, ⟨dx, a, b, h1, h2⟩, k⟩ := h
    refine ⟨_, (pss_one (ps_ret (pe_callB call_len_seq rfl (b_len T) (by decide +kernel) (pa_cons (pe_fld (pv 0) rfl) pa_nil)))), ?_⟩
    refine s_ret (ev_len (ev_places T (ev_var rfl) h1) (sq_of h2)) fun H1 e => ?_
    rw [List.length_map]
    exact k H1 e
theorem sc_S_last : FnScope ["self"] ["self"] (defScope s_S_last) := ⟨rfl, rfl, rfl, by decide +kernel, rfl, by decide +kernel, by decide +kernel⟩
def sp_S_last (K : PySem.W.Frag) : Sp := fun vs H Q _ => ∃ sc ps, vs = [.ref sc] ∧ SchemeAt K H sc ps ∧ 0 < ps.length ∧ RetV (nV (lastOf ps)) H Q
theorem ok_S_last (T : TX K mg) : MethOk P w K mg base (CS K) 1 "last" ["self"] (sp_S_last K) := by
  have SC := sc_S_last
  refine meth_mk (F_S_last T) (m_S_last T) sc_S_last (fun _ _ _ _ _ _ us hl => match us, hl with | [_], _ => rfl) (fun vs H Q E h => ?_) (fun cdv A outer s H vs Q E hr h => ?_)
  · obtain ⟨sc, ps, rfl, _⟩ := h
    rfl
  · obtain ⟨sc, ps, rfl, ⟨dx, a, b, h1, h2⟩, hn, k⟩ := h
    refine ⟨_, (pss_one (ps_ret (pe_op op_sub (pe_callB call_len_seq rfl (b_len T) (by decide +kernel) (pa_cons (pe_fld (pv 0) rfl) pa_nil)) pe_int))), ?_⟩
    refine s_ret (ev_op (ev_len (ev_places T (ev_var rfl) h1) (sq_of h2)) ev_c (rv_sub1 (by rw [List.length_map]; exact hn))) fun H1 e => ?_
    rw [List.length_map]
    exact k H1 e
/-- scheme.last() -/
theorem ev_last {H : Hp} {σ : L2.St} {ta : TE} {sc : Addr} {ps : List Nat} (h : Ev ta σ H (.ref sc)) (hs : SchemeAt K H sc ps) (hn : 0 < ps.length) {E : XK} : Ev (tMeth (CS K) "last" (sp_S_last K) [] E ta tNil) σ H (nV (lastOf ps)) := by
  obtain ⟨dx, a, b, h1, h2⟩ := id hs
  exact ev_meth h h1 (by kernel_rfl) ea_nil fun H1 e Q q E => ⟨sc, ps, rfl, hs.ex e, hn, q⟩
theorem sc_S_check_level : FnScope ["self", "level"] ["self", "level"] (defScope s_S_check_level) := ⟨rfl, rfl, rfl, by decide +kernel, rfl, by decide +kernel, by decide +kernel⟩
def sp_S_check_level (K : PySem.W.Frag) : Sp := fun vs H Q _ => ∃ sc ps l, vs = [.ref sc, nV l] ∧ SchemeAt K H sc ps ∧ l < ps.length ∧ RetV .non H Q
theorem ok_S_check_level (T : TX K mg) : MethOk P w K mg base (CS K) 3 "check_level" ["self", "level"] (sp_S_check_level K) := by
  have SC := sc_S_check_level
  refine meth_mk (F_S_check_level T) (m_S_check_level T) sc_S_check_level (fun _ _ _ _ _ _ us hl => match us, hl with | [_, _], _ => rfl) (fun vs H Q E h => ?_) (fun cdv A outer s H vs Q E hr h => ?_)
  · obtain ⟨sc, ps, l, rfl, _⟩ := h
    rfl
  · obtain ⟨sc, ps, l, rfl, hs, hl, k⟩ := h
    refine ⟨_, (pss_one (ps_if (pt_not (pt_val (pg_call (ok_is_between T) hr (by decide) rfl (pa_cons (pv 1) (pa_cons pe_int (pa_cons (pm_call0 (ok_S_last T) (cls_S T) hr (by decide) (pv 0)) pa_nil))))))
      pss_never
      pss_nil)), ?_⟩
    refine s_when (b := false) (et_is (et_not (a := true) (et_B (ev_is (ev_call (ea_cons (ev_var rfl) (ea_cons ev_c (ea_cons (ev_last (ev_var rfl) hs (by omega)) ea_nil))) fun H1 e Q q E => ⟨_, _, _, rfl, q⟩) ?_))) rfl) (fun q => nomatch q) (fun _ H1 e => k H1 e)
    rw [decide_eq_true (by omega), decide_eq_true (by unfold lastOf; omega)]
    rfl
theorem lvlL_le (t : Nat) : ∀ r : List Nat, lvlL t r ≤ r.length
  | [] => Nat.le_refl _
  | p :: r => by
    show (if t % p = 0 then 1 + lvlL t r else 0) ≤ r.length + 1
    have := lvlL_le t r
    split <;> omega
theorem lvl_le (ps : List Nat) (t : Nat) : lvl ps t ≤ lastOf ps := by
  have := lvlL_le t ps.tail
  unfold lvl lastOf
  rw [List.length_tail] at this
  exact this
theorem lvl_drop {ps : List Nat} {t j : Nat} (h : j + 1 < ps.length) : lvlL t (ps.drop (j + 1)) = if t % plc ps (j + 1) = 0 then 1 + lvlL t (ps.drop (j + 2)) else 0 := by
  have e : ps.drop (j + 1) = plc ps (j + 1) :: ps.drop (j + 2) := by
    rw [List.drop_eq_getElem_cons h]
    have q := plc_at h
    rw [List.getElem?_eq_getElem h] at q
    rw [Option.some.inj q]
  rw [e]
  rfl
theorem sc_S_level_of : FnScope ["self", "collection", "found"] ["self", "collection"] (defScope s_S_level_of) := ⟨rfl, rfl, rfl, by decide +kernel, rfl, by decide +kernel, by decide +kernel⟩
def sp_S_level_of (K : PySem.W.Frag) : Sp := fun vs H Q _ => ∃ sc ps t, vs = [.ref sc, nV t] ∧ SchemeAt K H sc ps ∧ Ps ps ∧ RetV (nV (lvl ps t)) H Q
theorem ok_S_level_of (T : TX K mg) : MethOk P w K mg base (CS K) 2 "level_of" ["self", "collection"] (sp_S_level_of K) := by
  have SC := sc_S_level_of
  refine meth_mk (F_S_level_of T) (m_S_level_of T) sc_S_level_of (fun _ _ _ _ _ _ us hl => match us, hl with | [_, _], _ => rfl) (fun vs H Q E h => ?_) (fun cdv A outer s H vs Q E hr h => ?_)
  · obtain ⟨sc, ps, t, rfl, _⟩ := h
    rfl
  · obtain ⟨sc, ps, t, rfl, hs, hp, k⟩ := h
    refine ⟨_, (pss_cons (ps_set (i := 2) SC.nd rfl (Or.inl rfl) pe_int)
    (pss_cons (ps_while PassesOwn.never (PW.pt (pw_and (pt_cmpR op_lt (pv 2) (pm_call0 (ok_S_last T) (cls_S T) hr (by decide) (pv 0)) (nomark _)) (pw_and1 (pt_cmpR op_eq (pe_op op_mod (pv 1) (pe_ix ix_list (pe_fld (pv 0) rfl) (pe_op op_add (pv 2) pe_int) (fun _ _ => rfl))) pe_int (nomark _)))))
      (pss_one (ps_aug (i := 2) SC.nd rfl (Or.inl rfl) pe_int ip_add)))
    (pss_one (ps_ret (pv 2))))), ?_⟩
    refine q_asg ev_c fun H1 e1 => ?_
    refine q_while (fun m σ H' => ∃ j : Nat, σ = [some (.ref sc), some (nV t), some (nV j)] ∧ Ex H H' ∧ j ≤ lastOf ps ∧ lvl ps t = j + lvlL t (ps.drop (j + 1)) ∧ m = lastOf ps - j) (lastOf ps - 0) ⟨0, rfl, e1, Nat.zero_le _, by rw [Nat.zero_add, List.drop_one]; rfl, rfl⟩ ?_
    rintro m σ H2 ⟨j, rfl, e2, hj, hl, rfl⟩
    have hln := hp.last
    obtain ⟨dx, a, b, h1, h2⟩ := hs.ex e2
    have t1 : EvT (tTest (tOp (rI0 fun i j => .bl (decide (i < j))) (tVar 2) (tMeth (CS K) "last" (sp_S_last K) [] E0 (tVar 0) tNil))) [some (.ref sc), some (nV t), some (nV j)] H2 (decide (j < lastOf ps)) :=
      et_test (ev_op (ev_var rfl) (ev_last (ev_var rfl) (hs.ex e2) hp.len) rv_ltN)
    refine ⟨decide (j < lastOf ps) && decide (t % plc ps (j + 1) = 0), et_and t1 fun hb => ?_, fun hb H3 e3 => ?_, fun hb H3 e3 => ?_⟩
    · have hj2 : j + 1 < ps.length := by
        have := of_decide_eq_true hb
        omega
      exact et_test (ev_op (ev_op (ev_var rfl) (ev_place T (ev_var rfl) h1 h2 (ev_op (ev_var rfl) ev_c rv_add1) hj2) (rv_modN (hp.pos _ (plc_mem hj2)))) ev_c rv_eq0)
    · obtain ⟨hb1, hb2⟩ := Bool.and_eq_true_iff.mp hb
      have hb1 := of_decide_eq_true hb1
      have hb2 := of_decide_eq_true hb2
      refine ⟨fun σ' H' => σ' = [some (.ref sc), some (nV t), some (nV (j + 1))] ∧ Ex H2 H', fun σ' H' z => ⟨lastOf ps - (j + 1), by omega, j + 1, z.1, e2.trans z.2, by omega, ?_, rfl⟩, ?_⟩
      · rw [hl, lvl_drop (by omega), if_pos hb2]
        show j + (1 + lvlL t (ps.drop (j + 2))) = j + 1 + lvlL t (ps.drop (j + 2))
        omega
      · exact s_aug (a := (j : Nat)) (b := 1) rfl ev_c fun H4 e4 => ⟨rfl, e3.trans e4⟩
    · have e : lvl ps t = j := by
        rw [hl]
        by_cases hj2 : j < lastOf ps
        · rw [decide_eq_true hj2, Bool.true_and] at hb
          have := of_decide_eq_false hb
          rw [lvl_drop (by omega), if_neg this]
          rfl
        · rw [List.drop_eq_nil_of_le (by omega)]
          rfl
      rw [e] at k
      exact s_ret (ev_var rfl) fun H4 e4 => k H4 ((e2.trans e3).trans e4)
/-- scheme.level_of(t) -/
theorem ev_level {H : Hp} {σ : L2.St} {ta : TE} {tb : TA} {sc : Addr} {ps : List Nat} {t : Nat} (h : Ev ta σ H (.ref sc)) (hs : SchemeAt K H sc ps) (hp : Ps ps) (hb : EvA tb σ H [nV t]) {E : XK} : Ev (tMeth (CS K) "level_of" (sp_S_level_of K) [] E ta tb) σ H (nV (lvl ps t)) := by
  obtain ⟨dx, a, b, h1, h2⟩ := id hs
  exact ev_meth h h1 (by kernel_rfl) hb fun H1 e Q q E => ⟨sc, ps, t, rfl, hs.ex e, hp, q⟩
theorem sc_S_next_of : FnScope ["self", "time", "level"] ["self", "time", "level"] (defScope s_S_next_of) := ⟨rfl, rfl, rfl, by decide +kernel, rfl, by decide +kernel, by decide +kernel⟩
def sp_S_next_of (K : PySem.W.Frag) : Sp := fun vs H Q _ => ∃ sc ps t l, vs = [.ref sc, nV t, nV l] ∧ SchemeAt K H sc ps ∧ Ps ps ∧ t < 2 ^ 700 ∧ l < ps.length ∧ RetV (nV (nxt ps t l)) H Q
theorem ok_S_next_of (T : TX K mg) : MethOk P w K mg base (CS K) 1 "next_of" ["self", "time", "level"] (sp_S_next_of K) := by
  have SC := sc_S_next_of
  refine meth_mk (F_S_next_of T) (m_S_next_of T) sc_S_next_of (fun _ _ _ _ _ _ us hl => match us, hl with | [_, _, _], _ => rfl) (fun vs H Q E h => ?_) (fun cdv A outer s H vs Q E hr h => ?_)
  · obtain ⟨sc, ps, t, l, rfl, _⟩ := h
    rfl
  · obtain ⟨sc, ps, t, l, rfl, ⟨dx, a, b, h1, h2⟩, hp, ht, hl, k⟩ := h
    refine ⟨_, (pss_one (ps_ret (pe_op op_mulW (pe_op op_add (pe_op op_fdivW (pv 1) (pe_ix ix_list (pe_fld (pv 0) rfl) (pv 2) (fun _ _ => rfl))) pe_int) (pe_ix ix_list (pe_fld (pv 0) rfl) (pv 2) (fun _ _ => rfl))))), ?_⟩
    have pl := plc_mem hl
    have hq : t / plc ps l + 1 < 2 ^ 701 := by
      have := Nat.div_le_self t (plc ps l)
      have e : (2 : Nat) ^ 701 = 2 * 2 ^ 700 := by rw [Nat.pow_succ, Nat.mul_comm]
      have : (0 : Nat) < 2 ^ 700 := Nat.pow_pos (by decide)
      omega
    exact s_ret (ev_op (ev_op (ev_op (ev_var rfl) (ev_place T (ev_var rfl) h1 h2 (ev_var rfl) hl) (rv_divN 300 (hp.pos _ pl) (hp.big _ pl))) ev_c rv_add1) (ev_place T (ev_var rfl) h1 h2 (ev_var rfl) hl) (rv_mulN 701 300 hq (hp.big _ pl))) k
theorem ev_next {H : Hp} {σ : L2.St} {ta : TE} {tb : TA} {sc : Addr} {ps : List Nat} {t l : Nat} (h : Ev ta σ H (.ref sc)) (hs : SchemeAt K H sc ps) (hp : Ps ps) (hb : EvA tb σ H [nV t, nV l]) (ht : t < 2 ^ 700) (hl : l < ps.length) {E : XK} : Ev (tMeth (CS K) "next_of" (sp_S_next_of K) [] E ta tb) σ H (nV (nxt ps t l)) := by
  obtain ⟨dx, a, b, h1, h2⟩ := id hs
  exact ev_meth h h1 (by kernel_rfl) hb fun H1 e Q q E => ⟨sc, ps, t, l, rfl, hs.ex e, hp, ht, hl, q⟩
theorem sc_S_multiples : FnScope ["self", "level", "first", "last"] ["self", "level", "first", "last"] (defScope s_S_multiples) := ⟨rfl, rfl, rfl, by decide +kernel, rfl, by decide +kernel, by decide +kernel⟩
def sp_S_multiples (K : PySem.W.Frag) : Sp := fun vs H Q _ => ∃ sc ps l f t, vs = [.ref sc, nV l, nV f, nV t] ∧ SchemeAt K H sc ps ∧ Ps ps ∧ f ≤ t ∧ l < ps.length ∧ RetV (nV (t / plc ps l - f / plc ps l)) H Q
theorem ok_S_multiples (T : TX K mg) : MethOk P w K mg base (CS K) 2 "multiples" ["self", "level", "first", "last"] (sp_S_multiples K) := by
  have SC := sc_S_multiples
  refine meth_mk (F_S_multiples T) (m_S_multiples T) sc_S_multiples (fun _ _ _ _ _ _ us hl => match us, hl with | [_, _, _, _], _ => rfl) (fun vs H Q E h => ?_) (fun cdv A outer s H vs Q E hr h => ?_)
  · obtain ⟨sc, ps, l, f, t, rfl, _⟩ := h
    rfl
  · obtain ⟨sc, ps, l, f, t, rfl, hs, hp, hf, hl, k⟩ := h
    obtain ⟨dx, a, b, h1, h2⟩ := id hs
    refine ⟨_, (pss_cons (ps_if (pt_cmpR op_gt (pv 1) (pm_call0 (ok_S_last T) (cls_S T) hr (by decide) (pv 0)) (nomark _))
      (pss_one (ps_ret pe_int))
      pss_nil)
    (pss_one (ps_ret (pe_op op_sub (pe_op op_fdivW (pv 3) (pe_ix ix_list (pe_fld (pv 0) rfl) (pv 1) (fun _ _ => rfl))) (pe_op op_fdivW (pv 2) (pe_ix ix_list (pe_fld (pv 0) rfl) (pv 1) (fun _ _ => rfl))))))), ?_⟩
    have hln := hp.last
    refine q_when (b := false) (et_is (et_test (ev_op (ev_var rfl) (ev_last (ev_var rfl) hs hp.len) rv_gtN)) (decide_eq_false (by omega))) (fun q => nomatch q) fun _ H1 e1 => ?_
    have pl := plc_mem hl
    have g1 := e1 _ _ h1
    have g2 := e1 _ _ h2
    exact s_ret (ev_op (ev_op (ev_var rfl) (ev_place T (ev_var rfl) g1 g2 (ev_var rfl) hl) (rv_divN 300 (hp.pos _ pl) (hp.big _ pl))) (ev_op (ev_var rfl) (ev_place T (ev_var rfl) g1 g2 (ev_var rfl) hl) (rv_divN 300 (hp.pos _ pl) (hp.big _ pl))) (rv_subN (Nat.div_le_div_right hf))) fun H2 e2 => k H2 (e1.trans e2)
theorem atI_neg1 {xs : List V} {v : V} (h : xs.getLast? = some v) : atI xs (-1) = some v := by
  have hn : xs ≠ [] := fun e => by
    rw [e] at h
    cases h
  have e := List.dropLast_concat_getLast hn
  have e2 : xs.getLast hn = v := by
    rw [List.getLast?_eq_some_getLast hn] at h
    exact Option.some.inj h
  rw [e2] at e
  rw [← e]
  exact atI_last _ _
theorem sc_S_generation_of : FnScope ["self", "birth", "time", "differing", "level", "place"] ["self", "birth", "time"] (defScope s_S_generation_of) := ⟨rfl, rfl, rfl, by decide +kernel, rfl, by decide +kernel, by decide +kernel⟩
def sp_S_generation_of (K : PySem.W.Frag) : Sp := fun vs H Q _ => ∃ sc ps b t, vs = [.ref sc, nV b, nV t] ∧ SchemeAt K H sc ps ∧ Ps ps ∧ ps.length ≤ 1000 ∧ RetV (nV (dig ps b t)) H Q
theorem ok_S_generation_of (T : TX K mg) : MethOk P w K mg base (CS K) 2 "generation_of" ["self", "birth", "time"] (sp_S_generation_of K) := by
  have SC := sc_S_generation_of
  refine meth_mk (F_S_generation_of T) (m_S_generation_of T) sc_S_generation_of (fun _ _ _ _ _ _ us hl => match us, hl with | [_, _, _], _ => rfl) (fun vs H Q E h => ?_) (fun cdv A outer s H vs Q E hr h => ?_)
  · obtain ⟨sc, ps, b, t, rfl, _⟩ := h
    rfl
  · obtain ⟨sc, ps, b, t, rfl, hs, hp, hz, k⟩ := h
    obtain ⟨dx, a, c, h1, h2⟩ := id hs
    refine ⟨_, (pss_cons (ps_setLc (i := 3) (own := [("level", 4), ("place", 5)]) rfl SC.nd rfl rfl (sw_true rfl rfl rfl (by decide +kernel)) (pi_enum rfl (b_enumerate T) (pa_cons (pe_fld (pv 0) rfl) pa_nil)) (blkOk_by (own := [("level", 4), ("place", 5)]) (N := ["self", "birth", "time", "differing", "level", "place"]) (sc := defScope s_S_generation_of) (by decide +kernel)) (fun _ _ _ _ _ => (ktup (K := K) 2 rfl (pgs_cons (pg_name (i := 4) SC.nd rfl (Or.inl rfl)) (pgs_cons (pg_name (i := 5) SC.nd rfl (Or.inl rfl)) pgs_nil)))) (fun _ _ _ _ _ => pts_one (pt_cmpR op_ne (pe_op op_fdivW (pv 1) (pv 5)) (pe_op op_fdivW (pv 2) (pv 5)) (nomark _))) (fun _ _ _ _ _ => (pv 4)))
    (pss_one (ps_ret (pe_ifExp (pt_cmpR (op_neD hr.units) (pv 3) (pe_lst pa_nil) (nomark _)) (pe_callB (call_min2 rfl) rfl (b_min T) (by decide +kernel) (pa_cons (pm_call0 (ok_S_last T) (cls_S T) hr (by decide) (pv 0)) (pa_cons (pe_op op_add pe_int (pe_ix ix_list (pv 3) (pe_un un_neg pe_int) (fun _ _ => rfl))) pa_nil))) pe_int)))), ?_⟩
    have hg : ∀ (i : Nat) (x : V), (ps.map fun p => nV p)[i]? = some x → i < ps.length ∧ x = nV (plc ps i) := fun i x e => by
      have hi : i < ps.length := by
        have := (List.getElem?_eq_some_iff.mp e).1
        rw [List.length_map] at this
        exact this
      rw [psV_at hi] at e
      exact ⟨hi, (Option.some.inj e).symm⟩
    refine q_asgL (el_lcE (fun i => decide (b / plc ps i ≠ t / plc ps i)) (fun i => nV i) (ea_cons (ev_places T (ev_var rfl) h1) ea_nil) (sq_of h2) (by rw [List.length_map]; omega) (fun _ _ => rfl)
      (fun i x H1 e hx => ?_) (fun i x H1 e hx _ => ev_var rfl)) fun p H1 np e1 hp1 => ?_
    · obtain ⟨hi, rfl⟩ := hg i x hx
      have pl := plc_mem hi
      exact et_test (ev_op (ev_op (ev_var rfl) (ev_var rfl) (rv_divN 300 (hp.pos _ pl) (hp.big _ pl))) (ev_op (ev_var rfl) (ev_var rfl) (rv_divN 300 (hp.pos _ pl) (hp.big _ pl))) rv_neN)
    · have e3 : given (ps.map fun p => nV p).length (fun i => decide (b / plc ps i ≠ t / plc ps i)) (fun i => nV i) = (difs ps b t).map fun i => nV i := by
        unfold given difs
        rw [List.length_map]
      rw [e3] at hp1
      refine s_ret (ev_if (v := nV (dig ps b t)) (et_test (ev_neNil (ev_var rfl) (sq_of hp1) fun x hx => ?_)) (fun hb => ?_) (fun hb => ?_)) fun H2 e2 => k H2 (e1.trans e2)
      · obtain ⟨i, _, rfl⟩ := List.mem_map.mp hx
        exact ⟨_, .int _⟩
      · unfold dig
        cases e4 : (difs ps b t).getLast? with
        | none =>
          rw [List.getLast?_eq_none_iff.mp e4] at hb
          cases hb
        | some j =>
          have e5 : ((difs ps b t).map fun i => nV i).getLast? = some (nV j) := by
            rw [List.getLast?_map, e4]
            rfl
          exact ev_min2N (ea_cons (ev_last (ev_var rfl) (hs.ex e1) hp.len) (ea_cons (ev_op ev_c (ev_op (ev_var rfl) (ev_un ev_c ru_neg) (rv_ixL (sq_of hp1) (atI_neg1 e5))) rv_addN) ea_nil))
      · have e4 : difs ps b t = [] := by
          cases e5 : difs ps b t with
          | nil => rfl
          | cons a r =>
            rw [e5] at hb
            cases hb
        unfold dig
        rw [e4]
        exact ev_c
theorem ev_dig {H : Hp} {σ : L2.St} {ta : TE} {tb : TA} {sc : Addr} {ps : List Nat} {b t : Nat} (h : Ev ta σ H (.ref sc)) (hs : SchemeAt K H sc ps) (hp : Ps ps) (hz : ps.length ≤ 1000) (hb : EvA tb σ H [nV b, nV t]) {E : XK} : Ev (tMeth (CS K) "generation_of" (sp_S_generation_of K) [] E ta tb) σ H (nV (dig ps b t)) := by
  obtain ⟨dx, a, c, h1, h2⟩ := id hs
  exact ev_meth h h1 (by kernel_rfl) hb fun H1 e Q q E => ⟨sc, ps, b, t, rfl, hs.ex e, hp, hz, q⟩
end
end HD
set_option Elab.async false
set_option linter.all false
set_option maxRecDepth 100000
set_option maxHeartbeats 2000000
/-! The fields of a heap as readings. Printed by gen_kh1.py. -/
namespace HD
open PySem PySem.Spec PyProof.Rows L2 Evl
section
variable {K : PySem.W.Frag} {mg : Str → Option Value} {H : Hp} {A : Rep} {S : HS} {σ : L2.St} {ta tb : TE}
theorem evf_births (T : TX K mg) (h : HeapAt K H A S) (e : Ev ta σ H (.ref (A.at_ .inst))) : Ev (tFld K ta "births") σ H (.ref (A.at_ .births)) := ev_fld e (h.ob .inst trivial) (cls_H T) (no_H_births T) (hf_births A S.time)
theorem evf_deaths (T : TX K mg) (h : HeapAt K H A S) (e : Ev ta σ H (.ref (A.at_ .inst))) : Ev (tFld K ta "deaths") σ H (.ref (A.at_ .deaths)) := ev_fld e (h.ob .inst trivial) (cls_H T) (no_H_deaths T) (hf_deaths A S.time)
theorem evf_ranks (T : TX K mg) (h : HeapAt K H A S) (e : Ev ta σ H (.ref (A.at_ .inst))) : Ev (tFld K ta "ranks") σ H (.ref (A.at_ .ranks)) := ev_fld e (h.ob .inst trivial) (cls_H T) (no_H_ranks T) (hf_ranks A S.time)
theorem evf_freed (T : TX K mg) (h : HeapAt K H A S) (e : Ev ta σ H (.ref (A.at_ .inst))) : Ev (tFld K ta "freed") σ H (.ref (A.at_ .freed)) := ev_fld e (h.ob .inst trivial) (cls_H T) (no_H_freed T) (hf_freed A S.time)
theorem evf_found (T : TX K mg) (h : HeapAt K H A S) (e : Ev ta σ H (.ref (A.at_ .inst))) : Ev (tFld K ta "found") σ H (.ref (A.at_ .found)) := ev_fld e (h.ob .inst trivial) (cls_H T) (no_H_found T) (hf_found A S.time)
theorem evf_forced (T : TX K mg) (h : HeapAt K H A S) (e : Ev ta σ H (.ref (A.at_ .inst))) : Ev (tFld K ta "forced_to") σ H (.ref (A.at_ .forced)) := ev_fld e (h.ob .inst trivial) (cls_H T) (no_H_forced_to T) (hf_forced A S.time)
theorem evf_pending (T : TX K mg) (h : HeapAt K H A S) (e : Ev ta σ H (.ref (A.at_ .inst))) : Ev (tFld K ta "pending") σ H (.ref (A.at_ .pending)) := ev_fld e (h.ob .inst trivial) (cls_H T) (no_H_pending T) (hf_pending A S.time)
theorem evf_targets (T : TX K mg) (h : HeapAt K H A S) (e : Ev ta σ H (.ref (A.at_ .inst))) : Ev (tFld K ta "targets") σ H (.ref (A.at_ .targets)) := ev_fld e (h.ob .inst trivial) (cls_H T) (no_H_targets T) (hf_targets A S.time)
theorem evf_sources (T : TX K mg) (h : HeapAt K H A S) (e : Ev ta σ H (.ref (A.at_ .inst))) : Ev (tFld K ta "sources") σ H (.ref (A.at_ .sources)) := ev_fld e (h.ob .inst trivial) (cls_H T) (no_H_sources T) (hf_sources A S.time)
theorem evf_roots (T : TX K mg) (h : HeapAt K H A S) (e : Ev ta σ H (.ref (A.at_ .inst))) : Ev (tFld K ta "root_set") σ H (.ref (A.at_ .roots)) := ev_fld e (h.ob .inst trivial) (cls_H T) (no_H_root_set T) (hf_roots A S.time)
theorem evf_done (T : TX K mg) (h : HeapAt K H A S) (e : Ev ta σ H (.ref (A.at_ .inst))) : Ev (tFld K ta "done") σ H (.ref (A.at_ .done)) := ev_fld e (h.ob .inst trivial) (cls_H T) (no_H_done T) (hf_done A S.time)
theorem evf_sc (T : TX K mg) (h : HeapAt K H A S) (e : Ev ta σ H (.ref (A.at_ .inst))) : Ev (tFld K ta "kept_scheme") σ H (.ref (A.at_ .sc)) := ev_fld e (h.ob .inst trivial) (cls_H T) (no_H_kept_scheme T) (hf_sc A S.time)
theorem evf_time (T : TX K mg) (h : HeapAt K H A S) (e : Ev ta σ H (.ref (A.at_ .inst))) : Ev (tFld K ta "time") σ H (nV S.time) := ev_fld e (h.ob .inst trivial) (cls_H T) (no_H_time T) (hf_time A S.time)
theorem evi_births (T : TX K mg) (h : HeapAt K H A S) (e : Ev ta σ H (.ref (A.at_ .inst))) {i : Nat} (hi : i < S.n) (e2 : Ev tb σ H (nV i)) : Ev (tOp (rIxL K) (tFld K ta "births") tb) σ H (nV (S.birth i)) := ev_op (evf_births T h e) e2 (rv_ixL (sq_of (h.ob .births trivial)) (atI_nat (vl_get hi)))
theorem evi_deaths (T : TX K mg) (h : HeapAt K H A S) (e : Ev ta σ H (.ref (A.at_ .inst))) {i : Nat} (hi : i < S.n) (e2 : Ev tb σ H (nV i)) : Ev (tOp (rIxL K) (tFld K ta "deaths") tb) σ H (oV (S.death i)) := ev_op (evf_deaths T h e) e2 (rv_ixL (sq_of (h.ob .deaths trivial)) (atI_nat (vl_get hi)))
theorem evi_ranks (T : TX K mg) (h : HeapAt K H A S) (e : Ev ta σ H (.ref (A.at_ .inst))) {i : Nat} (hi : i < S.n) (e2 : Ev tb σ H (nV i)) : Ev (tOp (rIxL K) (tFld K ta "ranks") tb) σ H (oV (S.rank i)) := ev_op (evf_ranks T h e) e2 (rv_ixL (sq_of (h.ob .ranks trivial)) (atI_nat (vl_get hi)))
theorem evi_forced (T : TX K mg) (h : HeapAt K H A S) (e : Ev ta σ H (.ref (A.at_ .inst))) {i : Nat} (hi : i < S.n) (e2 : Ev tb σ H (nV i)) : Ev (tOp (rIxL K) (tFld K ta "forced_to") tb) σ H (nV (S.forced i)) := ev_op (evf_forced T h e) e2 (rv_ixL (sq_of (h.ob .forced trivial)) (atI_nat (vl_get hi)))
theorem evi_pending (T : TX K mg) (h : HeapAt K H A S) (e : Ev ta σ H (.ref (A.at_ .inst))) {i : Nat} (hi : i < S.n) (e2 : Ev tb σ H (nV i)) : Ev (tOp (rIxL K) (tFld K ta "pending") tb) σ H (.bl (S.pend i)) := ev_op (evf_pending T h e) e2 (rv_ixL (sq_of (h.ob .pending trivial)) (atI_nat (vl_get hi)))
theorem evi_targets (T : TX K mg) (h : HeapAt K H A S) (e : Ev ta σ H (.ref (A.at_ .inst))) {i : Nat} (hi : i < S.n) (e2 : Ev tb σ H (nV i)) : Ev (tOp (rIxL K) (tFld K ta "targets") tb) σ H (.ref (A.at_ (.tg i))) := ev_op (evf_targets T h e) e2 (rv_ixL (sq_of (h.ob .targets trivial)) (atI_nat (vl_get hi)))
theorem evi_sources (T : TX K mg) (h : HeapAt K H A S) (e : Ev ta σ H (.ref (A.at_ .inst))) {i : Nat} (hi : i < S.n) (e2 : Ev tb σ H (nV i)) : Ev (tOp (rIxL K) (tFld K ta "sources") tb) σ H (.ref (A.at_ (.sr i))) := ev_op (evf_sources T h e) e2 (rv_ixL (sq_of (h.ob .sources trivial)) (atI_nat (vl_get hi)))
theorem evi_freed (T : TX K mg) (h : HeapAt K H A S) (e : Ev ta σ H (.ref (A.at_ .inst))) {i : Nat} (hi : i < S.n) (e2 : Ev tb σ H (nV i)) : ∃ v, (v = .non ↔ S.freed i = false) ∧ Ev (tOp (rIxL K) (tFld K ta "freed") tb) σ H v := let ⟨v, hv, hw⟩ := h.fvn i hi; ⟨v, hw, ev_op (evf_freed T h e) e2 (rv_ixL (sq_of (h.ob .freed trivial)) (atI_nat hv))⟩
theorem evi_freedN (T : TX K mg) (h : HeapAt K H A S) (e : Ev ta σ H (.ref (A.at_ .inst))) {i : Nat} (hi : i < S.n) (e2 : Ev tb σ H (nV i)) : Ev (tIsN (tOp (rIxL K) (tFld K ta "freed") tb)) σ H (.bl (!S.freed i)) := by
  obtain ⟨v, h1, h2⟩ := evi_freed T h e hi e2
  refine ev_is (ev_isN h2) (congrArg V.bl ?_)
  cases e3 : S.freed i with
  | false => exact decide_eq_true (h1.mpr e3)
  | true => exact decide_eq_false (fun z => (by have := h1.mp z; rw [e3] at this; cases this))
theorem evi_freedY (T : TX K mg) (h : HeapAt K H A S) (e : Ev ta σ H (.ref (A.at_ .inst))) {i : Nat} (hi : i < S.n) (e2 : Ev tb σ H (nV i)) : Ev (tNotN (tOp (rIxL K) (tFld K ta "freed") tb)) σ H (.bl (S.freed i)) := by
  obtain ⟨v, h1, h2⟩ := evi_freed T h e hi e2
  refine ev_is (ev_notN h2) (congrArg V.bl ?_)
  cases e3 : S.freed i with
  | false => rw [decide_eq_true (h1.mpr e3)]; rfl
  | true =>
    rw [decide_eq_false (fun z => (by have := h1.mp z; rw [e3] at this; cases this))]
    rfl
theorem hm_now (A : Rep) (t : Nat) : (hpF A t).lookup ("now" : Str) = none := by kernel_rfl
theorem hm_references (A : Rep) (t : Nat) : (hpF A t).lookup ("references" : Str) = none := by kernel_rfl
theorem hm_check_object (A : Rep) (t : Nat) : (hpF A t).lookup ("check_object" : Str) = none := by kernel_rfl
theorem hm_check_live (A : Rep) (t : Nat) : (hpF A t).lookup ("check_live" : Str) = none := by kernel_rfl
theorem hm_check_kept (A : Rep) (t : Nat) : (hpF A t).lookup ("check_kept" : Str) = none := by kernel_rfl
theorem hm_live (A : Rep) (t : Nat) : (hpF A t).lookup ("live" : Str) = none := by kernel_rfl
theorem hm_dead (A : Rep) (t : Nat) : (hpF A t).lookup ("dead" : Str) = none := by kernel_rfl
theorem hm_birth (A : Rep) (t : Nat) : (hpF A t).lookup ("birth" : Str) = none := by kernel_rfl
theorem hm_generation_of (A : Rep) (t : Nat) : (hpF A t).lookup ("generation_of" : Str) = none := by kernel_rfl
theorem hm_found_at (A : Rep) (t : Nat) : (hpF A t).lookup ("found_at" : Str) = none := by kernel_rfl
theorem hm_first_found (A : Rep) (t : Nat) : (hpF A t).lookup ("first_found" : Str) = none := by kernel_rfl
theorem hm_holders (A : Rep) (t : Nat) : (hpF A t).lookup ("holders" : Str) = none := by kernel_rfl
theorem hm_due (A : Rep) (t : Nat) : (hpF A t).lookup ("due" : Str) = none := by kernel_rfl
theorem hm_note (A : Rep) (t : Nat) : (hpF A t).lookup ("note" : Str) = none := by kernel_rfl
theorem hm_check_room (A : Rep) (t : Nat) : (hpF A t).lookup ("check_room" : Str) = none := by kernel_rfl
theorem hm_check_reference_room (A : Rep) (t : Nat) : (hpF A t).lookup ("check_reference_room" : Str) = none := by kernel_rfl
theorem hm_create (A : Rep) (t : Nat) : (hpF A t).lookup ("create" : Str) = none := by kernel_rfl
theorem hm_connect (A : Rep) (t : Nat) : (hpF A t).lookup ("connect" : Str) = none := by kernel_rfl
theorem hm_disconnect (A : Rep) (t : Nat) : (hpF A t).lookup ("disconnect" : Str) = none := by kernel_rfl
theorem hm_refer (A : Rep) (t : Nat) : (hpF A t).lookup ("refer" : Str) = none := by kernel_rfl
theorem hm_clear (A : Rep) (t : Nat) : (hpF A t).lookup ("clear" : Str) = none := by kernel_rfl
theorem hm_hold (A : Rep) (t : Nat) : (hpF A t).lookup ("hold" : Str) = none := by kernel_rfl
theorem hm_drop (A : Rep) (t : Nat) : (hpF A t).lookup ("drop" : Str) = none := by kernel_rfl
theorem hm_settle (A : Rep) (t : Nat) : (hpF A t).lookup ("settle" : Str) = none := by kernel_rfl
theorem hm_collect (A : Rep) (t : Nat) : (hpF A t).lookup ("collect" : Str) = none := by kernel_rfl
theorem hm_force (A : Rep) (t : Nat) : (hpF A t).lookup ("force" : Str) = none := by kernel_rfl
theorem hm_run (A : Rep) (t : Nat) : (hpF A t).lookup ("run" : Str) = none := by kernel_rfl
theorem hm_free (A : Rep) (t : Nat) : (hpF A t).lookup ("free" : Str) = none := by kernel_rfl
end
end HD
set_option Elab.async false
set_option linter.all false
set_option maxRecDepth 100000
set_option maxHeartbeats 2000000
/-! The methods of a heap that only read (first part). -/
namespace HD
open PySem PySem.Spec PyProof.Rows L2 Evl
section
variable {P : Program} {w : World} {K : PySem.W.Frag} {mg : Str → Option Value} {base : Heap}
theorem HS.Wf.psz {S : HS} (h : S.Wf) : S.ps.length ≤ 1000 := Nat.le_trans h.psn (by decide)
theorem lastOf_lt {ps : List Nat} (h : Ps ps) : lastOf ps < ps.length := by
  have := h.last
  omega
theorem HS.gen_le (S : HS) (i : Nat) : S.gen i ≤ lastOf S.ps := Nat.min_le_left _ _
/-- a heap's instance as self -/
def selfV (A : Rep) : V := .ref (A.at_ .inst)
theorem sc_H_now : FnScope ["self"] ["self"] (defScope s_H_now) := ⟨rfl, rfl, rfl, by decide +kernel, rfl, by decide +kernel, by decide +kernel⟩
def sp_H_now (K : PySem.W.Frag) : Sp := fun vs H Q _ => ∃ A S, vs = [.ref (A.at_ .inst)] ∧ HeapAt K H A S ∧ RetV (nV S.time) H Q
theorem ok_H_now (T : TX K mg) : MethOk P w K mg base (CH K) 1 "now" ["self"] (sp_H_now K) := by
  have SC := sc_H_now
  refine meth_mk (F_H_now T) (m_H_now T) sc_H_now (fun _ _ _ _ _ _ us hl => match us, hl with | [_], _ => rfl) (fun vs H Q E h => ?_) (fun cdv A outer s H vs Q E hr h => ?_)
  · obtain ⟨A, S, rfl, _⟩ := h
    rfl
  · obtain ⟨A, S, rfl, h, k⟩ := h
    refine ⟨_, (pss_one (ps_ret (kfld (K := K) (pv 0)))), ?_⟩
    exact s_ret (evf_time T h (ev_var rfl)) k
theorem sc_H_check_object : FnScope ["self", "item"] ["self", "item"] (defScope s_H_check_object) := ⟨rfl, rfl, rfl, by decide +kernel, rfl, by decide +kernel, by decide +kernel⟩
def sp_H_check_object (K : PySem.W.Frag) : Sp := fun vs H Q _ => ∃ A S i, vs = [.ref (A.at_ .inst), nV i] ∧ HeapAt K H A S ∧ i < S.n ∧ RetV .non H Q
theorem ok_H_check_object (T : TX K mg) : MethOk P w K mg base (CH K) 3 "check_object" ["self", "item"] (sp_H_check_object K) := by
  have SC := sc_H_check_object
  refine meth_mk (F_H_check_object T) (m_H_check_object T) sc_H_check_object (fun _ _ _ _ _ _ us hl => match us, hl with | [_, _], _ => rfl) (fun vs H Q E h => ?_) (fun cdv A outer s H vs Q E hr h => ?_)
  · obtain ⟨A, S, i, rfl, _⟩ := h
    rfl
  · obtain ⟨A, S, i, rfl, h, hi, k⟩ := h
    refine ⟨_, (pss_one (ps_if (pt_not (pt_val (pg_call (ok_is_between T) hr (by decide) rfl (pa_cons (pv 1) (pa_cons pe_int (pa_cons (pe_op op_sub (klen (K := K) rfl (b_len T) (pa_cons (kfld (K := K) (pv 0)) pa_nil)) pe_int) pa_nil))))))
      pss_never
      pss_nil)), ?_⟩
    refine s_when (b := false) (et_is (et_not (a := true) (et_B (ev_is (ev_call (ea_cons (ev_var rfl) (ea_cons ev_c (ea_cons (ev_op (ev_len (evf_births T h (ev_var rfl)) (sq_of (h.ob .births trivial))) ev_c rv_I0) ea_nil))) fun H1 e Q q E => ⟨_, _, _, rfl, q⟩) ?_))) rfl) (fun q => nomatch q) (fun _ H1 e => k H1 e)
    rw [vl_len, decide_eq_true (by omega), decide_eq_true (by omega)]
    rfl
theorem sc_H_check_live : FnScope ["self", "objects", "item"] ["self", "objects"] (defScope s_H_check_live) := ⟨rfl, rfl, rfl, by decide +kernel, rfl, by decide +kernel, by decide +kernel⟩
def sp_H_check_live (K : PySem.W.Frag) : Sp := fun vs H Q _ => ∃ A S l, ∃ is : List Nat, vs = [.ref (A.at_ .inst), .ref l] ∧ HeapAt K H A S ∧ SqL K H l (is.map fun i => nV i) ∧ (∀ i ∈ is, i < S.n ∧ S.death i = none) ∧ RetV .non H Q
theorem ev_check_object (T : TX K mg) {H : Hp} {A : Rep} {S : HS} {σ : L2.St} {ta tb : TE} {E : XK} (h : HeapAt K H A S) (e : Ev ta σ H (.ref (A.at_ .inst))) {i : Nat} (hi : i < S.n) (e2 : Ev tb σ H (nV i)) :
    Ev (tMeth (CH K) "check_object" (sp_H_check_object K) [] E ta (tCons tb tNil)) σ H .non :=
  ev_meth e (h.ob .inst trivial) (hm_check_object A S.time) (ea_cons e2 ea_nil) fun H1 e3 Q q E => ⟨A, S, i, rfl, h.ex e3, hi, q⟩
theorem ok_H_check_live (T : TX K mg) : MethOk P w K mg base (CH K) 4 "check_live" ["self", "objects"] (sp_H_check_live K) := by
  have SC := sc_H_check_live
  refine meth_mk (F_H_check_live T) (m_H_check_live T) sc_H_check_live (fun _ _ _ _ _ _ us hl => match us, hl with | [_, _], _ => rfl) (fun vs H Q E h => ?_) (fun cdv A outer s H vs Q E hr h => ?_)
  · obtain ⟨A, S, l, is, rfl, _⟩ := h
    rfl
  · obtain ⟨A, S, l, is, rfl, h, hl, hi, k⟩ := h
    refine ⟨_, (pss_cons (ps_for PassesOwn.never rfl (pi_list (pv 1)) (pg_name (i := 2) SC.nd rfl (Or.inl rfl))
      (pss_one (ps_expr (pm_call (ok_H_check_object T) (cls_H T) hr (by decide) (pv 0) (pa_cons (pv 2) pa_nil)))))
    (pss_one (ps_for PassesOwn.never rfl (pi_list (pv 1)) (pg_name (i := 2) SC.nd rfl (Or.inl rfl))
      (pss_one (ps_if (pt_cmp (pc_notN (kix (K := K) (kfld (K := K) (pv 0)) (pv 2))))
      pss_never
      pss_nil))))), ?_⟩
    have at' : ∀ (i : Nat) (x : V), (is.map fun i => nV i)[i]? = some x → ∃ j, j ∈ is ∧ x = nV j := fun i x e => by
      obtain ⟨j, hj, rfl⟩ := List.mem_map.mp (List.mem_of_getElem? e)
      exact ⟨j, hj, rfl⟩
    refine q_forLn (ev_var rfl) hl (fun _ σ H' => ∃ v, σ = [some (.ref (A.at_ .inst)), some (.ref l), v] ∧ Ex H H') (fun H1 e => ⟨_, rfl, e⟩) (fun i σ' H' _ p => let ⟨_, _, e⟩ := p; ex_l e hl) ?_ ?_
    · rintro i x σ' H' hx ⟨v, rfl, e⟩
      obtain ⟨j, hj, rfl⟩ := at' i x hx
      exact s_drop (ev_check_object T (h.ex e) (ev_var rfl) (hi j hj).1 (ev_var rfl)) fun H1 e1 => ⟨_, rfl, e.trans e1⟩
    · rintro σ' H' ⟨v, rfl, e0⟩
      refine s_forLn (ev_var rfl) (ex_l e0 hl) (fun _ σ H' => ∃ v, σ = [some (.ref (A.at_ .inst)), some (.ref l), v] ∧ Ex H H') (fun H1 e => ⟨_, rfl, e0.trans e⟩) (fun i σ' H' _ p => let ⟨_, _, e⟩ := p; ex_l e hl) ?_ ?_
      · rintro i x σ' H' hx ⟨v, rfl, e⟩
        obtain ⟨j, hj, rfl⟩ := at' i x hx
        refine s_when (b := false) (et_B (ev_is (ev_notN (evi_deaths T (h.ex e) (ev_var rfl) (hi j hj).1 (ev_var rfl))) ?_)) (fun q => nomatch q) fun _ H1 e1 => ⟨_, rfl, e.trans e1⟩
        rw [(hi j hj).2]
        rfl
      · rintro σ' H' ⟨v, rfl, e⟩
        exact k H' e
theorem sc_H_check_kept : FnScope ["self", "item"] ["self", "item"] (defScope s_H_check_kept) := ⟨rfl, rfl, rfl, by decide +kernel, rfl, by decide +kernel, by decide +kernel⟩
def sp_H_check_kept (K : PySem.W.Frag) : Sp := fun vs H Q _ => ∃ A S i, vs = [.ref (A.at_ .inst), nV i] ∧ HeapAt K H A S ∧ i < S.n ∧ S.freed i = false ∧ RetV .non H Q
theorem ok_H_check_kept (T : TX K mg) : MethOk P w K mg base (CH K) 4 "check_kept" ["self", "item"] (sp_H_check_kept K) := by
  have SC := sc_H_check_kept
  refine meth_mk (F_H_check_kept T) (m_H_check_kept T) sc_H_check_kept (fun _ _ _ _ _ _ us hl => match us, hl with | [_, _], _ => rfl) (fun vs H Q E h => ?_) (fun cdv A outer s H vs Q E hr h => ?_)
  · obtain ⟨A, S, i, rfl, _⟩ := h
    rfl
  · obtain ⟨A, S, i, rfl, h, hi, hf, k⟩ := h
    refine ⟨_, (pss_cons (ps_expr (pm_call (ok_H_check_object T) (cls_H T) hr (by decide) (pv 0) (pa_cons (pv 1) pa_nil)))
    (pss_one (ps_if (pt_cmp (pc_notN (kix (K := K) (kfld (K := K) (pv 0)) (pv 1))))
      pss_never
      pss_nil))), ?_⟩
    refine q_drop (ev_check_object T h (ev_var rfl) hi (ev_var rfl)) fun H1 e1 => ?_
    exact s_when (b := false) (et_B (ev_is (evi_freedY T (h.ex e1) (ev_var rfl) hi (ev_var rfl)) (by rw [hf]))) (fun q => nomatch q) fun _ H2 e2 => k H2 (e1.trans e2)
theorem ev_check_kept (T : TX K mg) {H : Hp} {A : Rep} {S : HS} {σ : L2.St} {ta tb : TE} {E : XK} (h : HeapAt K H A S) (e : Ev ta σ H (.ref (A.at_ .inst))) {i : Nat} (hi : i < S.n) (hf : S.freed i = false) (e2 : Ev tb σ H (nV i)) :
    Ev (tMeth (CH K) "check_kept" (sp_H_check_kept K) [] E ta (tCons tb tNil)) σ H .non :=
  ev_meth e (h.ob .inst trivial) (hm_check_kept A S.time) (ea_cons e2 ea_nil) fun H1 e3 Q q E => ⟨A, S, i, rfl, h.ex e3, hi, hf, q⟩
theorem sc_H_birth : FnScope ["self", "item"] ["self", "item"] (defScope s_H_birth) := ⟨rfl, rfl, rfl, by decide +kernel, rfl, by decide +kernel, by decide +kernel⟩
def sp_H_birth (K : PySem.W.Frag) : Sp := fun vs H Q _ => ∃ A S i, vs = [.ref (A.at_ .inst), nV i] ∧ HeapAt K H A S ∧ i < S.n ∧ RetV (nV (S.birth i)) H Q
theorem ok_H_birth (T : TX K mg) : MethOk P w K mg base (CH K) 4 "birth" ["self", "item"] (sp_H_birth K) := by
  have SC := sc_H_birth
  refine meth_mk (F_H_birth T) (m_H_birth T) sc_H_birth (fun _ _ _ _ _ _ us hl => match us, hl with | [_, _], _ => rfl) (fun vs H Q E h => ?_) (fun cdv A outer s H vs Q E hr h => ?_)
  · obtain ⟨A, S, i, rfl, _⟩ := h
    rfl
  · obtain ⟨A, S, i, rfl, h, hi, k⟩ := h
    refine ⟨_, (pss_cons (ps_expr (pm_call (ok_H_check_object T) (cls_H T) hr (by decide) (pv 0) (pa_cons (pv 1) pa_nil)))
    (pss_one (ps_ret (kix (K := K) (kfld (K := K) (pv 0)) (pv 1))))), ?_⟩
    refine q_drop (ev_check_object T h (ev_var rfl) hi (ev_var rfl)) fun H1 e1 => ?_
    exact s_ret (evi_births T (h.ex e1) (ev_var rfl) hi (ev_var rfl)) fun H2 e2 => k H2 (e1.trans e2)
theorem sc_H_generation_of : FnScope ["self", "item", "by_digits"] ["self", "item"] (defScope s_H_generation_of) := ⟨rfl, rfl, rfl, by decide +kernel, rfl, by decide +kernel, by decide +kernel⟩
def sp_H_generation_of (K : PySem.W.Frag) : Sp := fun vs H Q _ => ∃ A S i, vs = [.ref (A.at_ .inst), nV i] ∧ HeapAt K H A S ∧ i < S.n ∧ RetV (nV (S.gen i)) H Q
theorem ok_H_generation_of (T : TX K mg) : MethOk P w K mg base (CH K) 3 "generation_of" ["self", "item"] (sp_H_generation_of K) := by
  have SC := sc_H_generation_of
  refine meth_mk (F_H_generation_of T) (m_H_generation_of T) sc_H_generation_of (fun _ _ _ _ _ _ us hl => match us, hl with | [_, _], _ => rfl) (fun vs H Q E h => ?_) (fun cdv A outer s H vs Q E hr h => ?_)
  · obtain ⟨A, S, i, rfl, _⟩ := h
    rfl
  · obtain ⟨A, S, i, rfl, h, hi, k⟩ := h
    refine ⟨_, (pss_cons (ps_set (i := 2) SC.nd rfl (Or.inl rfl) (pm_call (ok_S_generation_of T) (cls_S T) hr (by decide) (kfld (K := K) (pv 0)) (pa_cons (kix (K := K) (kfld (K := K) (pv 0)) (pv 1)) (pa_cons (kfld (K := K) (pv 0)) pa_nil))))
    (pss_one (ps_ret (pe_callB (call_min2 rfl) rfl (b_min T) (by decide +kernel) (pa_cons (pm_call0 (ok_S_last T) (cls_S T) hr (by decide) (kfld (K := K) (pv 0))) (pa_cons (pe_callB (call_max2 rfl) rfl (b_max T) (by decide +kernel) (pa_cons (pv 2) (pa_cons (kix (K := K) (kfld (K := K) (pv 0)) (pv 1)) pa_nil))) pa_nil)))))), ?_⟩
    refine q_asg (ev_dig (evf_sc T h (ev_var rfl)) h.scheme h.wf.p h.wf.psz (ea_cons (evi_births T h (ev_var rfl) hi (ev_var rfl)) (ea_cons (evf_time T h (ev_var rfl)) ea_nil))) fun H1 e1 => ?_
    have g := h.ex e1
    exact s_ret (ev_min2N (ea_cons (ev_last (evf_sc T g (ev_var rfl)) g.scheme h.wf.p.len) (ea_cons (ev_max2N (ea_cons (ev_var rfl) (ea_cons (evi_forced T g (ev_var rfl) hi (ev_var rfl)) ea_nil))) ea_nil))) fun H2 e2 => k H2 (e1.trans e2)
theorem ev_gen (T : TX K mg) {H : Hp} {A : Rep} {S : HS} {σ : L2.St} {ta tb : TE} {E : XK} (h : HeapAt K H A S) (e : Ev ta σ H (.ref (A.at_ .inst))) {i : Nat} (hi : i < S.n) (e2 : Ev tb σ H (nV i)) :
    Ev (tMeth (CH K) "generation_of" (sp_H_generation_of K) [] E ta (tCons tb tNil)) σ H (nV (S.gen i)) :=
  ev_meth e (h.ob .inst trivial) (hm_generation_of A S.time) (ea_cons e2 ea_nil) fun H1 e3 Q q E => ⟨A, S, i, rfl, h.ex e3, hi, q⟩
theorem sc_H_found_at : FnScope ["self", "item"] ["self", "item"] (defScope s_H_found_at) := ⟨rfl, rfl, rfl, by decide +kernel, rfl, by decide +kernel, by decide +kernel⟩
def sp_H_found_at (K : PySem.W.Frag) : Sp := fun vs H Q _ => ∃ A S i r, vs = [.ref (A.at_ .inst), nV i] ∧ HeapAt K H A S ∧ i < S.n ∧ S.rank i = some r ∧ r < S.ps.length ∧ RetV (nV (nxt S.ps S.time r)) H Q
theorem t300 {n : Nat} (h : n < 2 ^ 300) : n < 2 ^ 700 := Nat.lt_trans h (Nat.pow_lt_pow_right (by decide) (by decide))
theorem ok_H_found_at (T : TX K mg) : MethOk P w K mg base (CH K) 2 "found_at" ["self", "item"] (sp_H_found_at K) := by
  have SC := sc_H_found_at
  refine meth_mk (F_H_found_at T) (m_H_found_at T) sc_H_found_at (fun _ _ _ _ _ _ us hl => match us, hl with | [_, _], _ => rfl) (fun vs H Q E h => ?_) (fun cdv A outer s H vs Q E hr h => ?_)
  · obtain ⟨A, S, i, r, rfl, _⟩ := h
    rfl
  · obtain ⟨A, S, i, r, rfl, h, hi, hk, hr2, k⟩ := h
    refine ⟨_, (pss_one (ps_ret (pm_call (ok_S_next_of T) (cls_S T) hr (by decide) (kfld (K := K) (pv 0)) (pa_cons (kfld (K := K) (pv 0)) (pa_cons (kix (K := K) (kfld (K := K) (pv 0)) (pv 1)) pa_nil))))), ?_⟩
    have e := evi_ranks T h (ev_var (σ := start ["self", "item"] [.ref (A.at_ .inst), nV i]) (i := 0) rfl) hi (ev_var (i := 1) rfl)
    rw [hk] at e
    exact s_ret (ev_next (evf_sc T h (ev_var rfl)) h.scheme h.wf.p (ea_cons (evf_time T h (ev_var rfl)) (ea_cons e ea_nil)) (t300 h.wf.tb) hr2) k
theorem ev_found_at (T : TX K mg) {H : Hp} {A : Rep} {S : HS} {σ : L2.St} {ta tb : TE} {E : XK} (h : HeapAt K H A S) (e : Ev ta σ H (.ref (A.at_ .inst))) {i r : Nat} (hi : i < S.n) (hk : S.rank i = some r) (hr : r < S.ps.length) (e2 : Ev tb σ H (nV i)) :
    Ev (tMeth (CH K) "found_at" (sp_H_found_at K) [] E ta (tCons tb tNil)) σ H (nV (nxt S.ps S.time r)) :=
  ev_meth e (h.ob .inst trivial) (hm_found_at A S.time) (ea_cons e2 ea_nil) fun H1 e3 Q q E => ⟨A, S, i, r, rfl, h.ex e3, hi, hk, hr, q⟩
theorem sc_H_check_room : FnScope ["self"] ["self"] (defScope s_H_check_room) := ⟨rfl, rfl, rfl, by decide +kernel, rfl, by decide +kernel, by decide +kernel⟩
def sp_H_check_room (K : PySem.W.Frag) : Sp := fun vs H Q _ => ∃ A S, vs = [.ref (A.at_ .inst)] ∧ HeapAt K H A S ∧ S.nd < 400 ∧ RetV .non H Q
theorem ok_H_check_room (T : TX K mg) : MethOk P w K mg base (CH K) 1 "check_room" ["self"] (sp_H_check_room K) := by
  have SC := sc_H_check_room
  refine meth_mk (F_H_check_room T) (m_H_check_room T) sc_H_check_room (fun _ _ _ _ _ _ us hl => match us, hl with | [_], _ => rfl) (fun vs H Q E h => ?_) (fun cdv A outer s H vs Q E hr h => ?_)
  · obtain ⟨A, S, rfl, _⟩ := h
    rfl
  · obtain ⟨A, S, rfl, h, hn, k⟩ := h
    refine ⟨_, (pss_one (ps_if (pt_cmpR op_ge (klen (K := K) rfl (b_len T) (pa_cons (kfld (K := K) (pv 0)) pa_nil)) (pe_gi (i_MOST_ACTIONS T) rfl) (nomark _))
      pss_never
      pss_nil)), ?_⟩
    exact s_when (b := false) (et_is (et_test (ev_op (ev_len (evf_done T h (ev_var rfl)) (sq_of (h.ob .done trivial))) ev_c rv_I0)) (decide_eq_false (by rw [h.dnl]; omega))) (fun q => nomatch q) fun _ H1 e1 => k H1 e1
theorem ev_check_room (T : TX K mg) {H : Hp} {A : Rep} {S : HS} {σ : L2.St} {ta : TE} {E : XK} (h : HeapAt K H A S) (e : Ev ta σ H (.ref (A.at_ .inst))) (hn : S.nd < 400) :
    Ev (tMeth (CH K) "check_room" (sp_H_check_room K) [] E ta tNil) σ H .non :=
  ev_meth e (h.ob .inst trivial) (hm_check_room A S.time) ea_nil fun H1 e3 Q q E => ⟨A, S, rfl, h.ex e3, hn, q⟩
/-- the objects below n of which p holds -/
def sel (n : Nat) (p : Nat → Bool) : List Nat := (List.range n).filter p
theorem mem_sel {n : Nat} {p : Nat → Bool} {i : Nat} : i ∈ sel n p ↔ i < n ∧ p i = true := by
  unfold sel
  rw [List.mem_filter, List.mem_range]
theorem nd_sel (n : Nat) (p : Nat → Bool) : (sel n p).Nodup := List.nodup_range.filter _
theorem len_sel (n : Nat) (p : Nat → Bool) : (sel n p).length ≤ n := by
  have := List.length_filter_le p (List.range n)
  rw [List.length_range] at this
  exact this
abbrev nVs (l : List Nat) : List V := l.map fun i => nV i
theorem given_sel {n : Nat} {p : Nat → Bool} : given n p (fun i => nV i) = nVs (sel n p) := rfl
def HS.live (S : HS) : List Nat := sel S.n fun i => (S.death i).isNone
def HS.dead (S : HS) : List Nat := sel S.n fun i => (S.death i).isSome && !S.freed i
theorem sc_H_live : FnScope ["self", "item", "death"] ["self"] (defScope s_H_live) := ⟨rfl, rfl, rfl, by decide +kernel, rfl, by decide +kernel, by decide +kernel⟩
def sp_H_live (K : PySem.W.Frag) : Sp := fun vs H Q _ => ∃ A S, vs = [.ref (A.at_ .inst)] ∧ HeapAt K H A S ∧ RetL (nVs S.live) H Q
theorem ok_H_live (T : TX K mg) : MethOk P w K mg base (CH K) 1 "live" ["self"] (sp_H_live K) := by
  have SC := sc_H_live
  refine meth_mk (F_H_live T) (m_H_live T) sc_H_live (fun _ _ _ _ _ _ us hl => match us, hl with | [_], _ => rfl) (fun vs H Q E h => ?_) (fun cdv A outer s H vs Q E hr h => ?_)
  · obtain ⟨A, S, rfl, _⟩ := h
    rfl
  · obtain ⟨A, S, rfl, h, k⟩ := h
    refine ⟨_, (pss_one (ps_ret (pe_lc (own := [("item", 1), ("death", 2)]) rfl SC.nd (pi_enum rfl (b_enumerate T) (pa_cons (kfld (K := K) (pv 0)) pa_nil)) (blkOk_by (own := [("item", 1), ("death", 2)]) (N := ["self", "item", "death"]) (sc := defScope s_H_live) (by decide +kernel)) (fun _ _ _ _ _ => (ktup (K := K) 2 rfl (pgs_cons (pg_name (i := 1) SC.nd rfl (Or.inl rfl)) (pgs_cons (pg_name (i := 2) SC.nd rfl (Or.inl rfl)) pgs_nil)))) (fun _ _ _ _ _ => pts_one (pt_cmp (pc_isN (pv 2)))) (fun _ _ _ _ _ => (pv 1))))), ?_⟩
    refine s_retL (el_lcE (fun i => (S.death i).isNone) (fun i => nV i) (ea_cons (evf_deaths T h (ev_var rfl)) ea_nil) (sq_of (h.ob .deaths trivial)) (by rw [vl_len]; have := h.wf.n60; omega) (fun _ _ => rfl) (fun i x H1 e hx => ?_) (fun i x H1 e hx _ => ev_var rfl)) fun p H1 np e hp => ?_
    · obtain ⟨hi, rfl⟩ := vl_at hx
      exact et_B (ev_is (ev_isN (ev_var rfl)) (congrArg V.bl oV_dec))
    · rw [vl_len] at hp
      exact k p H1 np e hp
theorem sc_H_dead : FnScope ["self", "gone", "item", "death"] ["self"] (defScope s_H_dead) := ⟨rfl, rfl, rfl, by decide +kernel, rfl, by decide +kernel, by decide +kernel⟩
def sp_H_dead (K : PySem.W.Frag) : Sp := fun vs H Q _ => ∃ A S, vs = [.ref (A.at_ .inst)] ∧ HeapAt K H A S ∧ RetL (nVs S.dead) H Q
theorem filter_at (l : List Nat) (p : Nat → Bool) : given l.length (fun i => p (l.getD i 0)) (fun i => nV (l.getD i 0)) = nVs (l.filter p) := by
  unfold given
  have e : (List.range l.length).map (fun i => l.getD i 0) = l := by
    refine List.ext_getElem? fun i => ?_
    by_cases hi : i < l.length
    · rw [List.getElem?_map, List.getElem?_range hi, List.getElem?_eq_getElem hi]
      show some (l.getD i 0) = _
      rw [List.getD_eq_getElem?_getD, List.getElem?_eq_getElem hi]
      rfl
    · rw [List.getElem?_eq_none (by rw [List.length_map, List.length_range]; omega), List.getElem?_eq_none (by omega)]
  show ((List.range l.length).filter (p ∘ fun i => l.getD i 0)).map ((fun i => nV i) ∘ fun i => l.getD i 0) = nVs (l.filter p)
  rw [← List.map_map, ← List.filter_map, e]
theorem nVs_at {l : List Nat} {i : Nat} {x : V} (h : (nVs l)[i]? = some x) : l.getD i 0 ∈ l ∧ x = nV (l.getD i 0) := by
  rw [List.getElem?_map] at h
  cases e : l[i]? with
  | none =>
    rw [e] at h
    cases h
  | some j =>
    rw [e] at h
    have e2 : l.getD i 0 = j := by
      rw [List.getD_eq_getElem?_getD, e]
      rfl
    rw [e2]
    exact ⟨List.mem_of_getElem? e, (Option.some.inj h).symm⟩
theorem ok_H_dead (T : TX K mg) : MethOk P w K mg base (CH K) 1 "dead" ["self"] (sp_H_dead K) := by
  have SC := sc_H_dead
  refine meth_mk (F_H_dead T) (m_H_dead T) sc_H_dead (fun _ _ _ _ _ _ us hl => match us, hl with | [_], _ => rfl) (fun vs H Q E h => ?_) (fun cdv A outer s H vs Q E hr h => ?_)
  · obtain ⟨A, S, rfl, _⟩ := h
    rfl
  · obtain ⟨A, S, rfl, h, k⟩ := h
    refine ⟨_, (pss_cons (ps_setLc (i := 1) (own := [("item", 2), ("death", 3)]) rfl SC.nd rfl rfl (sw_true rfl rfl rfl (by decide +kernel)) (pi_enum rfl (b_enumerate T) (pa_cons (kfld (K := K) (pv 0)) pa_nil)) (blkOk_by (own := [("item", 2), ("death", 3)]) (N := ["self", "gone", "item", "death"]) (sc := defScope s_H_dead) (by decide +kernel)) (fun _ _ _ _ _ => (ktup (K := K) 2 rfl (pgs_cons (pg_name (i := 2) SC.nd rfl (Or.inl rfl)) (pgs_cons (pg_name (i := 3) SC.nd rfl (Or.inl rfl)) pgs_nil)))) (fun _ _ _ _ _ => pts_one (pt_cmp (pc_notN (pv 3)))) (fun _ _ _ _ _ => (pv 2)))
    (pss_one (ps_ret (pe_lc (own := [("item", 2)]) rfl SC.nd (pi_list (pv 1)) (blkOk_by (own := [("item", 2)]) (N := ["self", "gone", "item", "death"]) (sc := defScope s_H_dead) (by decide +kernel)) (fun _ _ _ _ _ => (pg_name (i := 2) SC.nd rfl (Or.inl rfl))) (fun _ _ _ _ _ => pts_one (pt_cmp (pc_isN (kix (K := K) (kfld (K := K) (pv 0)) (pv 2))))) (fun _ _ _ _ _ => (pv 2)))))), ?_⟩
    have n60 := h.wf.n60
    refine q_asgL (el_lcE (fun i => (S.death i).isSome) (fun i => nV i) (ea_cons (evf_deaths T h (ev_var rfl)) ea_nil) (sq_of (h.ob .deaths trivial)) (by rw [vl_len]; omega) (fun _ _ => rfl) (fun i x H1 e hx => ?_) (fun i x H1 e hx _ => ev_var rfl)) fun p H1 np e1 hp => ?_
    · obtain ⟨hi, rfl⟩ := vl_at hx
      refine et_B (ev_is (ev_notN (ev_var rfl)) ?_)
      rw [oV_dec]
      cases S.death i <;> rfl
    · rw [vl_len, given_sel] at hp
      generalize hg : sel S.n (fun i => (S.death i).isSome) = gone at hp
      have hlt : ∀ j ∈ gone, j < S.n := fun j hj => by
        rw [← hg] at hj
        exact (mem_sel.mp hj).1
      have hlen : gone.length ≤ S.n := by
        rw [← hg]
        exact len_sel _ _
      have g := h.ex e1
      refine s_retL (el_lcL (fun i => !S.freed (gone.getD i 0)) (fun i => nV (gone.getD i 0)) (ev_var rfl) (sq_of hp) (by rw [List.length_map]; omega) (fun _ => rfl) (fun i x H2 e hx => ?_) (fun i x H2 e hx _ => ?_)) fun q H2 nq e2 hq => ?_
      · obtain ⟨hj, rfl⟩ := nVs_at hx
        exact et_B (evi_freedN T (g.ex e) (ev_var rfl) (hlt _ hj) (ev_var rfl))
      · obtain ⟨hj, rfl⟩ := nVs_at hx
        exact ev_var rfl
      · rw [List.length_map, filter_at gone (fun j => !S.freed j)] at hq
        refine k q H2 (fresh_back e1 nq) (e1.trans e2) ?_
        rw [hq, ← hg]
        unfold HS.dead sel
        rw [List.filter_filter]
        refine congrArg (fun l => some (HO.lst (nVs l))) (List.filter_congr fun i _ => Bool.and_comm _ _)
end
end HD
set_option Elab.async false
set_option linter.all false
set_option maxRecDepth 100000
set_option maxHeartbeats 4000000
/-! reached_from. -/
namespace HD
open PySem PySem.Spec PyProof.Rows L2 Evl
/-! ### keys put in one by one -/
def addAll (l : List Nat) (ss : List Nat) : List Nat := ss.foldl addK l
theorem mem_addAll : ∀ {ss l : List Nat} {x : Nat}, x ∈ addAll l ss ↔ x ∈ l ∨ x ∈ ss
  | [], l, x => by
    show x ∈ l ↔ _
    simp
  | a :: r, l, x => by
    show x ∈ addAll (addK l a) r ↔ _
    rw [mem_addAll, mem_addK, List.mem_cons, or_assoc]
theorem nd_addAll : ∀ {ss l : List Nat}, l.Nodup → (addAll l ss).Nodup
  | [], l, h => h
  | a :: r, l, h => nd_addAll (ss := r) (nd_addK h)
theorem addAll_snoc {l ss : List Nat} {a : Nat} : addAll l (ss ++ [a]) = addK (addAll l ss) a := by
  unfold addAll
  rw [List.foldl_append]
  rfl
theorem take_snoc {α : Type} {l : List α} {i : Nat} {x : α} (h : l[i]? = some x) : l.take (i + 1) = l.take i ++ [x] := by
  rw [List.take_add_one, h]
  rfl
theorem kD_at {l : List Nat} {i : Nat} {k : Key} {v : V} (h : (kD l)[i]? = some (k, v)) : ∃ j, l[i]? = some j ∧ k = Sum.inl (j : Int) := by
  unfold kD at h
  rw [List.getElem?_map] at h
  cases e : l[i]? with
  | none =>
    rw [e] at h
    cases h
  | some j =>
    rw [e] at h
    have h2 := Option.some.inj h
    exact ⟨j, rfl, (congrArg Prod.fst h2).symm⟩
theorem kD_keys {l : List Nat} : (kD l).map (fun kv => kV kv.1) = nVs l := by
  unfold kD
  rw [List.map_map]
  rfl
theorem nVs_app {l : List Nat} {x : Nat} : nVs (l ++ [x]) = nVs l ++ [nV x] := List.map_append
theorem nVs_len {l : List Nat} : (nVs l).length = l.length := List.length_map _
/-- {k: True for k in ..}: the dict made so far -/
def Cd (H : Hp) (acc : Nat → List Nat) (Dl : Addr) (i : Nat) (H' : Hp) : Prop := H Dl = none ∧ Ex H H' ∧ H' Dl = some (.dK (kD (acc i)))
section
variable {K : PySem.W.Frag} {σ : L2.St} {H : Hp}
theorem cd_turn {H H' : Hp} {ss : List Nat} {Dl : Addr} {i a : Nat} {j : Nat} {σ2 : L2.St} (p : Cd H (fun i => addAll [] (ss.take i)) Dl i H') (ha : ss[i]? = some a) (hl : ss.length ≤ 40000) (hv : σ2[j]? = some (some (nV a))) :
    tYes σ2 H' fun b H3 => if b = true then tVar j σ2 H3 fun y H4 => tC (.bl true) σ2 H4 fun z H5 => ∃ kvs k, y = kV k ∧ H5 Dl = some (.dK kvs) ∧ kvs.length < sizeLine ∧ Cd H (fun i => addAll [] (ss.take i)) Dl (i + 1) (upd H5 Dl (.dK (putK kvs k z))) else Cd H (fun i => addAll [] (ss.take i)) Dl (i + 1) H3 := by
  obtain ⟨p1, p2, p3⟩ := p
  have p3 : H' Dl = some (.dK (kD (addAll [] (ss.take i)))) := p3
  show if true = true then tVar j σ2 H' fun y H4 => tC (.bl true) σ2 H4 fun z H5 => ∃ kvs k, y = kV k ∧ H5 Dl = some (.dK kvs) ∧ kvs.length < sizeLine ∧ Cd H (fun i => addAll [] (ss.take i)) Dl (i + 1) (upd H5 Dl (.dK (putK kvs k z))) else Cd H (fun i => addAll [] (ss.take i)) Dl (i + 1) H'
  rw [if_pos rfl]
  refine ⟨_, hv, kD (addAll [] (ss.take i)), Sum.inl (a : Int), rfl, p3, ?_, p1, Ex.mut p2 p1, ?_⟩
  · rw [kD_len]
    have h1 : (addAll [] (ss.take i)).length ≤ (ss.take i).length := by
      clear p3 ha
      have : ∀ (r l : List Nat), (addAll l r).length ≤ l.length + r.length := by
        intro r
        induction r with
        | nil => intro l; exact Nat.le_refl _
        | cons b r ih =>
          intro l
          have h1 := ih (addK l b)
          have h2 := len_addK (l := l) (k := b)
          show (addAll (addK l b) r).length ≤ l.length + (r.length + 1)
          omega
      have q := this (ss.take i) []
      rw [List.length_nil, Nat.zero_add] at q
      exact q
    have h2 : (ss.take i).length ≤ ss.length := by
      rw [List.length_take]
      omega
    exact sz_lt (by omega)
  · rw [upd_same, kD_put]
    show some (HO.dK (kD (addK (addAll [] (ss.take i)) a))) = some (HO.dK (kD (addAll [] (ss.take (i + 1)))))
    rw [take_snoc ha, addAll_snoc]
/-- over a list of numbers -/
theorem ek_dcL {l : Addr} {ss : List Nat} {tl : TE} {j : Nat} (h : Ev tl σ H (.ref l)) (hx : SqL K H l (nVs ss)) (hz : ss.length ≤ 40000) (hw : ∀ x, wipe ((wipe σ [j]).set j (some x)) [j] = wipe σ [j]) (hj : j < σ.length) :
    EvKP (tDc (iList K tl) (gName j) tYes (tVar j) (tC (.bl true)) [j]) σ H (fun kvs => kvs = kD (addAll [] ss)) := fun H0 e Q q => h H0 e _ fun H1 e1 => by
  refine ⟨l, rfl, ⟨_, ex_l (e.trans e1) hx⟩, fun Dl hD => ?_⟩
  have w := walk_list (K := K) (a := l) (xs := nVs ss)
  refine ⟨fun i m H' => m = (nVs ss).length - i ∧ i ≤ (nVs ss).length ∧ Cd H1 (fun i => addAll [] (ss.take i)) Dl i H', ⟨_, rfl, Nat.zero_le _, hD, Ex.new hD, upd_same⟩, ?_⟩
  rintro i m H' ⟨rfl, hi, p⟩
  have g := ex_l ((e.trans e1).trans p.2.1) hx
  by_cases hlt : i < (nVs ss).length
  · refine .inr ⟨w.goes i H' hlt g, fun H2 => Cd H1 (fun i => addAll [] (ss.take i)) Dl (i + 1) H2, fun H2 p2 => ⟨_, by omega, rfl, hlt, p2⟩, fun x H2 y => ?_⟩
    obtain ⟨rfl, hx2⟩ := w.yields i H' x H2 hlt g y
    rw [List.getElem?_map] at hx2
    cases ea : ss[i]? with
    | none =>
      rw [ea] at hx2
      cases hx2
    | some a =>
      rw [ea] at hx2
      cases hx2
      exact ⟨hw _, cd_turn p ea hz (by rw [List.getElem?_set_self]; rw [wipe_length]; exact hj)⟩
  · have e2 : i = (nVs ss).length := by omega
    refine .inl ⟨by rw [e2]; exact w.stops H' g, q _ Dl H' rfl (fresh_back e1 p.1) (e1.trans p.2.1) ?_⟩
    have p3 : H' Dl = some (.dK (kD (addAll [] (ss.take i)))) := p.2.2
    have e3 : ss.take i = ss := List.take_of_length_le (by rw [e2, List.length_map]; exact Nat.le_refl _)
    rw [e3] at p3
    exact p3
/-- over a dict that stands in H, locked meanwhile -/
theorem ek_dcK {d : Addr} {ss : List Nat} {tl : TE} {j : Nat} (h : ∀ H', Ev tl σ H' (.ref d)) (hx : H d = some (.dK (kD ss))) (hz : ss.length ≤ 40000) (hw : ∀ x, wipe ((wipe σ [j]).set j (some x)) [j] = wipe σ [j]) (hj : j < σ.length) :
    EvKP (tLockE (tDc (iKeys tl) (gName j) tYes (tVar j) (tC (.bl true)) [j])) σ H (fun kvs => kvs = kD (addAll [] ss)) := fun H0 e Q q => by
  have hd0 := e _ _ hx
  refine ⟨d, _, hd0, trivial, fun od => h _ _ (Ex.refl _) _ fun H1 e1 => ?_⟩
  have hd1 := e1 _ _ (upd_same (H := H0) (a := d) (o := HO.frz od (.dK (kD ss))))
  refine ⟨d, od, rfl, .inl ⟨kD ss, hd1, fun Dl hD => ?_⟩⟩
  have w := walk_keys (d := d) (o := od) (kvs := kD ss)
  refine ⟨fun i m H' => m = (kD ss).length - i ∧ i ≤ (kD ss).length ∧ Cd H1 (fun i => addAll [] (ss.take i)) Dl i H', ⟨_, rfl, Nat.zero_le _, hD, Ex.new hD, upd_same⟩, ?_⟩
  rintro i m H' ⟨rfl, hi, p⟩
  have g := p.2.1 _ _ hd1
  by_cases hlt : i < (kD ss).length
  · refine .inr ⟨w.goes i H' hlt g, fun H2 => Cd H1 (fun i => addAll [] (ss.take i)) Dl (i + 1) H2, fun H2 p2 => ⟨_, by omega, rfl, hlt, p2⟩, fun x H2 y => ?_⟩
    obtain ⟨rfl, k, v, hk, rfl⟩ := w.yields i H' x H2 hlt g y
    obtain ⟨a, ha, rfl⟩ := kD_at hk
    exact ⟨hw _, cd_turn p ha hz (by rw [List.getElem?_set_self]; rfl; rw [wipe_length]; exact hj)⟩
  · have e2 : i = (kD ss).length := by omega
    refine .inl ⟨by rw [e2]; exact w.stops H' g, g, q _ Dl _ rfl ?_ ?_ ?_⟩
    · have n1 : Dl ≠ d := fun z => by
        rw [z, hd1] at hD
        cases hD
      have n2 := fresh_back e1 hD
      rw [upd_ne n1] at n2
      exact n2
    · intro b o hb
      by_cases hbd : b = d
      · rw [hbd, upd_same]
        rw [hbd, hd0] at hb
        exact hb
      · rw [upd_ne hbd]
        exact p.2.1 _ _ (e1 _ _ (by rw [upd_ne hbd]; exact hb))
    · have n1 : Dl ≠ d := fun z => by
        rw [z, hd1] at hD
        cases hD
      rw [upd_ne n1]
      have p3 : H' Dl = some (.dK (kD (addAll [] (ss.take i)))) := p.2.2
      have e3 : ss.take i = ss := List.take_of_length_le (by rw [e2, kD_len]; exact Nat.le_refl _)
      rw [e3] at p3
      exact p3
end
/-- name = {k: v for ..}, on one line, the name a local: the new dict goes into its slot -/
theorem ps_setDc {X : Cx} {i : Nat} {y : Str} {py : Pos} {kx vx tg iter : Expr} {ifs : List Expr} {scope : Scope} {own : List (Str × Nat)} {pos spos : Pos} {wi : TI} {g : TG} {tt : TT} {tk tv : TE} (hc : X.calm = true) (hN : X.N.Nodup) (hy : X.N[i]? = some y) (hyl : X.env.scope.names.lookup y = some .local)
    (hsw : swapsWith (.DictComp kx vx [⟨tg, iter, ifs, 0⟩] scope pos) (some (.Name y py)) spos.line X.env = pure true) (hi : PI X tg iter wi) (ok : BlkOk X.N X.env.scope scope own)
    (hg : ∀ (s : Shared) (H : Hp) (C : Addr) (cl : List (Str × Addr)) (fp : List Addr), PG (X.blk s H scope (compEnvC scope cl C X.env) fp) tg g) (ht : ∀ (s : Shared) (H : Hp) (C : Addr) (cl : List (Str × Addr)) (fp : List Addr), PTs (X.blk s H scope (compEnvC scope cl C X.env) fp) ifs tt)
    (hk : ∀ (s : Shared) (H : Hp) (C : Addr) (cl : List (Str × Addr)) (fp : List Addr), PE (X.blk s H scope (compEnvC scope cl C X.env) fp) kx tk) (he : ∀ (s : Shared) (H : Hp) (C : Addr) (cl : List (Str × Addr)) (fp : List Addr), PE (X.blk s H scope (compEnvC scope cl C X.env) fp) vx tv)
    (hs : ∀ x, foldedSetIterable iter X.env x = pure x := by intro _; rfl) : PS X (.Assign [.Name y py] (.DictComp kx vx [⟨tg, iter, ifs, 0⟩] scope pos) spos) (tAsg (tDc wi g tt tk tv (own.map (·.2))) (gName i)) := by
  refine ⟨fun pins s σ H D I h => ?_⟩
  rw [exec_Assign_Name_used _ _ _ _ hsw]
  refine wpAny_bind (wpAny_standAt (wpAny_bind (?_ : wpAny (model X.prog X.w) X.A (evalThenUse _ X.env (assign (.Name y py) X.env)) _ X.xe s)))
  show wpAny (model X.prog X.w) X.A (do let _ ← comprehension (.DictComp kx vx [⟨tg, iter, ifs, 0⟩] scope pos) scope X.env (firstIterPos [⟨tg, iter, ifs, 0⟩] pos) newDict false (eval iter X.env) (some (assign (.Name y py) X.env))) _ X.xe s
  have h2 : tDc wi g tt tk tv (own.map (·.2)) σ H (fun x H1 => gName i x σ H1 D.nx) := h
  refine wpAny_bind (thn (dc_core (Qf := fun _ s' => SP X pins D .next s') hc hN I hi ok hg ht hk he hs h2 fun L C s' m H' I' q hn f => ?_) fun _ s' hq => wpAny_pure (wpAny_pure hq))
  show wpAny (model X.prog X.w) _ (assign (.Name y py) X.env (.ref L)) _ _ _
  obtain ⟨f0, f1, f2, f3, f4, f5⟩ := f
  refine wpAny_assign_Name (store_ok2 (v := V.ref L) I' hN hy (.inl hyl) rfl (fun s2 I2 ⟨a, sb, ha⟩ => ?_) (.inr hyl))
  have haC : C ≠ a := ha.elim (fun z => by rw [z]; exact f1) fun z e => f4 y a z e.symm
  exact ⟨m, hn.sameBut sb haC, fun h3 sb3 => ⟨_, H', I2.turned (t' := s2.toks) (fun b o hb e => (sb3.2 b hb).trans e) f0 f1 f3 f4 f5, q⟩⟩
/-- such a comprehension's store swaps -/
theorem swD_true {kx vx : Expr} {gs : List Comprehension} {scope : Scope} {pos py : Pos} {y : Str} {l : Nat} {env : Env} (hk : env.scope.kind = .function := by rfl) (hy : env.scope.names.lookup y = some .local := by rfl) (hl : (py.line == pos.line) = true := by rfl)
    (ha : (scope.names.any fun (n, k) => n == y && (k == .local || k == .cell)) = false := by decide +kernel) : swapsWith (.DictComp kx vx gs scope pos) (some (.Name y py)) l env = pure true := by
  have ky : env.kindOf y = some .local := hy
  have hb : env.blockKind = .function := by
    unfold Env.blockKind
    rw [hk]
    rfl
  unfold swapsWith
  simp only [hb, ky, ha, Expr.pos, hl]
  rfl
def stAt (s : Stmt) (i : Nat) : Stmt := (defBody s).getD i (.Pass ⟨0, 0, 0, 0⟩)
/-- what is known while the stack is worked off -/
structure RInv (g : Nat → List Nat) (ss : List Nat) (n : Nat) (ks wt : List Nat) : Prop where
  nd : ks.Nodup
  wk : ∀ x ∈ wt, x ∈ ks
  st : ∀ x ∈ ss, x ∈ ks
  rc : ∀ x ∈ ks, Reach g (· ∈ ss) x
  lt : ∀ x ∈ ks, x < n
  cl : ∀ x ∈ ks, x ∈ wt ∨ ∀ y ∈ g x, y ∈ ks
theorem RInv.done {g : Nat → List Nat} {ss ks : List Nat} {n : Nat} (h : RInv g ss n ks []) (x : Nat) : x ∈ ks ↔ Reach g (· ∈ ss) x := by
  refine ⟨h.rc x, fun r => ?_⟩
  induction r with
  | start m => exact h.st _ m
  | step _ e ih =>
    rcases h.cl _ ih with m | m
    · cases m
    · exact m _ e
/-- within the walk over x's targets: i of them are through -/
structure RIn (g : Nat → List Nat) (ss : List Nat) (n x i : Nat) (wt0 ks wt : List Nat) : Prop where
  nd : ks.Nodup
  wk : ∀ y ∈ wt, y ∈ ks
  st : ∀ y ∈ ss, y ∈ ks
  rc : ∀ y ∈ ks, Reach g (· ∈ ss) y
  lt : ∀ y ∈ ks, y < n
  cl : ∀ y ∈ ks, y ∈ wt ∨ y = x ∨ ∀ z ∈ g y, z ∈ ks
  xk : x ∈ ks
  up : ∀ y ∈ (g x).take i, y ∈ ks
theorem RInv.pop {g : Nat → List Nat} {ss ks wt : List Nat} {n x : Nat} (h : RInv g ss n ks (wt ++ [x])) : RIn g ss n x 0 wt ks wt :=
  ⟨h.nd, fun y m => h.wk y (List.mem_append_left _ m), h.st, h.rc, h.lt, fun y m => by
    rcases h.cl y m with q | q
    · rcases List.mem_append.mp q with q | q
      · exact .inl q
      · exact .inr (.inl (List.mem_singleton.mp q))
    · exact .inr (.inr q), h.wk x (List.mem_append_right _ (List.mem_singleton.mpr rfl)), fun y m => by simp at m⟩
theorem RIn.old {g : Nat → List Nat} {ss ks wt w0 : List Nat} {n x i a : Nat} (h : RIn g ss n x i w0 ks wt) (ha : (g x)[i]? = some a) (hk : a ∈ ks) : RIn g ss n x (i + 1) w0 ks wt :=
  ⟨h.nd, h.wk, h.st, h.rc, h.lt, h.cl, h.xk, fun y m => by
    rw [take_snoc ha] at m
    rcases List.mem_append.mp m with q | q
    · exact h.up y q
    · rw [List.mem_singleton.mp q]
      exact hk⟩
theorem RIn.new {g : Nat → List Nat} {ss ks wt w0 : List Nat} {n x i a : Nat} (h : RIn g ss n x i w0 ks wt) (ha : (g x)[i]? = some a) (hk : ¬ a ∈ ks) (hn : a < n) : RIn g ss n x (i + 1) w0 (ks ++ [a]) (wt ++ [a]) :=
  ⟨nd_snoc h.nd hk, fun y m => by
    rcases List.mem_append.mp m with q | q
    · exact List.mem_append_left _ (h.wk y q)
    · exact List.mem_append_right _ q, fun y m => List.mem_append_left _ (h.st y m), fun y m => by
    rcases List.mem_append.mp m with q | q
    · exact h.rc y q
    · rw [List.mem_singleton.mp q]
      exact .step (h.rc x h.xk) (List.mem_of_getElem? ha), fun y m => by
    rcases List.mem_append.mp m with q | q
    · exact h.lt y q
    · rw [List.mem_singleton.mp q]
      exact hn, fun y m => by
    rcases List.mem_append.mp m with q | q
    · rcases h.cl y q with z | z | z
      · exact .inl (List.mem_append_left _ z)
      · exact .inr (.inl z)
      · exact .inr (.inr fun u hu => List.mem_append_left _ (z u hu))
    · exact .inl (List.mem_append_right _ q), List.mem_append_left _ h.xk, fun y m => by
    rw [take_snoc ha] at m
    rcases List.mem_append.mp m with q | q
    · exact List.mem_append_left _ (h.up y q)
    · exact List.mem_append_right _ q⟩
theorem RIn.out {g : Nat → List Nat} {ss ks wt w0 : List Nat} {n x i : Nat} (h : RIn g ss n x i w0 ks wt) (hi : (g x).length ≤ i) : RInv g ss n ks wt :=
  ⟨h.nd, h.wk, h.st, h.rc, h.lt, fun y m => by
    rcases h.cl y m with z | z | z
    · exact .inl z
    · refine .inr fun u hu => h.up u ?_
      rw [List.take_of_length_le hi, ← z]
      exact hu
    · exact .inr z⟩
/-- the keys that are reached, in some order -/
def RetR (g : Nat → List Nat) (s : Nat → Prop) (H : Hp) (Q : VK) : Prop := ∀ ks p H2, ks.Nodup → (∀ x, x ∈ ks ↔ Reach g s x) → H p = none → Ex H H2 → H2 p = some (.dK (kD ks)) → Q (.ref p) H2
section
variable {P : Program} {w : World} {K : PySem.W.Frag} {mg : Str → Option Value} {base : Heap}
theorem sc_reached_from : FnScope ["starts", "steps", "found", "waiting", "node", "start"] ["starts", "steps"] (defScope s_reached_from) := ⟨rfl, rfl, rfl, by decide +kernel, rfl, by decide +kernel, by decide +kernel⟩
def sp_reached_from (K : PySem.W.Frag) : Sp := fun vs H Q _ => ∃ (a st : Addr) (n : Nat) (D : Nat → Addr) (g : Nat → List Nat) (ss : List Nat), vs = [.ref a, .ref st] ∧ H st = some (.lst (vl n fun i => .ref (D i))) ∧ n ≤ 1000 ∧ ss.length ≤ 1000 ∧
  (∀ i, i < n → H (D i) = some (.dK (kD (g i)))) ∧ (∀ i, i < n → ∀ j ∈ g i, j < n) ∧ (∀ i ∈ ss, i < n) ∧ (SqL K H a (nVs ss) ∨ H a = some (.dK (kD ss))) ∧ RetR g (· ∈ ss) H Q
theorem ok_reached_from (T : TX K mg) : Glob P w K mg base 1 "reached_from" ["starts", "steps"] (sp_reached_from K) := by
  have SC := sc_reached_from
  refine glob_mk (F_reached_from T) (g_reached_from T) sc_reached_from (fun _ _ _ _ _ _ us hl => match us, hl with | [_, _], _ => rfl) (fun vs H Q E h => ?_) (fun cdv A outer s H vs Q E hr h => ?_)
  · obtain ⟨a, st, n, D, g, ss, rfl, _⟩ := h
    rfl
  · obtain ⟨a, st, n, D, g, ss, rfl, hst, hn, hss, hD, hg, hs, ha, k⟩ := h
    have hu := hu_of hr
    have first : ∃ ts, PS (cxOf CX0 P w K mg base ["starts", "steps", "found", "waiting", "node", "start"] "reached_from" (defScope s_reached_from) (He.fAd K ("reached_from", none)) cdv A outer s H E).nox (stAt s_reached_from 0) ts ∧ ∀ D : Ends, (∀ F H1, H F = none → Ex H H1 → H1 F = some (.dK (kD (addAll [] ss))) → D.nx [some (.ref a), some (.ref st), some (.ref F), none, none, none] H1) → ts D [some (.ref a), some (.ref st), none, none, none, none] H := by
      rcases ha with ha | ha
      · exact ⟨_, ps_setDc (i := 2) (own := [("start", 5)]) rfl SC.nd rfl rfl swD_true (pi_list (pv 0)) (blkOk_by (own := [("start", 5)]) (N := ["starts", "steps", "found", "waiting", "node", "start"]) (sc := defScope s_reached_from) (by decide +kernel)) (fun _ _ _ _ _ => (pg_name (i := 5) SC.nd rfl (Or.inl rfl))) (fun _ _ _ _ _ => pts_nil) (fun _ _ _ _ _ => (pv 5)) (fun _ _ _ _ _ => pe_bl),
          fun D kk => ek_dcL (σ := [some (.ref a), some (.ref st), none, none, none, none]) (j := 5) (ev_var rfl) ha (by omega) (fun _ => rfl) (show 5 < 6 by decide) H (Ex.refl H) (fun v H1 => D.nx [some (.ref a), some (.ref st), some v, none, none, none] H1) fun kvs F H1 ek nF e1 hF => kk F H1 nF e1 (by rw [hF, ek])⟩
      · exact ⟨_, ps_lock (ps_setDc (i := 2) (own := [("start", 5)]) rfl SC.nd rfl rfl swD_true (pi_keys (pv 0)) (blkOk_by (own := [("start", 5)]) (N := ["starts", "steps", "found", "waiting", "node", "start"]) (sc := defScope s_reached_from) (by decide +kernel)) (fun _ _ _ _ _ => (pg_name (i := 5) SC.nd rfl (Or.inl rfl))) (fun _ _ _ _ _ => pts_nil) (fun _ _ _ _ _ => (pv 5)) (fun _ _ _ _ _ => pe_bl)),
          fun D kk => ek_dcK (σ := [some (.ref a), some (.ref st), none, none, none, none]) (j := 5) (fun _ => ev_var rfl) ha (by omega) (fun _ => rfl) (show 5 < 6 by decide) H (Ex.refl H) (fun v H1 => D.nx [some (.ref a), some (.ref st), some v, none, none, none] H1) fun kvs F H1 ek nF e1 hF => kk F H1 nF e1 (by rw [hF, ek])⟩
    obtain ⟨ts, hps, hrd⟩ := first
    refine ⟨_, (pss_cons hps
    (pss_cons (ps_set (i := 3) SC.nd rfl (Or.inl rfl) (pe_callTy (call_list_dK rfl) rfl (b_list T) (by decide +kernel) (pa_cons (pv 2) pa_nil)))
    (pss_cons (ps_while PassesOwn.never (pt_cmpR (op_neD hr.units) (pv 3) (pe_lst pa_nil) (nomark _))
      (pss_one (ps_lock (ps_for PassesOwn.never rfl (pi_keys (kix (K := K) (pv 1) (pe_bm0 PySem.F.plainAttrs_list PySem.F.slot_list_pop PySem.F.type_list_pop mt_pop (pv 3)))) (pg_name (i := 4) SC.nd rfl (Or.inl rfl))
      (pss_one (ps_if (pt_cmp (pc_dnotin hu (pv 4) (pv 2)) rfl)
      (pss_cons (ps_dput hu (pv 2) (pv 4) pe_bl rfl)
    (pss_one (ps_expr (pe_bm PySem.F.plainAttrs_list PySem.F.slot_list_append PySem.F.type_list_append mt_append (pv 3) (pa_cons (pv 4) pa_nil)))))
      pss_nil))))))
    (pss_one (ps_ret (pv 2)))))), ?_⟩
    refine hrd _ fun F H1 nF e1 hF => ?_
    refine ⟨_, rfl, F, _, rfl, hF, fun Wt hW => ?_⟩
    rw [kD_keys]
    have nW : H Wt = none := fresh_back e1 hW
    have nFW : F ≠ Wt := ne_of_none hF hW
    -- the loop
    refine ⟨fun m σ H' => ∃ (ks wt : List Nat) (v : Option V), σ = [some (.ref a), some (.ref st), some (.ref F), some (.ref Wt), v, none] ∧ Ex H H' ∧ H' F = some (.dK (kD ks)) ∧ H' Wt = some (.lst (nVs wt)) ∧ wt.length ≤ n ∧ wt.Nodup ∧ RInv g ss n ks wt ∧ m = 2 * (n - ks.length) + wt.length,
      ⟨_, addAll [] ss, addAll [] ss, _, rfl, fun b o hb => ?_, ?_, upd_same, ?_, nd_addAll List.nodup_nil, ⟨nd_addAll List.nodup_nil, fun _ m => m, fun x m => mem_addAll.mpr (.inr m), fun x m => ?_, fun x m => ?_, fun x m => .inl m⟩, rfl⟩, ?_⟩
    · rw [upd_ne (ne_of_none hb nW)]
      exact e1 _ _ hb
    · rw [upd_ne nFW]
      exact hF
    · refine nd_len (nd_addAll List.nodup_nil) fun i m => ?_
      rcases mem_addAll.mp m with q | q
      · cases q
      · exact hs i q
    · rcases mem_addAll.mp m with q | q
      · cases q
      · exact .start q
    · rcases mem_addAll.mp m with q | q
      · cases q
      · exact hs x q
    rintro m σ H2 ⟨ks, wt, v, rfl, e2, hF2, hW2, hwl, hwn, I, rfl⟩
    refine et_test (ev_neNil (K := K) (ev_var rfl) (sq_of hW2) fun x hx => ?_) H2 (Ex.refl H2) _ fun H3 e3 => ?_
    · obtain ⟨i, _, rfl⟩ := List.mem_map.mp hx
      exact ⟨_, .int _⟩
    have hF3 := e3 _ _ hF2
    have hW3 := e3 _ _ hW2
    have e23 := e2.trans e3
    rcases List.eq_nil_or_concat wt with rfl | ⟨wt', x, rfl⟩
    · refine iteF ?_
      exact ⟨_, rfl, k ks F H3 I.nd (fun x => I.done x) nF e23 hF3⟩
    · rw [List.concat_eq_append] at *
      have eb : (!(nVs (wt' ++ [x])).isEmpty) = true := by
        rw [nVs_app]
        cases wt' <;> rfl
      rw [eb]
      refine iteT ?_
      have hxk : x ∈ ks := I.wk x (List.mem_append_right _ (List.mem_singleton.mpr rfl))
      have hxn : x < n := I.lt x hxk
      have hDx3 : H3 (D x) = some (.dK (kD (g x))) := e23 _ _ (hD x hxn)
      have nDF : D x ≠ F := ne_of_none (hD x hxn) nF
      have nDW : D x ≠ Wt := ne_of_none (hD x hxn) nW
      have hst3 := e23 _ _ hst
      have nstD : st ≠ D x := ne_of hst3 hDx3 (fun z => by cases z)
      have hwl' : wt'.length + 1 ≤ n := by
        rw [List.length_append] at hwl
        exact hwl
      -- behind the inner walk
      refine ⟨fun σ' H' => ∃ (ks2 wt2 : List Nat) (v : Option V), σ' = [some (.ref a), some (.ref st), some (.ref F), some (.ref Wt), v, none] ∧ Ex H H' ∧ H' F = some (.dK (kD ks2)) ∧ H' Wt = some (.lst (nVs wt2)) ∧ wt2.length ≤ n ∧ wt2.Nodup ∧ RInv g ss n ks2 wt2 ∧ 2 * (n - ks2.length) + wt2.length < 2 * (n - ks.length) + (wt' ++ [x]).length,
        fun σ' H' q => ?_, ?_⟩
      · obtain ⟨ks2, wt2, v, rfl, q1, q2, q3, q4, q5, q6, q7⟩ := q
        exact ⟨_, q7, ks2, wt2, v, rfl, q1, q2, q3, q4, q5, q6, rfl⟩
      refine ⟨D x, _, hDx3, trivial, fun od => ?_⟩
      have hWf : upd H3 (D x) (.frz od (.dK (kD (g x)))) Wt = some (.lst (nVs (wt' ++ [x]))) := by
        rw [upd_ne nDW.symm]
        exact hW3
      refine ⟨_, rfl, _, rfl, .inl ⟨rfl, _, sq_of hWf⟩, Wt, _, nV x, rfl, rfl, hWf, ?_, st, _, _, .ref (D x), rfl, rfl, sq_of (xs := vl n fun i => .ref (D i)) ?_, atI_nat (vl_get hxn), D x, od, rfl, .inl ⟨kD (g x), ?_, ?_⟩⟩
      · rw [nVs_app, List.length_append]
        show (nVs wt' ++ [nV x])[(nVs wt').length + 1 - 1]? = some (nV x)
        rw [Nat.add_sub_cancel, List.getElem?_append_right (Nat.le_refl _), Nat.sub_self]
        rfl
      · rw [upd_ne (ne_of hst3 hW3 (fun z => by
          injection z with z
          have z2 := congrArg (fun l => l[0]?) z
          cases n with
          | zero => omega
          | succ n =>
            have z3 : some (V.ref (D 0)) = (nVs (wt' ++ [x]))[0]? := by
              rw [← vl_get (n := n + 1) (f := fun i => V.ref (D i)) (Nat.succ_pos n)]
              exact z2
            rw [List.getElem?_map] at z3
            cases e0 : (wt' ++ [x])[0]? with
            | none =>
              rw [e0] at z3
              cases z3
            | some y =>
              rw [e0] at z3
              cases z3)), upd_ne nstD]
        exact hst3
      · rw [upd_ne nDW, upd_same]
      -- for node in ..
      have hdl : (nVs (wt' ++ [x])).dropLast = nVs wt' := by
        rw [nVs_app]
        exact List.dropLast_concat
      rw [hdl]
      refine for_it (walk_keys (d := D x) (o := od) (kvs := kD (g x))) (fun i σ' H' => ∃ (ks2 wt2 : List Nat) (v : Option V), σ' = [some (.ref a), some (.ref st), some (.ref F), some (.ref Wt), v, none] ∧ H' (D x) = some (.frz od (.dK (kD (g x)))) ∧ (∀ b o, b ≠ D x → H b = some o → H' b = some o) ∧
        H' F = some (.dK (kD ks2)) ∧ H' Wt = some (.lst (nVs wt2)) ∧ wt2.Nodup ∧ RIn g ss n x i wt' ks2 wt2 ∧ ks2.length + wt'.length = ks.length + wt2.length ∧ ks.length ≤ ks2.length) ?_ ?_ ?_ ?_
      · refine ⟨ks, wt', _, rfl, ?_, fun b o hb1 hb => ?_, ?_, upd_same, ?_, I.pop, rfl, Nat.le_refl _⟩
        · rw [upd_ne nDW, upd_same]
        · rw [upd_ne (ne_of_none hb nW), upd_ne hb1]
          exact e23 _ _ hb
        · rw [upd_ne nFW, upd_ne nDF.symm]
          exact hF3
        · exact (List.nodup_append.mp hwn).1
      · rintro i σ' H' _ ⟨ks2, wt2, v, rfl, q, _⟩
        exact q
      · rintro i y σ' H' H'' hi ⟨ks2, wt2, v, rfl, q1, q2, q3, q4, q5, q6, q7, q8⟩ ⟨rfl, kk, vv, hk, rfl⟩
        obtain ⟨j, hj, rfl⟩ := kD_at hk
        have hjn : j < n := hg x hxn j (List.mem_of_getElem? hj)
        refine ⟨_, rfl, _, rfl, F, _, rfl, DGet.k (k := Sum.inl (j : Int)) q3, _, rfl, ?_⟩
        rw [kD_some]
        by_cases hm : j ∈ ks2
        · rw [decide_eq_true hm]
          refine iteF ?_
          exact ⟨ks2, wt2, _, rfl, q1, q2, q3, q4, q5, q6.old hj hm, q7, q8⟩
        · rw [decide_eq_false hm]
          refine iteT ?_
          have hjw : ¬ j ∈ wt2 := fun z => hm (q6.wk j z)
          have hkl : ks2.length ≤ n := nd_len q6.nd q6.lt
          have hwl2 : wt2.length ≤ n := nd_len q5 fun y m => q6.lt y (q6.wk y m)
          have q4' : upd H'' F (.dK (putK (kD ks2) (Sum.inl (j : Int)) (.bl true))) Wt = some (.lst (nVs wt2)) := by
            rw [upd_ne nFW.symm]
            exact q4
          refine ⟨_, rfl, _, rfl, F, _, rfl, DPut.k (k := Sum.inl (j : Int)) q3 (sz_lt (by rw [kD_len]; omega)), ?_⟩
          refine ⟨_, rfl, .inl ⟨rfl, _, sq_of q4'⟩, _, rfl, Wt, _, _, rfl, rfl, q4', sz_lt (by rw [List.length_map]; omega), ?_⟩
          refine ⟨ks2 ++ [j], wt2 ++ [j], _, rfl, ?_, fun b o hb1 hb => ?_, ?_, ?_, nd_snoc q5 hjw, q6.new hj hm hjn, ?_, ?_⟩
          · rw [upd_ne nDW, upd_ne nDF]
            exact q1
          · rw [upd_ne (ne_of_none hb nW), upd_ne (ne_of_none hb nF)]
            exact q2 b o hb1 hb
          · rw [upd_ne nFW, upd_same, kD_put]
            unfold addK
            rw [if_neg hm]
          · rw [upd_same, nVs_app]
            rfl
          · rw [List.length_append, List.length_append, List.length_singleton]
            omega
          · rw [List.length_append]
            omega
      · rintro σ' H' ⟨ks2, wt2, v, rfl, q1, q2, q3, q4, q5, q6, q7, q8⟩
        have I2 := q6.out (by rw [kD_len]; exact Nat.le_refl _)
        have hkl : ks2.length ≤ n := nd_len q6.nd q6.lt
        have hkl0 : ks.length ≤ n := nd_len I.nd I.lt
        have hwl2 : wt2.length ≤ n := nd_len q5 fun y m => q6.lt y (q6.wk y m)
        refine ⟨q1, ks2, wt2, _, rfl, fun b o hb => ?_, ?_, ?_, hwl2, q5, I2, ?_⟩
        · by_cases hbd : b = D x
          · rw [hbd, upd_same]
            rw [hbd, hD x hxn] at hb
            exact hb
          · rw [upd_ne hbd]
            exact q2 b o hbd hb
        · rw [upd_ne nDF.symm]
          exact q3
        · rw [upd_ne nDW.symm]
          exact q4
        · rw [List.length_append, List.length_singleton]
          omega
end
end HD
set_option Elab.async false
set_option linter.all false
set_option maxRecDepth 100000
set_option maxHeartbeats 4000000
/-! min(xs, default=None) of a list of ints. The loop's proof follows the library's for min(xs); the keyword is carried along. -/
namespace HD
open PySem
abbrev dkw : List (Str × Value) := [("default", .none)]
theorem min_def_args (a : Value) : argsOk "min" ⟨[a], dkw⟩ := by unfold argsOk; kernel_rfl
section
variable {prog : Program} {w : World} {A : Around} {R : Result → Shared → Prop} {I : Addr} {fp wr : List Addr} {n : Nat} {P : Nat → Value → Prop} {St : Nat → Heap → Prop}
theorem nm_loop : (toString "min" ++ toString ".loop" : String) = "min.loop" := by decide
theorem min_def_loop (W : Walks prog w A.in1 I fp wr n P St) (bt : Nat → Nat → Bool) (hcmp : CmpOf prog w A.in1 .Lt P bt) (S : Addr) (hSf : S ∉ fp) :
    ∀ (k j : Nat) (s : Shared) (vb : Value) (c : Nat), n - (j + 1) = k → j + 1 ≤ n → St (j + 1) s.heap → P (argBest bt j) vb → s.heap.get? S = some { cls := .type "list", dict := none, data := .seq #[vb, vb] c, slots := #[] } →
    (∀ v h' tk, P (argBest bt (n - 1)) v → (∀ b o, b ∉ wr → b ≠ S → s.heap.get? b = some o → h'.get? b = some o) → R (.ok (.ret v)) { s with heap := h', toks := tk }) → codeAny (model prog w) A (.builtin "min.loop" ⟨[.ref I, .none, .ref S], dkw⟩) R s := by
  have hSw : S ∉ wr := fun h => hSf (W.sub _ h)
  intro k
  induction k with
  | zero =>
    intro j s vb c hk hj hst hPb hS hR
    have hin : j + 1 = n := by omega
    refine codeAny_builtin F.entry_min_loop ?_
    rw [Around.under_plainId F.plain_min_loop ⟨[.ref I, .none, .ref S], dkw⟩]
    show wpAny (model prog w) A.in1 (seqItems? (.ref S) >>= _) _ _ s
    refine wpAny_bind (wpAny_seqItems hS rfl ?_)
    show wpAny (model prog w) A.in1 (tryCatch (pyNext (.ref I)) _ >>= _) _ _ s
    refine wpAny_bind (wpAny_tryCatch (W.done s _ _ (hin ▸ hst) fun h' tk hk' => ?_))
    have hS' := hk' S _ hSw hS
    show wpAny (model prog w) A.in1 (updateSeq S (fun _ => #[]) >>= _) _ _ _
    refine wpAny_bind (wpAny_updateSeq hS' rfl (wpAny_bind (wpAny_letGo (wpAny_pure ?_))))
    exact hR vb _ tk (by rw [← hin]; exact hPb) fun b o hbw hbS e => (Heap.get?_update_other _ _ (Ne.symm hbS)).trans (hk' b o hbw e)
  | succ k ih =>
    intro j s vb c hk hj hst hPb hS hR
    have hlt : j + 1 < n := by omega
    refine codeAny_builtin F.entry_min_loop ?_
    rw [Around.under_plainId F.plain_min_loop ⟨[.ref I, .none, .ref S], dkw⟩]
    show wpAny (model prog w) A.in1 (seqItems? (.ref S) >>= _) _ _ s
    refine wpAny_bind (wpAny_seqItems hS rfl ?_)
    show wpAny (model prog w) A.in1 (tryCatch (pyNext (.ref I)) _ >>= _) _ _ s
    refine wpAny_bind (wpAny_tryCatch (W.item (j + 1) s _ _ hlt hst fun v h' tk hP hst' hk' => ?_))
    have hS' := hk' S _ hSw hS
    show wpAny (model prog w) A.in1 (tryCatch (holding [v, v] (richCompare .Lt v vb >>= _)) _ >>= _) _ _ _
    refine wpAny_bind (wpAny_tryCatch (wpAny_holding (wpAny_bind (hcmp (j + 1) (argBest bt j) v vb _ _ _ hP hPb (wpAny_bind (wpAny_holding (wpAny_truthy_bool (wpAny_bind (wpAny_letGo (wpAny_pure ?_))))))))))
    cases hb : bt (j + 1) (argBest bt j) with
    | true =>
      simp only [if_true]
      refine wpAny_bind (wpAny_updateSeq hS' rfl (wpAny_bind (wpAny_letGo ?_)))
      rw [nm_loop]
      refine wpAny_pure ⟨plainId_quiet F.plain_min_loop _, ih (j + 1) _ v _ (by omega) hlt (W.frame _ _ _ hst' fun b hbf o e => (Heap.get?_update_other _ _ (fun h : S = b => hSf (by rw [h]; exact hbf))).trans e) (by simp only [argBest, hb, if_true]; exact hP) (Heap.get?_update_self _ hS' rfl) fun v' h'' tk'' hP' hk'' => ?_⟩
      exact hR v' h'' tk'' hP' fun b o hbw hbS e => hk'' b o hbw hbS ((Heap.get?_update_other _ _ (Ne.symm hbS)).trans (hk' b o hbw e))
    | false =>
      simp only [Bool.false_eq_true, if_false]
      refine wpAny_bind (wpAny_letGo ?_)
      rw [nm_loop]
      exact wpAny_pure ⟨plainId_quiet F.plain_min_loop _, ih (j + 1) _ vb c (by omega) hlt hst' (by simp only [argBest, hb, Bool.false_eq_true, if_false]; exact hPb) hS' fun v' h'' tk'' hP' hk'' => hR v' h'' tk'' hP' fun b o hbw hbS e => hk'' b o hbw hbS (hk' b o hbw e)⟩
theorem min_def_first (W : Walks prog w A.in1 I fp wr n P St) (bt : Nat → Nat → Bool) (hcmp : CmpOf prog w A.in1 .Lt P bt) (S : Addr) (hSf : S ∉ fp) {s : Shared} {c : Nat} (hst : St 0 s.heap) (hS : s.heap.get? S = some { cls := .type "list", dict := none, data := .seq #[] c, slots := #[] })
    (hR : 0 < n → ∀ v h' tk, P (argBest bt (n - 1)) v → (∀ b o, b ∉ wr → b ≠ S → s.heap.get? b = some o → h'.get? b = some o) → R (.ok (.ret v)) { s with heap := h', toks := tk })
    (hN : n = 0 → ∀ h' tk, (∀ b o, b ∉ wr → b ≠ S → s.heap.get? b = some o → h'.get? b = some o) → R (.ok (.ret .none)) { s with heap := h', toks := tk }) : codeAny (model prog w) A (.builtin "min.loop" ⟨[.ref I, .none, .ref S], dkw⟩) R s := by
  have hSw : S ∉ wr := fun h => hSf (W.sub _ h)
  refine codeAny_builtin F.entry_min_loop ?_
  rw [Around.under_plainId F.plain_min_loop ⟨[.ref I, .none, .ref S], dkw⟩]
  show wpAny (model prog w) A.in1 (seqItems? (.ref S) >>= _) _ _ s
  refine wpAny_bind (wpAny_seqItems hS rfl ?_)
  show wpAny (model prog w) A.in1 (tryCatch (pyNext (.ref I)) _ >>= _) _ _ s
  rcases Nat.eq_zero_or_pos n with h0 | hn
  · refine wpAny_bind (wpAny_tryCatch (W.done s _ _ (h0 ▸ hst) fun h' tk hk' => ?_))
    refine wpAny_bind (wpAny_rule ?_)
    exact wpAny_pure (hN h0 h' tk fun b o hbw _ e => hk' b o hbw e)
  · refine wpAny_bind (wpAny_tryCatch (W.item 0 s _ _ hn hst fun v h' tk hP hst' hk' => ?_))
    have hS' := hk' S _ hSw hS
    show wpAny (model prog w) A.in1 (updateSeq S (fun _ => #[v, v]) >>= _) _ _ _
    refine wpAny_bind (wpAny_updateSeq hS' rfl ?_)
    rw [nm_loop]
    refine wpAny_pure ⟨plainId_quiet F.plain_min_loop _, min_def_loop W bt hcmp S hSf _ 0 _ v _ rfl hn (W.frame _ _ _ hst' fun b hbf o e => (Heap.get?_update_other _ _ (fun h : S = b => hSf (by rw [h]; exact hbf))).trans e) hP (Heap.get?_update_self _ hS' rfl) fun v' h'' tk'' hP' hk'' => ?_⟩
    exact hR hn v' h'' tk'' hP' fun b o hbw hbS e => hk'' b o hbw hbS ((Heap.get?_update_other _ _ (Ne.symm hbS)).trans (hk' b o hbw e))
end
section
variable {prog : Program} {w : World} {A : Around} {E : Value → Shared → Prop} {s : Shared} {l : Addr} {xs : Array (Int × Tok)}
theorem min_def_list {Q : Value → Shared → Prop} (hh : A.handled = none) (hl : s.heap.IsList l (intItems xs))
    (h : 0 < xs.size → ∀ v h' tk, (intItems xs)[argBest (fun i j => decide (numAt xs i < numAt xs j)) (xs.size - 1)]? = some v → (∀ b o, s.heap.get? b = some o → h'.get? b = some o) → Q v { s with heap := h', toks := tk })
    (h0 : xs.size = 0 → ∀ h' tk, (∀ b o, s.heap.get? b = some o → h'.get? b = some o) → Q .none { s with heap := h', toks := tk }) : wpAny (model prog w) A (call (.builtin "min") [.ref l] dkw) Q E s := by
  refine PyProof.Rows.kmk_tree F.kind_min F.plain_min F.entry_min (min_def_args _) ?_
  show wpAny (model prog w) A.in1 (Builtin.Builtins.bindParams "min" ["key", "default"] 0 ⟨[], dkw⟩ >>= _) _ _ s
  refine wpAny_bind (wpAny_of_eq (show Builtin.Builtins.bindParams "min" ["key", "default"] 0 ⟨[], dkw⟩ = pure [none, some .none] from rfl) ?_)
  refine wpAny_bind (wpAny_pure (wpAny_bind (iter_intList hl fun s₂ e st hfp hlI => ?_)))
  subst e
  refine wpAny_bind (wpAny_newObj_type ?_)
  have W := Walks.list (prog := prog) (w := w) (A := A.in1) hh s.heap.objs.size l hlI (intItems xs)
  generalize hg : s.heap.push { cls := .type "list_iterator", data := .fields #[.ref l, .int 0 0] } = g at st hfp ⊢
  have hSf : g.objs.size ∉ [s.heap.objs.size, l] := fun hm => Nat.lt_irrefl _ (hfp _ hm)
  have old : ∀ b o, s.heap.get? b = some o → b ≠ s.heap.objs.size ∧ g.get? b = some o := fun b o e => ⟨Nat.ne_of_lt (Heap.lt_size e), by rw [← hg]; exact Heap.get?_push_of_some _ e⟩
  rw [nm_loop]
  refine wpAny_pure ⟨plainId_quiet F.plain_min_loop _, min_def_first W (fun i j => decide (numAt xs i < numAt xs j)) (CmpOf.ints_lt (numAt xs) (fun _ _ => intItems_at)) g.objs.size hSf (W.frame _ _ _ st fun b _ o e => Heap.get?_push_of_some _ e) (Heap.get?_push_size _ rfl) (fun hn v h' tk hP hk => ?_) (fun hn h' tk hk => ?_)⟩
  · refine h (by simpa [intItems] using hn) v h' tk (by simpa [intItems] using hP) fun b o e => ?_
    obtain ⟨n1, e1⟩ := old b o e
    exact hk b o (fun m => n1 (List.mem_singleton.mp m)) (Nat.ne_of_lt (Heap.lt_size e1)) (Heap.get?_push_of_some _ e1)
  · refine h0 (by simpa [intItems] using hn) h' tk fun b o e => ?_
    obtain ⟨n1, e1⟩ := old b o e
    exact hk b o (fun m => n1 (List.mem_singleton.mp m)) (Nat.ne_of_lt (Heap.lt_size e1)) (Heap.get?_push_of_some _ e1)
end
open PySem.Spec PyProof.Rows L2 Evl
/-- min(xs, default=None): the least, or None of none -/
def rMinD (K : PySem.W.Frag) : List V → List V → Hp → VK → Prop := fun vs zs H Q => ∃ (a : Addr) (ns : List Int), vs = [V.ref a] ∧ zs = [.non] ∧ SqL K H a (ns.map V.int) ∧ (ns = [] → Q .non H) ∧ (∀ m, m ∈ ns → (∀ y ∈ ns, m ≤ y) → Q (.int m) H)
theorem cr_minD {X : Cx} (hc : X.calm = true) : CallRK X (.builtin "min") ["default"] (rMinD X.K) := by
  intro pins s σ H vs zs us ws Q I r rz h
  obtain ⟨a, ns, rfl, rfl, hs, q0, q⟩ := h
  obtain ⟨its, rv, hl, _⟩ := I.list hs
  obtain ⟨u, eu, ru⟩ := vals1 r
  obtain ⟨z, ez, rz2⟩ := vals1 rz
  obtain rfl : u = Value.ref a := ru
  obtain rfl : z = Value.none := rz2
  subst eu ez
  have hi : IntsAre its ns := rv.ints
  obtain ⟨xs, e⟩ := hi.allInts.items
  have hn : numsOf (intItems xs).toList = ns := by rw [← e]; exact hi.numsOf
  rw [nums_intItems] at hn
  subst hn
  have hl2 := hl.isList
  rw [e] at hl2
  show wpAny _ X.A (call (.builtin "min") [.ref a] dkw) _ X.xe s
  refine min_def_list (I.ok.hd hc) hl2 (fun hsz v h' tk hv hk => ?_) fun hsz h' tk hk => ⟨.non, H, I.kept hk, rfl, q0 (by
    have : xs.toList = [] := by
      have := Array.length_toList (xs := xs)
      exact List.eq_nil_of_length_eq_zero (by omega)
    rw [this]
    rfl)⟩
  obtain ⟨t, rfl⟩ := intItems_at hv
  obtain ⟨h1, h2⟩ := argBest_lt (numAt xs) (xs.size - 1)
  refine ⟨.int _, H, I.kept hk, ⟨t, rfl⟩, q _ ?_ fun b hb => ?_⟩
  · rw [numAt_eq]
    exact PySem.getD_mem (by rw [List.length_map, Array.length_toList]; omega)
  · obtain ⟨j, hj, rfl⟩ := mem_getD hb
    rw [List.length_map, Array.length_toList] at hj
    rw [← numAt_eq]
    exact h2 j (by omega)
end HD
set_option Elab.async false
set_option linter.all false
set_option maxRecDepth 100000
set_option maxHeartbeats 4000000
/-! The methods of a heap that only read (second part): holders, first_found, due, references. -/
namespace HD
open PySem PySem.Spec PyProof.Rows L2 Evl
section
variable {P : Program} {w : World} {K : PySem.W.Frag} {mg : Str → Option Value} {base : Heap}
theorem sc_H_holders : FnScope ["self", "item"] ["self", "item"] (defScope s_H_holders) := ⟨rfl, rfl, rfl, by decide +kernel, rfl, by decide +kernel, by decide +kernel⟩
def sp_H_holders (K : PySem.W.Frag) : Sp := fun vs H Q _ => ∃ A S i, vs = [.ref (A.at_ .inst), nV i] ∧ HeapAt K H A S ∧ i < S.n ∧ RetR S.sr (· = i) H Q
theorem mem_one {i : Nat} (x : Nat) : x ∈ [i] ↔ x = i := List.mem_singleton
/-- what reached_from asks of a heap's references, both ways -/
theorem HeapAt.steps_tg {H : Hp} {A : Rep} {S : HS} (h : HeapAt K H A S) : H (A.at_ .targets) = some (.lst (vl S.n fun i => .ref (A.at_ (.tg i)))) ∧ (∀ i, i < S.n → H (A.at_ (.tg i)) = some (.dK (kD (S.tg i)))) ∧ ∀ i, i < S.n → ∀ j ∈ S.tg i, j < S.n :=
  ⟨h.ob .targets trivial, fun i hi => h.ob (.tg i) hi, fun i hi j hj => h.wf.tgl i j hi hj⟩
theorem HeapAt.steps_sr {H : Hp} {A : Rep} {S : HS} (h : HeapAt K H A S) : H (A.at_ .sources) = some (.lst (vl S.n fun i => .ref (A.at_ (.sr i)))) ∧ (∀ i, i < S.n → H (A.at_ (.sr i)) = some (.dK (kD (S.sr i)))) ∧ ∀ i, i < S.n → ∀ j ∈ S.sr i, j < S.n :=
  ⟨h.ob .sources trivial, fun i hi => h.ob (.sr i) hi, fun i hi j hj => h.wf.srl i j hi hj⟩
theorem ok_H_holders (T : TX K mg) : MethOk P w K mg base (CH K) 2 "holders" ["self", "item"] (sp_H_holders K) := by
  have SC := sc_H_holders
  refine meth_mk (F_H_holders T) (m_H_holders T) sc_H_holders (fun _ _ _ _ _ _ us hl => match us, hl with | [_, _], _ => rfl) (fun vs H Q E h => ?_) (fun cdv A outer s H vs Q E hr h => ?_)
  · obtain ⟨A, S, i, rfl, _⟩ := h
    rfl
  · obtain ⟨A, S, i, rfl, h, hi, k⟩ := h
    refine ⟨_, (pss_one (ps_ret (pg_call (ok_reached_from T) hr (by decide) rfl (pa_cons (pe_lst (pa_cons (pv 1) pa_nil)) (pa_cons (kfld (K := K) (pv 0)) pa_nil))))), ?_⟩
    have n60 := h.wf.n60
    refine ⟨_, rfl, (by show 1 ≤ sizeLine; decide), fun l hl => ?_⟩
    have e1 : Ex H (upd H l (.lst [nV i])) := Ex.new hl
    have g := h.ex e1
    obtain ⟨g1, g2, g3⟩ := g.steps_sr
    refine evf_sources T g (σ := start ["self", "item"] [.ref (A.at_ .inst), nV i]) (ev_var (i := 0) rfl) _ (Ex.refl _) _ fun H2 e2 => ?_
    refine ⟨l, _, S.n, fun i => A.at_ (.sr i), S.sr, [i], rfl, e2 _ _ g1, by omega, by show 1 ≤ 1000; decide, fun i hi => e2 _ _ (g2 i hi), g3, fun j hj => ?_, .inl (sq_of (e2 _ _ upd_same)), fun ks p H3 nd hm np e3 hp => ?_⟩
    · rw [(mem_one j).mp hj]
      exact hi
    · exact k ks p H3 nd (fun x => (hm x).trans (Reach.congr mem_one)) (fresh_back (e1.trans e2) np) ((e1.trans e2).trans e3) hp
/-- self.holders(i): a new dict -/
theorem ek_holders (T : TX K mg) {H : Hp} {A : Rep} {S : HS} {σ : L2.St} {ta tb : TE} {E : XK} (h : HeapAt K H A S) (e : Ev ta σ H (.ref (A.at_ .inst))) {i : Nat} (hi : i < S.n) (e2 : Ev tb σ H (nV i)) :
    EvKP (tMeth (CH K) "holders" (sp_H_holders K) [] E ta (tCons tb tNil)) σ H (fun kvs => ∃ ks, kvs = kD ks ∧ ks.Nodup ∧ ∀ x, x ∈ ks ↔ Reach S.sr (· = i) x) := fun H1 e1 Q q =>
  e H1 e1 _ fun H2 e12 => ⟨_, A.dx, _, rfl, e12 _ _ (e1 _ _ (h.ob .inst trivial)), hm_holders A S.time, e2 H2 (e1.trans e12) _ fun H3 e23 =>
    ⟨A, S, i, rfl, h.ex ((e1.trans e12).trans e23), hi, fun ks p H4 nd hm np e34 hp => q _ p H4 ⟨ks, rfl, nd, hm⟩ (fresh_back (e12.trans e23) np) ((e12.trans e23).trans e34) hp⟩⟩
theorem HS.Good.rank {S : HS} (g : S.Good) (w : S.Wf) {i : Nat} (hi : i < S.n) (hd : S.death i ≠ none) (hf : S.freed i = false) : ∃ r, S.rank i = some r ∧ r < S.ps.length ∧ S.fat i = nxt S.ps S.time r := by
  obtain ⟨r, h1, h2⟩ := g.rk i hi hd hf
  have := lastOf_lt w.p
  refine ⟨r, h1, by omega, ?_⟩
  unfold HS.fat
  rw [h1]
  rfl
/-- self.found_at(i) of a dead object -/
theorem ev_fat (T : TX K mg) {H : Hp} {A : Rep} {S : HS} {σ : L2.St} {ta tb : TE} {E : XK} (h : HeapAt K H A S) (g : S.Good) (e : Ev ta σ H (.ref (A.at_ .inst))) {i : Nat} (hi : i < S.n) (hd : S.death i ≠ none) (hf : S.freed i = false) (e2 : Ev tb σ H (nV i)) :
    Ev (tMeth (CH K) "found_at" (sp_H_found_at K) [] E ta (tCons tb tNil)) σ H (nV (S.fat i)) := by
  obtain ⟨r, h1, h2, h3⟩ := g.rank h.wf hi hd hf
  rw [h3]
  exact ev_found_at T h e hi h1 h2 e2
theorem mem_dead {S : HS} {i : Nat} : i ∈ S.dead ↔ i < S.n ∧ S.death i ≠ none ∧ S.freed i = false := by
  unfold HS.dead
  rw [mem_sel, Bool.and_eq_true, Option.isSome_iff_ne_none]
  cases S.freed i <;> simp
theorem el_dead (T : TX K mg) {H : Hp} {A : Rep} {S : HS} {σ : L2.St} {ta : TE} {E : XK} (h : HeapAt K H A S) (e : Ev ta σ H (.ref (A.at_ .inst))) : EvL (tMeth (CH K) "dead" (sp_H_dead K) [] E ta tNil) σ H (nVs S.dead) :=
  el_meth e (h.ob .inst trivial) (hm_dead A S.time) ea_nil fun H1 e3 Q q E => ⟨A, S, rfl, h.ex e3, fun p H2 np e4 hp => q p H2 np e4 hp⟩
theorem el_live (T : TX K mg) {H : Hp} {A : Rep} {S : HS} {σ : L2.St} {ta : TE} {E : XK} (h : HeapAt K H A S) (e : Ev ta σ H (.ref (A.at_ .inst))) : EvL (tMeth (CH K) "live" (sp_H_live K) [] E ta tNil) σ H (nVs S.live) :=
  el_meth e (h.ob .inst trivial) (hm_live A S.time) ea_nil fun H1 e3 Q q E => ⟨A, S, rfl, h.ex e3, fun p H2 np e4 hp => q p H2 np e4 hp⟩
theorem sc_H_first_found : FnScope ["self", "item"] ["self"] (defScope s_H_first_found) := ⟨rfl, rfl, rfl, by decide +kernel, rfl, by decide +kernel, by decide +kernel⟩
/-- the least of the next collections that find a dead object -/
def RetFF (S : HS) (H : Hp) (Q : VK) : Prop := (S.dead = [] → RetV .non H Q) ∧ ∀ i, i ∈ S.dead → (∀ j ∈ S.dead, S.fat i ≤ S.fat j) → RetV (nV (S.fat i)) H Q
def sp_H_first_found (K : PySem.W.Frag) : Sp := fun vs H Q _ => ∃ A S, vs = [.ref (A.at_ .inst)] ∧ HeapAt K H A S ∧ S.Good ∧ RetFF S H Q
theorem map_at (l : List Nat) (f : Nat → Nat) : given l.length (fun _ => true) (fun i => nV (f (l.getD i 0))) = nVs (l.map f) := by
  have e := filter_at l (fun _ => true)
  have e1 : l.filter (fun _ => true) = l := List.filter_eq_self.mpr fun _ _ => rfl
  rw [e1] at e
  unfold given at e ⊢
  have e2 : (List.range l.length).filter (fun _ => true) = List.range l.length := List.filter_eq_self.mpr fun _ _ => rfl
  rw [e2] at e ⊢
  unfold nVs
  rw [List.map_map]
  have e3 : (List.range l.length).map (fun i => l.getD i 0) = l := by
    have q := congrArg (List.map fun v => match v with | V.int i => i.toNat | _ => 0) e
    unfold nVs at q
    rw [List.map_map, List.map_map] at q
    have q2 : l.map ((fun v => match v with | V.int i => i.toNat | _ => 0) ∘ fun i => nV i) = l := by
      refine (List.map_congr_left (g := id) fun a _ => ?_).trans (List.map_id l)
      show ((a : Int)).toNat = a
      exact Int.toNat_natCast a
    rw [q2] at q
    refine Eq.trans (List.map_congr_left fun a _ => ?_) q
    show l.getD a 0 = ((l.getD a 0 : Nat) : Int).toNat
    rw [Int.toNat_natCast]
  conv => rhs; rw [← e3]
  rw [List.map_map]
  rfl
theorem ok_H_first_found (T : TX K mg) : MethOk P w K mg base (CH K) 3 "first_found" ["self"] (sp_H_first_found K) := by
  have SC := sc_H_first_found
  refine meth_mk (F_H_first_found T) (m_H_first_found T) sc_H_first_found (fun _ _ _ _ _ _ us hl => match us, hl with | [_], _ => rfl) (fun vs H Q E h => ?_) (fun cdv A outer s H vs Q E hr h => ?_)
  · obtain ⟨A, S, rfl, _⟩ := h
    rfl
  · obtain ⟨A, S, rfl, h, g, k0, k⟩ := h
    refine ⟨_, (pss_one (ps_ret (pe_callBK (cr_minD rfl) rfl (b_min T) (by decide +kernel) (pa_cons (pe_lc (own := [("item", 1)]) rfl SC.nd (pi_list (pm_call0 (ok_H_dead T) (cls_H T) hr (by decide) (pv 0))) (blkOk_by (own := [("item", 1)]) (N := ["self", "item"]) (sc := defScope s_H_first_found) (by decide +kernel)) (fun _ _ _ _ _ => (pg_name (i := 1) SC.nd rfl (Or.inl rfl))) (fun _ _ _ _ _ => pts_nil) (fun _ _ _ _ _ => (pm_call (ok_H_found_at T) (cls_H T) hr (by decide) (pv 0) (pa_cons (pv 1) pa_nil)))) pa_nil) (pk_cons pe_non pk_nil)))), ?_⟩
    have n60 := h.wf.n60
    have hlen : S.dead.length ≤ S.n := len_sel _ _
    refine u_ret (u_ckwL (el_lcNL (fun _ => true) (fun i => nV (S.fat (S.dead.getD i 0))) (el_dead T h (ev_var rfl)) (by rw [nVs_len]; omega) (fun _ => rfl) (fun i x H1 e hx => ?_) (fun i x H1 e hx _ => ?_)) fun p H1 np e1 hp => ?_)
    · exact fun H2 _ Q q => q H2 (Ex.refl _)
    · obtain ⟨hj, rfl⟩ := nVs_at hx
      obtain ⟨h1, h2, h3⟩ := mem_dead.mp hj
      exact ev_fat T (h.ex e) g (ev_var rfl) h1 h2 h3 (ev_var rfl)
    · rw [nVs_len, map_at] at hp
      refine ⟨p, (S.dead.map S.fat).map fun (i : Nat) => (i : Int), rfl, rfl, sq_of (by rw [hp, List.map_map]; rfl), fun e => ?_, fun m hm hle => ?_⟩
      · refine k0 ?_ H1 e1
        cases q : S.dead with
        | nil => rfl
        | cons a r =>
          rw [q] at e
          cases e
      · obtain ⟨y, hy, rfl⟩ := List.mem_map.mp hm
        obtain ⟨i, hi, rfl⟩ := List.mem_map.mp hy
        refine k i hi (fun j hj => ?_) H1 e1
        have := hle ((S.fat j : Nat) : Int) (List.mem_map.mpr ⟨_, List.mem_map.mpr ⟨j, hj, rfl⟩, rfl⟩)
        omega
theorem sc_H_due : FnScope ["self", "item", "found", "level", "one"] ["self", "item"] (defScope s_H_due) := ⟨rfl, rfl, rfl, by decide +kernel, rfl, by decide +kernel, by decide +kernel⟩
def sp_H_due (K : PySem.W.Frag) : Sp := fun vs H Q _ => ∃ A S i, vs = [.ref (A.at_ .inst), nV i] ∧ HeapAt K H A S ∧ S.Good ∧ i < S.n ∧ S.freed i = false ∧ S.fat i < 2 ^ 700 ∧ RetV (oV (S.due i)) H Q
theorem ok_H_due (T : TX K mg) : MethOk P w K mg base (CH K) 5 "due" ["self", "item"] (sp_H_due K) := by
  have SC := sc_H_due
  refine meth_mk (F_H_due T) (m_H_due T) sc_H_due (fun _ _ _ _ _ _ us hl => match us, hl with | [_, _], _ => rfl) (fun vs H Q E h => ?_) (fun cdv A outer s H vs Q E hr h => ?_)
  · obtain ⟨A, S, i, rfl, _⟩ := h
    rfl
  · obtain ⟨A, S, i, rfl, h, g, hi, hf, hb, k⟩ := h
    refine ⟨_, (pss_cons (ps_expr (pm_call (ok_H_check_kept T) (cls_H T) hr (by decide) (pv 0) (pa_cons (pv 1) pa_nil)))
    (pss_cons (ps_if (pt_cmp (pc_isN (kix (K := K) (kfld (K := K) (pv 0)) (pv 1))))
      (pss_one (ps_ret pe_non))
      pss_nil)
    (pss_cons (ps_set (i := 2) SC.nd rfl (Or.inr rfl) (pm_call (ok_H_found_at T) (cls_H T) hr (by decide) (pv 0) (pa_cons (pv 1) pa_nil)))
    (pss_cons (ps_if (pt_val (pe_callB (cr_any rfl) rfl (b_any T) (by decide +kernel) (pa_cons (pe_lc (own := [("one", 4)]) rfl SC.nd (pi_keysF (pm_call (ok_H_holders T) (cls_H T) hr (by decide) (pv 0) (pa_cons (pv 1) pa_nil))) (blkOk_by (own := [("one", 4)]) (N := ["self", "item", "found", "level", "one"]) (sc := defScope s_H_due) (by decide +kernel)) (fun _ _ _ _ _ => (pg_name (i := 4) SC.nd rfl (Or.inl rfl))) (fun _ _ _ _ _ => pts_nil) (fun _ _ _ _ _ => (pe_and (kix (K := K) (kfld (K := K) (pv 0)) (pv 4)) (pe_one (pe_cmpR op_eq (pm_call (ok_H_found_at T) (cls_H T) hr (by decide) (pv 0) (pa_cons (pv 4) pa_nil)) (pv 2) (nomark _)))))) pa_nil)))
      (pss_cons (ps_set (i := 3) SC.nd rfl (Or.inl rfl) (pe_callB (call_min2 rfl) rfl (b_min T) (by decide +kernel) (pa_cons (pm_call0 (ok_S_last T) (cls_S T) hr (by decide) (kfld (K := K) (pv 0))) (pa_cons (pe_op op_add (pm_call (ok_S_level_of T) (cls_S T) hr (by decide) (kfld (K := K) (pv 0)) (pa_cons (pv 2) pa_nil)) pe_int) pa_nil))))
    (pss_one (ps_ret (pm_call (ok_S_next_of T) (cls_S T) hr (by decide) (kfld (K := K) (pv 0)) (pa_cons (pv 2) (pa_cons (pv 3) pa_nil))))))
      pss_nil)
    (pss_one (ps_ret (pv 2))))))), ?_⟩
    have n60 := h.wf.n60
    refine q_drop (ev_check_kept T h (ev_var rfl) hi hf (ev_var rfl)) fun H1 e1 => ?_
    refine q_when (b := (S.death i).isNone) (et_B (ev_is (ev_isN (evi_deaths T (h.ex e1) (ev_var rfl) hi (ev_var rfl))) (congrArg V.bl oV_dec))) (fun hd H2 e2 => ?_) fun hd H2 e2 => ?_
    · have e : S.due i = none := if_pos (Option.isNone_iff_eq_none.mp hd)
      rw [e] at k
      exact s_ret ev_c fun H3 e3 => k H3 ((e1.trans e2).trans e3)
    have e12 := e1.trans e2
    have hd' : S.death i ≠ none := fun z => by
      rw [z] at hd
      cases hd
    refine q_asg (ev_fat T (h.ex e12) g (ev_var rfl) hi hd' hf (ev_var rfl)) fun H3 e3 => ?_
    have e13 := e12.trans e3
    have h3 := h.ex e13
    -- any(..)
    refine u_seq (u_ifB (u_cbLP (el_lcF (fun _ _ => true) (fun kvs j => V.bl (match kvs[j]? with | some (Sum.inl z, _) => S.pend z.toNat && decide (S.fat z.toNat = S.fat i) | _ => false)) (ek_holders T h3 (ev_var rfl) hi (ev_var rfl)) (fun kvs pk => ?_) (fun _ => rfl) (fun kvs pk j kk ww H4 e4 hk => ?_) (fun kvs pk j kk ww H4 e4 hk _ => ?_)) fun xs p H4 px np e4 hp => ?_))
    · obtain ⟨ks, rfl, nd, hm⟩ := pk
      rw [kD_len]
      have := nd_len nd fun x hx => (g.up h.wf hi hd' hf ((hm x).mp hx)).1
      omega
    · exact fun H5 _ Q q => q H5 (Ex.refl _)
    · obtain ⟨ks, rfl, nd, hm⟩ := pk
      rw [hk]
      obtain ⟨b, hb1, rfl⟩ := kD_at hk
      obtain ⟨u1, u2, u3⟩ := g.up h.wf hi hd' hf ((hm b).mp (List.mem_of_getElem? hb1))
      show Ev _ _ _ (V.bl (S.pend ((b : Int)).toNat && decide (S.fat ((b : Int)).toNat = S.fat i)))
      rw [Int.toNat_natCast]
      exact ev_andV (evi_pending T (h3.ex e4) (ev_var rfl) u1 (ev_var rfl)) fun _ => ev_op (ev_fat T (h3.ex e4) g (ev_var rfl) u1 u2 u3 (ev_var rfl)) (ev_var rfl) rv_eqN
    · obtain ⟨kvs, ⟨ks, rfl, nd, hm⟩, rfl⟩ := px
      have e14 := e13.trans e4
      have h4 := h.ex e14
      have hg : given (kD ks).length (fun _ => true) (fun j => V.bl (match (kD ks)[j]? with | some (Sum.inl z, _) => S.pend z.toNat && decide (S.fat z.toNat = S.fat i) | _ => false)) = (ks.map fun x => S.pend x && decide (S.fat x = S.fat i)).map V.bl := by
        unfold given
        rw [List.filter_eq_self.mpr fun _ _ => rfl, List.map_map, kD_len]
        refine List.ext_getElem? fun j => ?_
        by_cases hj : j < ks.length
        · rw [List.getElem?_map, List.getElem?_range hj, List.getElem?_map, List.getElem?_eq_getElem hj]
          show some (V.bl (match (kD ks)[j]? with | some (Sum.inl z, _) => S.pend z.toNat && decide (S.fat z.toNat = S.fat i) | _ => false)) = _
          unfold kD
          rw [List.getElem?_map, List.getElem?_eq_getElem hj]
          show some (V.bl (S.pend (((ks[j] : Nat) : Int)).toNat && decide (S.fat (((ks[j] : Nat) : Int)).toNat = S.fat i))) = _
          rw [Int.toNat_natCast]
          rfl
        · rw [List.getElem?_eq_none (by rw [List.length_map, List.length_range]; omega), List.getElem?_eq_none (by rw [List.length_map]; omega)]
      rw [hg] at hp
      refine ⟨p, _, rfl, sq_of hp, _, rfl, ?_⟩
      have hany : (ks.map fun x => S.pend x && decide (S.fat x = S.fat i)).any id = true ↔ S.keeps i := by
        rw [List.any_map, List.any_eq_true]
        constructor
        · rintro ⟨x, hx, hx2⟩
          obtain ⟨p1, p2⟩ := Bool.and_eq_true_iff.mp hx2
          exact ⟨x, (hm x).mp hx, p1, of_decide_eq_true p2⟩
        · rintro ⟨x, hx, p1, p2⟩
          refine ⟨x, (hm x).mpr hx, ?_⟩
          show (S.pend x && decide (S.fat x = S.fat i)) = true
          rw [p1, decide_eq_true p2]
          rfl
      cases hA : (ks.map fun x => S.pend x && decide (S.fat x = S.fat i)).any id with
      | true =>
        refine iteT ?_
        have e : S.due i = some (nxt S.ps (S.fat i) (min (lastOf S.ps) (lvl S.ps (S.fat i) + 1))) := by
          unfold HS.due
          rw [if_neg hd', if_pos (hany.mp hA)]
        rw [e] at k
        refine q_asg (ev_min2N (ea_cons (ev_last (evf_sc T h4 (ev_var rfl)) h4.scheme h.wf.p.len) (ea_cons (ev_op (ev_level (evf_sc T h4 (ev_var rfl)) h4.scheme h.wf.p (ea_cons (ev_var rfl) ea_nil)) ev_c rv_add1) ea_nil))) fun H5 e5 => ?_
        have h5 := h4.ex e5
        exact s_ret (ev_next (evf_sc T h5 (ev_var rfl)) h5.scheme h.wf.p (ea_cons (ev_var rfl) (ea_cons (ev_var rfl) ea_nil)) hb (Nat.lt_of_le_of_lt (Nat.min_le_left _ _) (lastOf_lt h.wf.p))) fun H6 e6 => k H6 ((e14.trans e5).trans e6)
      | false =>
        refine iteF ?_
        have e : S.due i = some (S.fat i) := by
          unfold HS.due
          rw [if_neg hd', if_neg fun z => by
            rw [hany.mpr z] at hA
            cases hA]
        rw [e] at k
        exact s_ret (ev_var rfl) fun H6 e6 => k H6 (e14.trans e6)
theorem ev_due (T : TX K mg) {H : Hp} {A : Rep} {S : HS} {σ : L2.St} {ta tb : TE} {E : XK} (h : HeapAt K H A S) (g : S.Good) (e : Ev ta σ H (.ref (A.at_ .inst))) {i : Nat} (hi : i < S.n) (hf : S.freed i = false) (hb : S.fat i < 2 ^ 700) (e2 : Ev tb σ H (nV i)) :
    Ev (tMeth (CH K) "due" (sp_H_due K) [] E ta (tCons tb tNil)) σ H (oV (S.due i)) :=
  ev_meth e (h.ob .inst trivial) (hm_due A S.time) (ea_cons e2 ea_nil) fun H1 e3 Q q E => ⟨A, S, i, rfl, h.ex e3, g, hi, hf, hb, q⟩
end
end HD
set_option Elab.async false
set_option linter.all false
set_option maxRecDepth 100000
set_option maxHeartbeats 4000000
/-! The methods of a heap that change it (first part): note, connect, disconnect, free. -/
namespace HD
open PySem PySem.Spec PyProof.Rows L2 Evl
/-- from a heap to a heap: what it owns may have changed and grown by new things -/
structure Step (K : PySem.W.Frag) (H H' : Hp) (A A' : Rep) (S S' : HS) : Prop where
  ha : HeapAt K H' A' S'
  chg : Chg (Own A S.n) H H'
  own : ∀ b, Own A' S'.n b → Own A S.n b ∨ H b = none
  inst : A'.at_ .inst = A.at_ .inst
theorem Step.ex {K : PySem.W.Frag} {H H' : Hp} {A : Rep} {S : HS} (h : HeapAt K H A S) (e : Ex H H') : Step K H H' A A S S := ⟨h.ex e, Chg.ex e, fun b o => .inl o, rfl⟩
theorem Step.trans {K : PySem.W.Frag} {H H1 H2 : Hp} {A A1 A2 : Rep} {S S1 S2 : HS} (a : Step K H H1 A A1 S S1) (b : Step K H1 H2 A1 A2 S1 S2) : Step K H H2 A A2 S S2 := by
  refine ⟨b.ha, fun c o e f => ?_, fun c o => ?_, b.inst.trans a.inst⟩
  · refine b.chg c o (a.chg c o e f) fun z => ?_
    rcases a.own c z with q | q
    · exact f q
    · rw [e] at q
      cases q
  · rcases b.own c o with q | q
    · exact a.own c q
    · cases e : H c with
      | none => exact .inr rfl
      | some u =>
        by_cases f : Own A S.n c
        · exact .inl f
        · rw [a.chg c u e f] at q
          cases q
theorem Step.to {K : PySem.W.Frag} {H H1 H2 : Hp} {A A1 : Rep} {S S1 : HS} (a : Step K H H1 A A1 S S1) (e : Ex H1 H2) : Step K H H2 A A1 S S1 := a.trans (Step.ex a.ha e)
/-- another thing stands at a label -/
theorem HeapAt.put {K : PySem.W.Frag} {H : Hp} {A A' : Rep} {S S' : HS} (h : HeapAt K H A S) (l : Lab) (hl : okL S.n l) {o : HO} (ho : o = obj K A' S' l) (hn : S'.n = S.n) (ha : A'.at_ = A.at_) (hob : ∀ l', l' ≠ l → obj K A' S' l' = obj K A S l') (wf : S'.Wf)
    (f1 : A'.fv.length = S.n) (f2 : ∀ i, i < S.n → ∃ v, A'.fv[i]? = some v ∧ (v = .non ↔ S'.freed i = false)) (f3 : A'.fo.length = S.n) (f4 : A'.dn.length = S'.nd) : Step K H (upd H (A.at_ l) o) A A' S S' := by
  refine ⟨⟨fun l' hl' => ?_, fun l1 l2 h1 h2 e => ?_, wf, f1.trans hn.symm, fun i hi => f2 i (hn ▸ hi), f3.trans hn.symm, f4⟩, fun b u e f => ?_, fun b o => ?_, by rw [ha]⟩
  · rw [hn] at hl'
    rw [ha]
    by_cases e : l' = l
    · rw [e, upd_same, ho]
    · rw [upd_ne (fun z => e (h.inj _ _ hl' hl z)), h.ob l' hl', hob l' e]
  · rw [hn] at h1 h2
    rw [ha] at e
    exact h.inj l1 l2 h1 h2 e
  · rw [upd_ne (fun z => f ⟨l, hl, z.symm⟩)]
    exact e
  · obtain ⟨l', h1, h2⟩ := o
    rw [hn] at h1
    rw [ha] at h2
    exact .inl ⟨l', h1, h2⟩
/-- where only the plain side changes -/
theorem HeapAt.put0 {K : PySem.W.Frag} {H : Hp} {A : Rep} {S S' : HS} (h : HeapAt K H A S) (l : Lab) (hl : okL S.n l) {o : HO} (ho : o = obj K A S' l) (hn : S'.n = S.n) (hob : ∀ l', l' ≠ l → obj K A S' l' = obj K A S l') (wf : S'.Wf) (hf : S'.freed = S.freed) (hd : S'.nd = S.nd) :
    Step K H (upd H (A.at_ l) o) A A S S' :=
  h.put l hl ho hn rfl hob wf h.fvl (fun i hi => by rw [hf]; exact h.fvn i hi) h.fol (by rw [hd]; exact h.dnl)
section
variable {P : Program} {w : World} {K : PySem.W.Frag} {mg : Str → Option Value} {base : Heap}
theorem HeapAt.small {H : Hp} {A : Rep} {S : HS} (h : HeapAt K H A S) {i : Nat} (hi : i < S.n) : (S.tg i).length ≤ 60 ∧ (S.sr i).length ≤ 60 :=
  ⟨Nat.le_trans (nd_len (h.wf.tgn i hi) fun j hj => h.wf.tgl i j hi hj) h.wf.n60, Nat.le_trans (nd_len (h.wf.srn i hi) fun j hj => h.wf.srl i j hi hj) h.wf.n60⟩
/-! ### note -/
theorem sc_H_note : FnScope ["self", "action"] ["self", "action"] (defScope s_H_note) := ⟨rfl, rfl, rfl, by decide +kernel, rfl, by decide +kernel, by decide +kernel⟩
def HS.noted (S : HS) : HS := { S with nd := S.nd + 1 }
def sp_H_note (K : PySem.W.Frag) : Sp := fun vs H Q _ => ∃ A S v, vs = [.ref (A.at_ .inst), v] ∧ HeapAt K H A S ∧ S.nd < 400 ∧ ∀ H' A', Step K H H' A A' S S.noted → Q .non H'
theorem ok_H_note (T : TX K mg) : MethOk P w K mg base (CH K) 1 "note" ["self", "action"] (sp_H_note K) := by
  have SC := sc_H_note
  refine meth_mk (F_H_note T) (m_H_note T) sc_H_note (fun _ _ _ _ _ _ us hl => match us, hl with | [_, _], _ => rfl) (fun vs H Q E h => ?_) (fun cdv A outer s H vs Q E hr h => ?_)
  · obtain ⟨A, S, v, rfl, _⟩ := h
    rfl
  · obtain ⟨A, S, v, rfl, h, hn, k⟩ := h
    refine ⟨_, (pss_one (ps_expr (pe_bm PySem.F.plainAttrs_list PySem.F.slot_list_append PySem.F.type_list_append mt_append (kfld (K := K) (pv 0)) (pa_cons (pv 1) pa_nil)))), ?_⟩
    refine s_app (h.ob .done trivial) (evf_done T h (ev_var rfl)) (ev_var rfl) (by rw [h.dnl]; omega) fun H1 e1 => ?_
    refine k _ { A with dn := A.dn ++ [v] } ((Step.ex h e1).trans ((h.ex e1).put (S' := S.noted) .done trivial rfl rfl rfl (fun l' hl' => ?_) ⟨h.wf.ps1, h.wf.pos, h.wf.n60, h.wf.psn, h.wf.psb, h.wf.tb, h.wf.tgn, h.wf.srn, h.wf.tgl, h.wf.srl, h.wf.rn, h.wf.rl⟩ h.fvl h.fvn h.fol ?_))
    · cases l' <;> first | rfl | exact absurd rfl hl'
    · show (A.dn ++ [v]).length = S.nd + 1
      rw [List.length_append, h.dnl]
      rfl
/-- self.note(..) as a statement -/
theorem q_note (T : TX K mg) {H : Hp} {A : Rep} {S : HS} {σ : L2.St} {ta tv : TE} {E : XK} {D : Ends} {xs : List V} (h : HeapAt K H A S) (hn : S.nd < 400) (e : Ev ta σ H (.ref (A.at_ .inst))) (e2 : EvU tv σ H xs) (k : ∀ H' A', Step K H H' A A' S S.noted → D.nx σ H') :
    tDrop (tMeth (CH K) "note" (sp_H_note K) [] E ta (tCons tv tNil)) D σ H :=
  e H (Ex.refl H) _ fun H1 e1 => ⟨_, A.dx, _, rfl, e1 _ _ (h.ob .inst trivial), hm_note A S.time, e2 H1 e1 _ fun p H2 _ e12 _ => ⟨A, S, .ref p, rfl, h.ex (e1.trans e12), hn, fun H' A' st => k H' A' ((Step.ex h (e1.trans e12)).trans st)⟩⟩
/-! ### connect, disconnect -/
theorem sc_H_connect : FnScope ["self", "source", "target"] ["self", "source", "target"] (defScope s_H_connect) := ⟨rfl, rfl, rfl, by decide +kernel, rfl, by decide +kernel, by decide +kernel⟩
def HS.joined (S : HS) (a b : Nat) : HS := { S with tg := fset S.tg a (addK (S.tg a) b), sr := fset S.sr b (addK (S.sr b) a) }
def sp_H_connect (K : PySem.W.Frag) : Sp := fun vs H Q _ => ∃ A S a b, vs = [.ref (A.at_ .inst), nV a, nV b] ∧ HeapAt K H A S ∧ a < S.n ∧ b < S.n ∧ ∀ H', Step K H H' A A S (S.joined a b) → Q .non H'
theorem HS.Wf.setTg {S : HS} (w : S.Wf) {a : Nat} {l : List Nat} (h1 : l.Nodup) (h2 : ∀ j ∈ l, j < S.n) : HS.Wf { S with tg := fset S.tg a l } :=
  ⟨w.ps1, w.pos, w.n60, w.psn, w.psb, w.tb, fun i hi => by
    show (fset S.tg a l i).Nodup
    unfold fset
    split
    · exact h1
    · exact w.tgn i hi, w.srn, fun i j hi hj => by
    have hj : j ∈ fset S.tg a l i := hj
    unfold fset at hj
    split at hj
    · exact h2 j hj
    · exact w.tgl i j hi hj, w.srl, w.rn, w.rl⟩
theorem HS.Wf.setSr {S : HS} (w : S.Wf) {a : Nat} {l : List Nat} (h1 : l.Nodup) (h2 : ∀ j ∈ l, j < S.n) : HS.Wf { S with sr := fset S.sr a l } :=
  ⟨w.ps1, w.pos, w.n60, w.psn, w.psb, w.tb, w.tgn, fun i hi => by
    show (fset S.sr a l i).Nodup
    unfold fset
    split
    · exact h1
    · exact w.srn i hi, w.tgl, fun i j hi hj => by
    have hj : j ∈ fset S.sr a l i := hj
    unfold fset at hj
    split at hj
    · exact h2 j hj
    · exact w.srl i j hi hj, w.rn, w.rl⟩
theorem HeapAt.putTg {H : Hp} {A : Rep} {S : HS} (h : HeapAt K H A S) {a : Nat} (ha : a < S.n) {l : List Nat} (h1 : l.Nodup) (h2 : ∀ j ∈ l, j < S.n) : Step K H (upd H (A.at_ (.tg a)) (.dK (kD l))) A A S { S with tg := fset S.tg a l } := by
  refine h.put0 (.tg a) ha ?_ rfl (fun l' hl' => ?_) (h.wf.setTg h1 h2) rfl rfl
  · show HO.dK (kD l) = HO.dK (kD (fset S.tg a l a))
    rw [fset_same]
  · cases l' with
    | tg i =>
      show HO.dK (kD (fset S.tg a l i)) = HO.dK (kD (S.tg i))
      rw [fset_ne _ _ (fun z => hl' (by rw [z]))]
    | _ => rfl
theorem HeapAt.putSr {H : Hp} {A : Rep} {S : HS} (h : HeapAt K H A S) {a : Nat} (ha : a < S.n) {l : List Nat} (h1 : l.Nodup) (h2 : ∀ j ∈ l, j < S.n) : Step K H (upd H (A.at_ (.sr a)) (.dK (kD l))) A A S { S with sr := fset S.sr a l } := by
  refine h.put0 (.sr a) ha ?_ rfl (fun l' hl' => ?_) (h.wf.setSr h1 h2) rfl rfl
  · show HO.dK (kD l) = HO.dK (kD (fset S.sr a l a))
    rw [fset_same]
  · cases l' with
    | sr i =>
      show HO.dK (kD (fset S.sr a l i)) = HO.dK (kD (S.sr i))
      rw [fset_ne _ _ (fun z => hl' (by rw [z]))]
    | _ => rfl
theorem lt_addK {l : List Nat} {k n : Nat} (h : ∀ j ∈ l, j < n) (hk : k < n) : ∀ j ∈ addK l k, j < n := fun j m => by
  rcases mem_addK.mp m with q | q
  · exact h j q
  · rw [q]
    exact hk
theorem lt_delK {l : List Nat} {k n : Nat} (h : ∀ j ∈ l, j < n) : ∀ j ∈ delK l k, j < n := fun j m => h j (mem_delK.mp m).1
theorem ok_H_connect (T : TX K mg) : MethOk P w K mg base (CH K) 1 "connect" ["self", "source", "target"] (sp_H_connect K) := by
  have SC := sc_H_connect
  refine meth_mk (F_H_connect T) (m_H_connect T) sc_H_connect (fun _ _ _ _ _ _ us hl => match us, hl with | [_, _, _], _ => rfl) (fun vs H Q E h => ?_) (fun cdv A outer s H vs Q E hr h => ?_)
  · obtain ⟨A, S, a, b, rfl, _⟩ := h
    rfl
  · obtain ⟨A, S, a, b, rfl, h, ha, hb, k⟩ := h
    have hu := hu_of hr
    refine ⟨_, (pss_cons (ps_dput hu (kix (K := K) (kfld (K := K) (pv 0)) (pv 1)) (pv 2) pe_bl rfl)
    (pss_one (ps_dput hu (kix (K := K) (kfld (K := K) (pv 0)) (pv 2)) (pv 1) pe_bl rfl))), ?_⟩
    refine u_seq (q_put (k := Sum.inl (b : Int)) ev_c (evi_targets T h (ev_var rfl) ha (ev_var rfl)) (h.ob (.tg a) ha) (ev_var rfl) (by rw [kD_len]; have := (h.small ha).1; omega) fun H1 e1 => ?_)
    have st1 := (Step.ex h e1).trans ((h.ex e1).putTg ha (nd_addK (h.wf.tgn a ha)) (lt_addK (fun j hj => h.wf.tgl a j ha hj) hb))
    rw [kD_put]
    have h1 := st1.ha
    refine q_put (k := Sum.inl (a : Int)) ev_c (evi_sources T h1 (ev_var rfl) hb (ev_var rfl)) (h1.ob (.sr b) hb) (ev_var rfl) (by rw [kD_len]; have := (h1.small hb).2; omega) fun H2 e2 => ?_
    rw [kD_put]
    exact k _ ((st1.to e2).trans ((h1.ex e2).putSr hb (nd_addK (h.wf.srn b hb)) (lt_addK (fun j hj => h.wf.srl b j hb hj) ha)))
theorem q_connect (T : TX K mg) {H : Hp} {A : Rep} {S : HS} {σ : L2.St} {ta tb tc : TE} {E : XK} {D : Ends} {a b : Nat} (h : HeapAt K H A S) (e : Ev ta σ H (.ref (A.at_ .inst))) (ha : a < S.n) (hb : b < S.n) (e2 : Ev tb σ H (nV a)) (e3 : Ev tc σ H (nV b)) (k : ∀ H', Step K H H' A A S (S.joined a b) → D.nx σ H') :
    tDrop (tMeth (CH K) "connect" (sp_H_connect K) [] E ta (tCons tb (tCons tc tNil))) D σ H :=
  e H (Ex.refl H) _ fun H1 e1 => ⟨_, A.dx, _, rfl, e1 _ _ (h.ob .inst trivial), hm_connect A S.time, (ea_cons e2 (ea_cons e3 ea_nil)) H1 e1 _ fun H2 e12 => ⟨A, S, a, b, rfl, h.ex (e1.trans e12), ha, hb, fun H' st => k H' ((Step.ex h (e1.trans e12)).trans st)⟩⟩
theorem sc_H_disconnect : FnScope ["self", "source", "target"] ["self", "source", "target"] (defScope s_H_disconnect) := ⟨rfl, rfl, rfl, by decide +kernel, rfl, by decide +kernel, by decide +kernel⟩
def HS.parted (S : HS) (a b : Nat) : HS := { S with tg := fset S.tg a (delK (S.tg a) b), sr := fset S.sr b (delK (S.sr b) a) }
def sp_H_disconnect (K : PySem.W.Frag) : Sp := fun vs H Q _ => ∃ A S a b, vs = [.ref (A.at_ .inst), nV a, nV b] ∧ HeapAt K H A S ∧ a < S.n ∧ b < S.n ∧ b ∈ S.tg a ∧ a ∈ S.sr b ∧ ∀ H', Step K H H' A A S (S.parted a b) → Q .non H'
theorem ok_H_disconnect (T : TX K mg) : MethOk P w K mg base (CH K) 1 "disconnect" ["self", "source", "target"] (sp_H_disconnect K) := by
  have SC := sc_H_disconnect
  refine meth_mk (F_H_disconnect T) (m_H_disconnect T) sc_H_disconnect (fun _ _ _ _ _ _ us hl => match us, hl with | [_, _, _], _ => rfl) (fun vs H Q E h => ?_) (fun cdv A outer s H vs Q E hr h => ?_)
  · obtain ⟨A, S, a, b, rfl, _⟩ := h
    rfl
  · obtain ⟨A, S, a, b, rfl, h, ha, hb, m1, m2, k⟩ := h
    refine ⟨_, (pss_cons (ps_expr (pe_dpop1 (kix (K := K) (kfld (K := K) (pv 0)) (pv 1)) (pv 2) ⟨by rfl, by rfl, by rfl, by rfl⟩))
    (pss_one (ps_expr (pe_dpop1 (kix (K := K) (kfld (K := K) (pv 0)) (pv 2)) (pv 1) ⟨by rfl, by rfl, by rfl, by rfl⟩)))), ?_⟩
    refine u_seq (q_pop (k := Sum.inl (b : Int)) (evi_targets T h (ev_var rfl) ha (ev_var rfl)) (h.ob (.tg a) ha) (ev_var rfl) (by rw [kD_val, if_pos m1]) fun H1 e1 => ?_)
    have st1 := (Step.ex h e1).trans ((h.ex e1).putTg ha (nd_delK (k := b) (h.wf.tgn a ha)) (lt_delK fun j hj => h.wf.tgl a j ha hj))
    rw [kD_drop]
    have h1 := st1.ha
    refine q_pop (k := Sum.inl (a : Int)) (evi_sources T h1 (ev_var rfl) hb (ev_var rfl)) (h1.ob (.sr b) hb) (ev_var rfl) (by rw [kD_val, if_pos m2]) fun H2 e2 => ?_
    rw [kD_drop]
    exact k _ ((st1.to e2).trans ((h1.ex e2).putSr hb (nd_delK (k := a) (h.wf.srn b hb)) (lt_delK fun j hj => h.wf.srl b j hb hj)))
theorem q_disconnect (T : TX K mg) {H : Hp} {A : Rep} {S : HS} {σ : L2.St} {ta tb tc : TE} {E : XK} {D : Ends} {a b : Nat} (h : HeapAt K H A S) (e : Ev ta σ H (.ref (A.at_ .inst))) (ha : a < S.n) (hb : b < S.n) (m1 : b ∈ S.tg a) (m2 : a ∈ S.sr b) (e2 : Ev tb σ H (nV a)) (e3 : Ev tc σ H (nV b)) (k : ∀ H', Step K H H' A A S (S.parted a b) → D.nx σ H') :
    tDrop (tMeth (CH K) "disconnect" (sp_H_disconnect K) [] E ta (tCons tb (tCons tc tNil))) D σ H :=
  e H (Ex.refl H) _ fun H1 e1 => ⟨_, A.dx, _, rfl, e1 _ _ (h.ob .inst trivial), hm_disconnect A S.time, (ea_cons e2 (ea_cons e3 ea_nil)) H1 e1 _ fun H2 e12 => ⟨A, S, a, b, rfl, h.ex (e1.trans e12), ha, hb, m1, m2, fun H' st => k H' ((Step.ex h (e1.trans e12)).trans st)⟩⟩
end
end HD
set_option Elab.async false
set_option linter.all false
set_option maxRecDepth 100000
set_option maxHeartbeats 4000000
/-! The methods of a heap that change it (second part): free, settle. -/
namespace HD
open PySem PySem.Spec PyProof.Rows L2 Evl
section
variable {K : PySem.W.Frag} {H : Hp} {A : Rep} {S : HS} {σ : L2.St} {ta tb te : TE} {D : Ends}
/-- xs[j] = a new tuple -/
theorem s_setU {l : Addr} {xs ys : List V} {j : Nat} (hl : H l = some (.lst xs)) (h : EvU te σ H ys) (ho : Ev ta σ H (.ref l)) (hi : Ev tb σ H (nV j)) (hj : j < xs.length) (k : ∀ p H1, Ex H H1 → D.nx σ (upd H1 l (.lst (xs.set j (.ref p))))) :
    tAsg te (gSub ta tb rSetL) D σ H := h H (Ex.refl H) _ fun p H1 _ e1 _ => ho H1 e1 _ fun H2 e2 => hi H2 (e1.trans e2) _ fun H3 e3 =>
  ⟨l, xs, (j : Int), j, rfl, rfl, ((e1.trans e2).trans e3) l _ hl, ixN_nat hj, k p H3 ((e1.trans e2).trans e3)⟩
theorem HeapAt.putDeath (h : HeapAt K H A S) {i : Nat} {x : Option Nat} : Step K H (upd H (A.at_ .deaths) (.lst ((vl S.n fun j => oV (S.death j)).set i (oV x)))) A A S { S with death := fset S.death i x } := by
  refine h.put0 .deaths trivial ?_ rfl (fun l' hl' => ?_) ⟨h.wf.ps1, h.wf.pos, h.wf.n60, h.wf.psn, h.wf.psb, h.wf.tb, h.wf.tgn, h.wf.srn, h.wf.tgl, h.wf.srl, h.wf.rn, h.wf.rl⟩ rfl rfl
  · show HO.lst _ = HO.lst (vl S.n fun j => oV (fset S.death i x j))
    rw [vl_set, fset_map]
  · cases l' <;> first | rfl | exact absurd rfl hl'
theorem HeapAt.putRank (h : HeapAt K H A S) {i : Nat} {x : Option Nat} : Step K H (upd H (A.at_ .ranks) (.lst ((vl S.n fun j => oV (S.rank j)).set i (oV x)))) A A S { S with rank := fset S.rank i x } := by
  refine h.put0 .ranks trivial ?_ rfl (fun l' hl' => ?_) ⟨h.wf.ps1, h.wf.pos, h.wf.n60, h.wf.psn, h.wf.psb, h.wf.tb, h.wf.tgn, h.wf.srn, h.wf.tgl, h.wf.srl, h.wf.rn, h.wf.rl⟩ rfl rfl
  · show HO.lst _ = HO.lst (vl S.n fun j => oV (fset S.rank i x j))
    rw [vl_set, fset_map]
  · cases l' <;> first | rfl | exact absurd rfl hl'
theorem HeapAt.putPend (h : HeapAt K H A S) {i : Nat} {x : Bool} : Step K H (upd H (A.at_ .pending) (.lst ((vl S.n fun j => V.bl (S.pend j)).set i (.bl x)))) A A S { S with pend := fset S.pend i x } := by
  refine h.put0 .pending trivial ?_ rfl (fun l' hl' => ?_) ⟨h.wf.ps1, h.wf.pos, h.wf.n60, h.wf.psn, h.wf.psb, h.wf.tb, h.wf.tgn, h.wf.srn, h.wf.tgl, h.wf.srl, h.wf.rn, h.wf.rl⟩ rfl rfl
  · show HO.lst _ = HO.lst (vl S.n fun j => V.bl (fset S.pend i x j))
    rw [vl_set, fset_map]
  · cases l' <;> first | rfl | exact absurd rfl hl'
theorem HeapAt.putFreed (h : HeapAt K H A S) {i : Nat} {p : Addr} (hi : i < S.n) : Step K H (upd H (A.at_ .freed) (.lst (A.fv.set i (.ref p)))) A { A with fv := A.fv.set i (.ref p) } S { S with freed := fset S.freed i true } := by
  refine h.put (A' := { A with fv := A.fv.set i (.ref p) }) (S' := { S with freed := fset S.freed i true }) .freed trivial rfl rfl rfl (fun l' hl' => ?_) ⟨h.wf.ps1, h.wf.pos, h.wf.n60, h.wf.psn, h.wf.psb, h.wf.tb, h.wf.tgn, h.wf.srn, h.wf.tgl, h.wf.srl, h.wf.rn, h.wf.rl⟩ ?_ (fun j hj => ?_) h.fol h.dnl
  · cases l' <;> first | rfl | exact absurd rfl hl'
  · show (A.fv.set i (.ref p)).length = S.n
    rw [List.length_set]
    exact h.fvl
  · show ∃ v, (A.fv.set i (.ref p))[j]? = some v ∧ (v = .non ↔ fset S.freed i true j = false)
    by_cases e : j = i
    · subst e
      exact ⟨_, List.getElem?_set_self (by rw [h.fvl]; exact hj), ⟨fun z => (by cases z), fun z => (by rw [fset_same] at z; cases z)⟩⟩
    · rw [List.getElem?_set_ne (Ne.symm e), fset_ne _ _ e]
      exact h.fvn j hj
theorem HeapAt.putFound (h : HeapAt K H A S) {i : Nat} {v : V} : Step K H (upd H (A.at_ .found) (.lst (A.fo.set i v))) A { A with fo := A.fo.set i v } S S := by
  refine h.put (A' := { A with fo := A.fo.set i v }) .found trivial rfl rfl rfl (fun l' hl' => ?_) h.wf h.fvl h.fvn ?_ h.dnl
  · cases l' <;> first | rfl | exact absurd rfl hl'
  · show (A.fo.set i v).length = S.n
    rw [List.length_set]
    exact h.fol
end
theorem mem_partTg {S : HS} {x y a b : Nat} : b ∈ fset S.tg x (delK (S.tg x) y) a ↔ b ∈ S.tg a ∧ ¬ (a = x ∧ b = y) := by
  unfold fset
  split
  · rename_i e
    subst e
    rw [mem_delK]
    exact ⟨fun h => ⟨h.1, fun z => h.2 z.2⟩, fun h => ⟨h.1, fun z => h.2 ⟨rfl, z⟩⟩⟩
  · rename_i e
    exact ⟨fun h => ⟨h, fun z => e z.1⟩, fun h => h.1⟩
theorem mem_partSr {S : HS} {x y a b : Nat} : a ∈ fset S.sr y (delK (S.sr y) x) b ↔ a ∈ S.sr b ∧ ¬ (a = x ∧ b = y) := by
  unfold fset
  split
  · rename_i e
    subst e
    rw [mem_delK]
    exact ⟨fun h => ⟨h.1, fun z => h.2 z.1⟩, fun h => ⟨h.1, fun z => h.2 ⟨z, rfl⟩⟩⟩
  · rename_i e
    exact ⟨fun h => ⟨h, fun z => e z.2⟩, fun h => h.1⟩
section
variable {P : Program} {w : World} {K : PySem.W.Frag} {mg : Str → Option Value} {base : Heap}
theorem sc_H_free : FnScope ["self", "item", "kind", "target", "source"] ["self", "item", "kind"] (defScope s_H_free) := ⟨rfl, rfl, rfl, by decide +kernel, rfl, by decide +kernel, by decide +kernel⟩
/-- references among those that are not gone -/
structure Cut (S : HS) (gone : Nat → Prop) (t r : Nat → List Nat) : Prop where
  tg : ∀ a b, a < S.n → (b ∈ t a ↔ b ∈ S.tg a ∧ ¬ gone a ∧ ¬ gone b)
  sr : ∀ a b, a < S.n → (b ∈ r a ↔ b ∈ S.sr a ∧ ¬ gone a ∧ ¬ gone b)
def HS.TS (S : HS) : Prop := ∀ i j, i < S.n → j < S.n → (j ∈ S.tg i ↔ i ∈ S.sr j)
def sp_H_free (K : PySem.W.Frag) : Sp := fun vs H Q _ => ∃ A S i v, vs = [.ref (A.at_ .inst), nV i, v] ∧ HeapAt K H A S ∧ i < S.n ∧ S.TS ∧
  ∀ H' A' t r, Step K H H' A A' S { S with freed := fset S.freed i true, tg := t, sr := r } → Cut S (· = i) t r → Q .non H'
/-- list(self.f[i]): a new list of the keys -/
theorem el_keys {H : Hp} {σ : L2.St} {te : TE} {d : Addr} {l : List Nat} (h : Ev te σ H (.ref d)) (hd : H d = some (.dK (kD l))) : EvL (tCB rListD (tCons te tNil)) σ H (nVs l) := fun H1 e Q q =>
  h H1 e _ fun H2 e2 => ⟨d, _, rfl, e2 _ _ (e _ _ hd), fun p hp => q p _ (fresh_back e2 hp) (e2.trans (Ex.new hp)) (by rw [upd_same, kD_keys])⟩
theorem getD_at {l : List Nat} {j : Nat} (hj : j < l.length) : l[j]? = some (l.getD j 0) := by
  rw [List.getD_eq_getElem?_getD, List.getElem?_eq_getElem hj]
  rfl
theorem take_not {l : List Nat} (nd : l.Nodup) {j : Nat} (hj : j < l.length) : ¬ l.getD j 0 ∈ l.take j := fun z => by
  obtain ⟨n, hn, e⟩ := List.getElem_of_mem z
  rw [List.length_take] at hn
  have e2 : l[n]? = some (l.getD j 0) := by
    rw [← e, List.getElem_take, List.getElem?_eq_getElem]
  have := nd_ix nd e2 (getD_at hj)
  omega
theorem ok_H_free (T : TX K mg) : MethOk P w K mg base (CH K) 2 "free" ["self", "item", "kind"] (sp_H_free K) := by
  have SC := sc_H_free
  refine meth_mk (F_H_free T) (m_H_free T) sc_H_free (fun _ _ _ _ _ _ us hl => match us, hl with | [_, _, _], _ => rfl) (fun vs H Q E h => ?_) (fun cdv A outer s H vs Q E hr h => ?_)
  · obtain ⟨A, S, i, v, rfl, _⟩ := h
    rfl
  · obtain ⟨A, S, i, v, rfl, h, hi, ts, k⟩ := h
    refine ⟨_, (pss_cons (ps_asg (pe_tup (pa_cons (kfld (K := K) (pv 0)) (pa_cons (pv 2) pa_nil))) (pg_sub (kfld (K := K) (pv 0)) (pv 1) set_list))
    (pss_cons (ps_for PassesOwn.never rfl (pi_list (pe_callTy (call_list_dK rfl) rfl (b_list T) (by decide +kernel) (pa_cons (kix (K := K) (kfld (K := K) (pv 0)) (pv 1)) pa_nil))) (pg_name (i := 3) SC.nd rfl (Or.inl rfl))
      (pss_one (ps_expr (pm_call (ok_H_disconnect T) (cls_H T) hr (by decide) (pv 0) (pa_cons (pv 1) (pa_cons (pv 3) pa_nil))))))
    (pss_one (ps_for PassesOwn.never rfl (pi_list (pe_callTy (call_list_dK rfl) rfl (b_list T) (by decide +kernel) (pa_cons (kix (K := K) (kfld (K := K) (pv 0)) (pv 1)) pa_nil))) (pg_name (i := 4) SC.nd rfl (Or.inl rfl))
      (pss_one (ps_expr (pm_call (ok_H_disconnect T) (cls_H T) hr (by decide) (pv 0) (pa_cons (pv 4) (pa_cons (pv 1) pa_nil))))))))), ?_⟩
    refine u_seq (s_setU (h.ob .freed trivial) (eu_tup (ea_cons (evf_time T h (ev_var rfl)) (ea_cons (ev_var rfl) ea_nil)) (by show 2 ≤ 100000; decide)) (evf_freed T h (ev_var rfl)) (ev_var rfl) (by rw [h.fvl]; exact hi) fun p H1 e1 => ?_)
    have st1 := (Step.ex h e1).trans ((h.ex e1).putFreed (p := p) hi)
    generalize hA1 : ({ A with fv := A.fv.set i (.ref p) } : Rep) = A1 at st1
    have hin : A1.at_ .inst = A.at_ .inst := st1.inst
    have h1 := st1.ha
    generalize hH1 : upd H1 (A.at_ .freed) (.lst (A.fv.set i (.ref p))) = H2 at st1 h1
    rw [← hin]
    -- a state in which the pairs of rm are gone
    have loop : ∀ (rm : Nat → Nat → Prop) (t r : Nat → List Nat) (H' : Hp), (∀ a b, a < S.n → (b ∈ t a ↔ b ∈ S.tg a ∧ ¬ rm a b)) → (∀ a b, b < S.n → (a ∈ r b ↔ a ∈ S.sr b ∧ ¬ rm a b)) → ∀ x y, x < S.n → y < S.n → y ∈ S.tg x → ¬ rm x y →
        Step K H H' A A1 S { S with freed := fset S.freed i true, tg := t, sr := r } → ∀ (σ : L2.St) (j1 j2 : Nat) (D : Ends), σ[0]? = some (some (.ref (A1.at_ .inst))) → σ[j1]? = some (some (nV x)) → σ[j2]? = some (some (nV y)) →
        (∀ H'' t' r', (∀ a b, a < S.n → (b ∈ t' a ↔ b ∈ S.tg a ∧ ¬ (rm a b ∨ (a = x ∧ b = y)))) → (∀ a b, b < S.n → (a ∈ r' b ↔ a ∈ S.sr b ∧ ¬ (rm a b ∨ (a = x ∧ b = y)))) → Step K H H'' A A1 S { S with freed := fset S.freed i true, tg := t', sr := r' } → Chg (Own A1 S.n) H' H'' → D.nx σ H'') →
        tDrop (tMeth (CH K) "disconnect" (sp_H_disconnect K) [] E0 (tVar 0) (tCons (tVar j1) (tCons (tVar j2) tNil))) D σ H' := by
      intro rm t r H' ht hr' x y hx hy hxy nxy st σ j1 j2 D s0 s1 s2 kk
      have m2 : x ∈ r y := (hr' x y hy).mpr ⟨(ts x y hx hy).mp hxy, nxy⟩
      refine q_disconnect T st.ha (ev_var s0) hx hy ((ht x y hx).mpr ⟨hxy, nxy⟩) m2 (ev_var s1) (ev_var s2) fun H'' st2 => ?_
      refine kk H'' _ _ (fun a b ha => ?_) (fun a b hb => ?_) (st.trans st2) st2.chg
      · refine (mem_partTg (S := { S with freed := fset S.freed i true, tg := t, sr := r })).trans ?_
        show b ∈ t a ∧ _ ↔ _
        rw [ht a b ha]
        exact ⟨fun z => ⟨z.1.1, fun q => q.elim z.1.2 z.2⟩, fun z => ⟨⟨z.1, fun q => z.2 (.inl q)⟩, fun q => z.2 (.inr q)⟩⟩
      · refine (mem_partSr (S := { S with freed := fset S.freed i true, tg := t, sr := r })).trans ?_
        show a ∈ r b ∧ _ ↔ _
        rw [hr' a b hb]
        exact ⟨fun z => ⟨z.1.1, fun q => q.elim z.1.2 z.2⟩, fun z => ⟨⟨z.1, fun q => z.2 (.inl q)⟩, fun q => z.2 (.inr q)⟩⟩
    have sm := h.small hi
    have fresh : ∀ {H9 : Hp} {S9 : HS} {l : Addr}, HeapAt K H9 A1 S9 → S9.n = S.n → H9 l = none → ¬ Own A1 S.n l := fun ha hn nl o => by
      obtain ⟨b, ob, e⟩ := o
      have := ha.ob b (hn ▸ ob)
      rw [e, nl] at this
      cases this
    -- for target in list(self.targets[item])
    refine q_forNLn (el_keys (evi_targets T h1 (ev_var rfl) hi (ev_var rfl)) (h1.ob (.tg i) hi)) (fun l j σ H' => ∃ (t r : Nat → List Nat) (x : Option V), σ = [some (.ref (A1.at_ .inst)), some (nV i), some v, x, none] ∧ ¬ Own A1 S.n l ∧ H' l = some (.lst (nVs (S.tg i))) ∧ Step K H H' A A1 S { S with freed := fset S.freed i true, tg := t, sr := r } ∧
      (∀ a b, a < S.n → (b ∈ t a ↔ b ∈ S.tg a ∧ ¬ (a = i ∧ b ∈ (S.tg i).take j))) ∧ (∀ a b, b < S.n → (a ∈ r b ↔ a ∈ S.sr b ∧ ¬ (a = i ∧ b ∈ (S.tg i).take j)))) (fun l H3 nl e3 hl => ⟨S.tg, S.sr, none, rfl, fresh h1 rfl nl, hl, st1.to e3, fun a b ha => by simp, fun a b hb => by simp⟩) (fun l j σ' H' _ q => ?_) (fun l j x σ' H' hx q => ?_) (fun l σ' H' q => ?_)
    · obtain ⟨_, _, _, _, _, hl, _⟩ := q
      exact sq_of hl
    · obtain ⟨t, r, x0, rfl, nl, hl, st, q1, q2⟩ := q
      obtain ⟨hm, rfl⟩ := nVs_at hx
      have hj : j < (S.tg i).length := by
        have := (List.getElem?_eq_some_iff.mp hx).1
        rw [nVs_len] at this
        exact this
      have hy := h.wf.tgl i _ hi hm
      have hxj := getD_at hj
      refine loop _ t r H' q1 q2 i _ hi hy hm (fun z => take_not (h.wf.tgn i hi) hj z.2) st _ 1 3 _ rfl rfl rfl fun H'' t' r' p1 p2 st2 cg => ⟨t', r', _, rfl, nl, cg _ _ hl nl, st2, fun a b ha => ?_, fun a b hb => ?_⟩
      · rw [p1 a b ha, take_snoc hxj]
        simp only [List.mem_append, List.mem_singleton]
        constructor <;> rintro ⟨z1, z2⟩ <;> refine ⟨z1, fun z => z2 ?_⟩ <;> grind
      · rw [p2 a b hb, take_snoc hxj]
        simp only [List.mem_append, List.mem_singleton]
        constructor <;> rintro ⟨z1, z2⟩ <;> refine ⟨z1, fun z => z2 ?_⟩ <;> grind
    obtain ⟨t, r, x0, rfl, nl, hl, st, q1, q2⟩ := q
    rw [nVs_len, List.take_length] at q1 q2
    have h2 := st.ha
    -- for source in list(self.sources[item])
    have sm2 := h2.small hi
    have nr := h2.wf.srn i hi
    have mr : ∀ a, a ∈ r i ↔ a ∈ S.sr i ∧ a ≠ i := fun a => by
      rw [q2 a i hi]
      refine and_congr_right fun z => not_congr ⟨fun y => y.1, fun y => ⟨y, ?_⟩⟩
      subst y
      exact (ts a a hi hi).mpr z
    refine s_forNL (el_keys (evi_sources T h2 (ev_var rfl) hi (ev_var rfl)) (h2.ob (.sr i) hi)) (fun l j σ H' => ∃ (t' r' : Nat → List Nat) (x' : Option V), σ = [some (.ref (A1.at_ .inst)), some (nV i), some v, x0, x'] ∧ ¬ Own A1 S.n l ∧ H' l = some (.lst (nVs (r i))) ∧ Step K H H' A A1 S { S with freed := fset S.freed i true, tg := t', sr := r' } ∧
      (∀ a b, a < S.n → (b ∈ t' a ↔ b ∈ S.tg a ∧ ¬ ((a = i ∧ b ∈ S.tg i) ∨ (b = i ∧ a ∈ (r i).take j)))) ∧ (∀ a b, b < S.n → (a ∈ r' b ↔ a ∈ S.sr b ∧ ¬ ((a = i ∧ b ∈ S.tg i) ∨ (b = i ∧ a ∈ (r i).take j))))) (fun l H3 nl e3 hl => ⟨t, r, none, rfl, fresh h2 rfl nl, hl, st.to e3, fun a b ha => by rw [q1 a b ha]; simp, fun a b hb => by rw [q2 a b hb]; simp⟩) (fun l j σ' H' _ q => ?_) (fun l j x σ' H' hx q => ?_) (fun l σ' H' q => ?_)
    · obtain ⟨_, _, _, _, _, hl, _⟩ := q
      exact sq_of hl
    · obtain ⟨t', r', x', rfl, nl, hl, st, p1, p2⟩ := q
      obtain ⟨hm, rfl⟩ := nVs_at hx
      have hj : j < (r i).length := by
        have := (List.getElem?_eq_some_iff.mp hx).1
        rw [nVs_len] at this
        exact this
      have hm2 := (mr _).mp hm
      have hy := h.wf.srl i _ hi hm2.1
      have hxj := getD_at hj
      have hn := take_not nr hj
      refine loop _ t' r' H' p1 p2 _ i hy hi ((ts _ _ hy hi).mpr hm2.1) (fun z => z.elim (fun z => hm2.2 z.1) fun z => hn z.2) st _ 4 1 _ rfl rfl rfl fun H'' t9 r9 p3 p4 st2 cg => ⟨t9, r9, _, rfl, nl, cg _ _ hl nl, st2, fun a b ha => ?_, fun a b hb => ?_⟩
      · rw [p3 a b ha, take_snoc hxj]
        simp only [List.mem_append, List.mem_singleton]
        constructor <;> rintro ⟨z1, z2⟩ <;> refine ⟨z1, fun z => z2 ?_⟩ <;> grind
      · rw [p4 a b hb, take_snoc hxj]
        simp only [List.mem_append, List.mem_singleton]
        constructor <;> rintro ⟨z1, z2⟩ <;> refine ⟨z1, fun z => z2 ?_⟩ <;> grind
    · obtain ⟨t', r', x', rfl, nl, hl, st, p1, p2⟩ := q
      rw [nVs_len, List.take_length] at p1 p2
      refine k H' A1 t' r' st ⟨fun a b ha => ?_, fun a b ha => ?_⟩
      · rw [p1 a b ha]
        refine and_congr_right fun z => ?_
        have hb := h.wf.tgl a b ha z
        constructor
        · intro y
          have ya : ¬ a = i := fun e => y (.inl ⟨e, e ▸ z⟩)
          exact ⟨ya, fun e => y (.inr ⟨e, (mr a).mpr ⟨(ts a i ha hi).mp (e ▸ z), ya⟩⟩)⟩
        · rintro ⟨y1, y2⟩ (y | y)
          · exact y1 y.1
          · exact y2 y.1
      · rw [p2 b a ha]
        refine and_congr_right fun z => ?_
        have hb := h.wf.srl a b ha z
        have tz := (ts b a hb ha).mpr z
        constructor
        · intro y
          have yb : ¬ b = i := fun e => y (.inl ⟨e, e ▸ tz⟩)
          exact ⟨fun e => y (.inr ⟨e, (mr b).mpr ⟨e ▸ z, yb⟩⟩), yb⟩
        · rintro ⟨y1, y2⟩ (y | y)
          · exact y2 y.1
          · exact y1 y.1
end
end HD
set_option Elab.async false
set_option linter.all false
set_option maxRecDepth 100000
set_option maxHeartbeats 4000000
/-! The methods of a heap that change it (third part): settle, run. -/
namespace HD
open PySem PySem.Spec PyProof.Rows L2 Evl
section
variable {K : PySem.W.Frag} {H : Hp} {A : Rep} {S : HS} {σ : L2.St} {ta tb te td : TE} {t : TT} {D : Ends}
/-- a key among the keys of a dict of marks -/
theorem ev_kIn {a : Addr} {ks : List Nat} {x : Nat} (hy : Ev tb σ H (nV x)) (h : Ev ta σ H (.ref a)) (ha : H a = some (.dK (kD ks))) : Ev (tDIn tb ta) σ H (.bl (decide (x ∈ ks))) := by
  rw [← kD_some]
  exact ev_din hy h (DGet.k (k := Sum.inl (x : Int)) ha)
theorem ev_kNotIn {a : Addr} {ks : List Nat} {x : Nat} (hy : Ev tb σ H (nV x)) (h : Ev ta σ H (.ref a)) (ha : H a = some (.dK (kD ks))) : Ev (tDNotIn tb ta) σ H (.bl (!decide (x ∈ ks))) := by
  rw [← kD_some]
  exact ev_dnotin hy h (DGet.k (k := Sum.inl (x : Int)) ha)
/-- [f(x) for x in a new dict of marks] -/
theorem el_lcKN {Pk : List Nat → Prop} {f : Nat → V} {j : Nat} {vs : List Nat} (h : EvKP td σ H (fun kvs => ∃ ks, kvs = kD ks ∧ Pk ks)) (hz : ∀ ks, Pk ks → ks.length ≤ 40000) (hw : ∀ x, wipe ((wipe σ vs).set j (some x)) vs = wipe σ vs)
    (ht : ∀ (x : Nat) H1, EvT t ((wipe σ vs).set j (some (nV x))) H1 true) (he : ∀ ks, Pk ks → ∀ a ∈ ks, ∀ H1, Ex H H1 → Ev te ((wipe σ vs).set j (some (nV a))) H1 (f a)) :
    EvLP (tLc (iKeysF td) (gName j) t te vs) σ H (fun xs => ∃ ks, Pk ks ∧ xs = ks.map f) := fun H1 e Q q => by
  refine el_lcF (fun _ _ => true) (fun kvs j => match kvs[j]? with | some (Sum.inl z, _) => f z.toNat | _ => .non) h (fun kvs pk => ?_) hw (fun kvs pk i k w H2 e2 hk => ?_) (fun kvs pk i k w H2 e2 hk _ => ?_) H1 e Q (fun xs p H2 px np e2 hp => ?_)
  · obtain ⟨ks, rfl, pk⟩ := pk
    rw [kD_len]
    exact hz ks pk
  · obtain ⟨ks, rfl, pk⟩ := pk
    obtain ⟨b, hb, rfl⟩ := kD_at hk
    exact ht b H2
  · obtain ⟨ks, rfl, pk⟩ := pk
    rw [hk]
    obtain ⟨b, hb, rfl⟩ := kD_at hk
    show Ev _ _ _ (f ((b : Int)).toNat)
    rw [Int.toNat_natCast]
    exact he ks pk b (List.mem_of_getElem? hb) H2 e2
  · obtain ⟨kvs, ⟨ks, rfl, pk⟩, rfl⟩ := px
    refine q _ p H2 ⟨ks, pk, ?_⟩ np e2 hp
    unfold given
    rw [List.filter_eq_self.mpr fun _ _ => rfl, kD_len]
    refine List.ext_getElem? fun j => ?_
    by_cases hj : j < ks.length
    · rw [List.getElem?_map, List.getElem?_range hj, List.getElem?_map, List.getElem?_eq_getElem hj]
      show some (match (kD ks)[j]? with | some (Sum.inl z, _) => f z.toNat | _ => V.non) = _
      unfold kD
      rw [List.getElem?_map, List.getElem?_eq_getElem hj]
      show some (f (((ks[j] : Nat) : Int)).toNat) = _
      rw [Int.toNat_natCast]
      rfl
    · rw [List.getElem?_eq_none (by rw [List.length_map, List.length_range]; omega), List.getElem?_eq_none (by rw [List.length_map]; omega)]
end
theorem EvT.yes {t : TT} {σ : L2.St} (h : ∀ H Q, Q true H → t σ H Q) (H : Hp) : EvT t σ H true := fun H1 _ Q q => h H1 Q (q H1 (Ex.refl H1))
theorem max_of : ∀ {l : List Nat}, l ≠ [] → ∃ m ∈ l, ∀ y ∈ l, y ≤ m
  | [], h => absurd rfl h
  | [a], _ => ⟨a, List.mem_cons_self .., fun y hy => by
    rw [List.mem_singleton] at hy
    omega⟩
  | a :: b :: r, _ => by
    obtain ⟨m, h1, h2⟩ := max_of (l := b :: r) (by simp)
    by_cases h : a ≤ m
    · exact ⟨m, List.mem_cons_of_mem _ h1, fun y hy => by
        rcases List.mem_cons.mp hy with z | z
        · omega
        · exact h2 y z⟩
    · exact ⟨a, List.mem_cons_self .., fun y hy => by
        rcases List.mem_cons.mp hy with z | z
        · omega
        · have := h2 y z
          omega⟩
/-- the greatest generation among the holders -/
def HS.MaxG (S : HS) (i m : Nat) : Prop := (∃ h, Reach S.sr (· = i) h ∧ S.gen h = m) ∧ ∀ h, Reach S.sr (· = i) h → S.gen h ≤ m
def HS.fresh (S : HS) (i : Nat) : Prop := i < S.n ∧ S.death i = none ∧ ¬ Reach S.tg (· ∈ S.roots) i
/-- who died, and the ranks -/
structure Settled (S : HS) (d r : Nat → Option Nat) : Prop where
  new : ∀ i, S.fresh i → d i = some S.time ∧ ∃ m, r i = some m ∧ S.MaxG i m
  old : ∀ i, ¬ S.fresh i → d i = S.death i ∧ r i = S.rank i
section
variable {P : Program} {w : World} {K : PySem.W.Frag} {mg : Str → Option Value} {base : Heap}
theorem HeapAt.notOwn {H : Hp} {A : Rep} {S : HS} {l : Addr} (ha : HeapAt K H A S) (nl : H l = none) : ¬ Own A S.n l := fun o => by
  obtain ⟨b, ob, e⟩ := o
  have := ha.ob b ob
  rw [e, nl] at this
  cases this
theorem sc_H_settle : FnScope ["self", "live", "fresh", "item", "one"] ["self"] (defScope s_H_settle) := ⟨rfl, rfl, rfl, by decide +kernel, rfl, by decide +kernel, by decide +kernel⟩
def sp_H_settle (K : PySem.W.Frag) : Sp := fun vs H Q _ => ∃ A S, vs = [.ref (A.at_ .inst)] ∧ HeapAt K H A S ∧
  ∀ H' d r, Step K H H' A A S { S with death := d, rank := r } → Settled S d r → Q .non H'
theorem ok_H_settle (T : TX K mg) : MethOk P w K mg base (CH K) 4 "settle" ["self"] (sp_H_settle K) := by
  have SC := sc_H_settle
  refine meth_mk (F_H_settle T) (m_H_settle T) sc_H_settle (fun _ _ _ _ _ _ us hl => match us, hl with | [_], _ => rfl) (fun vs H Q E h => ?_) (fun cdv A outer s H vs Q E hr h => ?_)
  · obtain ⟨A, S, rfl, _⟩ := h
    rfl
  · obtain ⟨A, S, rfl, h, k⟩ := h
    have hu := hu_of hr
    refine ⟨_, (pss_cons (ps_set (i := 1) SC.nd rfl (Or.inr rfl) (pg_call (ok_reached_from T) hr (by decide) rfl (pa_cons (kfld (K := K) (pv 0)) (pa_cons (kfld (K := K) (pv 0)) pa_nil))))
    (pss_cons (ps_setLc (i := 2) (own := [("item", 3)]) rfl SC.nd rfl rfl (sw_true rfl rfl rfl (by decide +kernel)) (pi_list (pm_call0 (ok_H_live T) (cls_H T) hr (by decide) (pv 0))) (blkOk_by (own := [("item", 3)]) (N := ["self", "live", "fresh", "item", "one"]) (sc := defScope s_H_settle) (by decide +kernel)) (fun _ _ _ _ _ => (pg_name (i := 3) SC.nd rfl (Or.inl rfl))) (fun _ _ _ _ _ => pts_one (pt_cmp (pc_dnotin hu (pv 3) (pv 1)) rfl)) (fun _ _ _ _ _ => (pv 3)))
    (pss_cons (ps_for PassesOwn.never rfl (pi_list (pv 2)) (pg_name (i := 3) SC.nd rfl (Or.inl rfl))
      (pss_one (ps_asg (kfld (K := K) (pv 0)) (pg_sub (kfld (K := K) (pv 0)) (pv 3) set_list))))
    (pss_one (ps_for PassesOwn.never rfl (pi_list (pv 2)) (pg_name (i := 3) SC.nd rfl (Or.inl rfl))
      (pss_one (ps_asg (pe_callB (cr_max rfl) rfl (b_max T) (by decide +kernel) (pa_cons (pe_lc (own := [("one", 4)]) rfl SC.nd (pi_keysF (pm_call (ok_H_holders T) (cls_H T) hr (by decide) (pv 0) (pa_cons (pv 3) pa_nil))) (blkOk_by (own := [("one", 4)]) (N := ["self", "live", "fresh", "item", "one"]) (sc := defScope s_H_settle) (by decide +kernel)) (fun _ _ _ _ _ => (pg_name (i := 4) SC.nd rfl (Or.inl rfl))) (fun _ _ _ _ _ => pts_nil) (fun _ _ _ _ _ => (pm_call (ok_H_generation_of T) (cls_H T) hr (by decide) (pv 0) (pa_cons (pv 4) pa_nil)))) pa_nil)) (pg_sub (kfld (K := K) (pv 0)) (pv 3) set_list)))))))), ?_⟩
    have n60 := h.wf.n60
    have rlen : S.roots.length ≤ S.n := nd_len h.wf.rn h.wf.rl
    -- live = reached_from(self.root_set, self.targets)
    refine u_seq (u_asg ((ea_cons (evf_roots T h (ev_var rfl)) (ea_cons (evf_targets T h (ev_var rfl)) ea_nil)) H (Ex.refl H) _ fun H1 e1 => ?_))
    obtain ⟨g1, g2, g3⟩ := (h.ex e1).steps_tg
    refine ⟨A.at_ .roots, A.at_ .targets, S.n, fun i => A.at_ (.tg i), S.tg, S.roots, rfl, g1, by omega, by omega, g2, g3, h.wf.rl, .inr ((h.ex e1).ob .roots trivial), fun ks p H2 nd hm np e2 hp => ?_⟩
    show tSeq _ _ _ [some (.ref (A.at_ .inst)), some (.ref p), none, none, none] H2
    have e02 := e1.trans e2
    have h2 := h.ex e02
    have hlen : S.live.length ≤ S.n := len_sel _ _
    -- fresh
    refine q_asgL (el_lcNL (fun i => !decide (S.live.getD i 0 ∈ ks)) (fun i => nV (S.live.getD i 0)) (el_live T h2 (ev_var rfl)) (by rw [nVs_len]; omega) (fun _ => rfl) (fun i x H3 e hx => ?_) (fun i x H3 e hx _ => ?_)) fun l H3 nl e3 hl => ?_
    · obtain ⟨hj, rfl⟩ := nVs_at hx
      exact et_B (ev_kNotIn (ev_var rfl) (ev_var rfl) (e _ _ hp))
    · obtain ⟨hj, rfl⟩ := nVs_at hx
      exact ev_var rfl
    rw [nVs_len, filter_at S.live (fun j => !decide (j ∈ ks))] at hl
    generalize hfr : S.live.filter (fun j => !decide (j ∈ ks)) = fr at hl
    have mfr : ∀ i, i ∈ fr ↔ S.fresh i := fun i => by
      rw [← hfr, List.mem_filter]
      unfold HS.live HS.fresh
      rw [mem_sel, Option.isNone_iff_eq_none, Bool.not_eq_true', decide_eq_false_iff_not, hm]
      exact and_assoc
    have nlo : ¬ Own A S.n l := h2.notOwn nl
    have st0 := Step.ex h (e02.trans e3)
    have flen : fr.length ≤ S.n := by
      rw [← hfr]
      exact Nat.le_trans (List.length_filter_le _ _) hlen
    -- the deaths
    refine q_forLn (ev_var rfl) (sq_of hl) (fun j σ H' => ∃ x, σ = [some (.ref (A.at_ .inst)), some (.ref p), some (.ref l), x, none] ∧ H' l = some (.lst (nVs fr)) ∧ Step K H H' A A S { S with death := fun i => if i ∈ fr.take j then some S.time else S.death i })
      (fun H4 e4 => ⟨none, rfl, e4 _ _ hl, ?_⟩) (fun j σ' H' _ q => let ⟨_, _, z, _⟩ := q; sq_of z) (fun j x σ' H' hx q => ?_) (fun σ' H' q => ?_)
    · have e : ({ S with death := fun i => if i ∈ fr.take 0 then some S.time else S.death i } : HS) = S := by
        have : (fun i => if i ∈ fr.take 0 then some S.time else S.death i) = S.death := by
          funext i
          rw [List.take_zero, if_neg List.not_mem_nil]
        rw [this]
      rw [e]
      exact st0.to e4
    · obtain ⟨x0, rfl, hl, st⟩ := q
      obtain ⟨hj, rfl⟩ := nVs_at hx
      have hjl : j < fr.length := by
        have := (List.getElem?_eq_some_iff.mp hx).1
        rw [nVs_len] at this
        exact this
      have hi := ((mfr _).mp hj).1
      have h4 := st.ha
      refine s_setL (h4.ob .deaths trivial) (evf_time T h4 (ev_var rfl)) (evf_deaths T h4 (ev_var rfl)) (ev_var rfl) (by rw [vl_len]; exact hi) fun H5 e5 => ?_
      have st5 := (st.to e5).trans ((h4.ex e5).putDeath (i := fr.getD j 0) (x := some S.time))
      refine ⟨_, rfl, ?_, ?_⟩
      · rw [upd_ne (fun z => nlo ⟨.deaths, trivial, z.symm⟩)]
        exact e5 _ _ hl
      · have e : fset (fun i => if i ∈ fr.take j then some S.time else S.death i) (fr.getD j 0) (some S.time) = fun i => if i ∈ fr.take (j + 1) then some S.time else S.death i := by
          funext i
          unfold fset
          rw [take_snoc (getD_at hjl)]
          by_cases z : i = fr.getD j 0
          · rw [if_pos z, if_pos (List.mem_append.mpr (.inr (by rw [z]; exact List.mem_singleton.mpr rfl)))]
          · rw [if_neg z]
            show (if i ∈ fr.take j then some S.time else S.death i) = _
            by_cases y : i ∈ fr.take j
            · rw [if_pos y, if_pos (List.mem_append.mpr (.inl y))]
            · rw [if_neg y, if_neg (fun q => (List.mem_append.mp q).elim y fun q => z (List.mem_singleton.mp q))]
        rw [← e]
        exact st5
    obtain ⟨x0, rfl, hl, st⟩ := q
    rw [nVs_len, List.take_length] at st
    generalize hd : (fun i => if i ∈ fr then some S.time else S.death i) = d at st
    -- the ranks
    refine s_forLn (ev_var rfl) (sq_of hl) (fun j σ H' => ∃ x r, σ = [some (.ref (A.at_ .inst)), some (.ref p), some (.ref l), x, none] ∧ H' l = some (.lst (nVs fr)) ∧ Step K H H' A A S { S with death := d, rank := r } ∧
      (∀ i, i ∉ fr.take j → r i = S.rank i) ∧ ∀ i, i ∈ fr.take j → ∃ m, r i = some m ∧ S.MaxG i m)
      (fun H4 e4 => ⟨x0, S.rank, rfl, e4 _ _ hl, st.to e4, fun _ _ => rfl, fun i z => by cases z⟩) (fun j σ' H' _ q => let ⟨_, _, _, z, _⟩ := q; sq_of z) (fun j x σ' H' hx q => ?_) (fun σ' H' q => ?_)
    · obtain ⟨x1, r, rfl, hl, st, q1, q2⟩ := q
      obtain ⟨hj, rfl⟩ := nVs_at hx
      have hjl : j < fr.length := by
        have := (List.getElem?_eq_some_iff.mp hx).1
        rw [nVs_len] at this
        exact this
      have hi := ((mfr _).mp hj).1
      have h4 := st.ha
      have lt : ∀ {y : Nat}, Reach S.sr (· = fr.getD j 0) y → y < S.n := fun z => z.lt (fun x e => by rw [e]; exact hi) h.wf.srl
      refine u_asg (u_cbLP (el_lcKN (Pk := fun ks => ks.Nodup ∧ ∀ x, x ∈ ks ↔ Reach S.sr (· = fr.getD j 0) x) (f := fun y => nV (S.gen y)) (ek_holders T h4 (ev_var rfl) hi (ev_var rfl)) (fun ks pk => ?_) (fun _ => rfl) (fun x H1 => EvT.yes (fun H Q q => q) H1) (fun ks pk a ha H1 e => ?_)) fun xs q H5 px nq e5 hq => ?_)
      · have := nd_len pk.1 fun x hx => lt ((pk.2 x).mp hx)
        omega
      · exact ev_gen T (h4.ex e) (ev_var rfl) (lt ((pk.2 a).mp ha)) (ev_var rfl)
      obtain ⟨ks, ⟨nd, pk⟩, rfl⟩ := px
      have hin : fr.getD j 0 ∈ ks := (pk _).mpr (.start rfl)
      refine ⟨q, (ks.map S.gen).map fun (i : Nat) => (i : Int), rfl, sq_of (by rw [hq, List.map_map, List.map_map]; rfl), ?_, fun m hm hle => ?_⟩
      · rw [List.length_map, List.length_map]
        exact List.length_pos_of_mem hin
      obtain ⟨y, hy, rfl⟩ := List.mem_map.mp hm
      obtain ⟨b, hb, rfl⟩ := List.mem_map.mp hy
      have mg : S.MaxG (fr.getD j 0) (S.gen b) := ⟨⟨b, (pk b).mp hb, rfl⟩, fun c hc => by
        have := hle ((S.gen c : Nat) : Int) (List.mem_map.mpr ⟨_, List.mem_map.mpr ⟨c, (pk c).mpr hc, rfl⟩, rfl⟩)
        omega⟩
      have h5 := h4.ex e5
      refine evf_ranks T h5 (σ := [some (.ref (A.at_ .inst)), some (.ref p), some (.ref l), some (nV (fr.getD j 0)), none]) (ev_var rfl) H5 (Ex.refl H5) _ fun H6 e6 => ev_var (i := 3) rfl H6 (Ex.refl H6) _ fun H7 e7 => ?_
      have h7 := (h5.ex e6).ex e7
      refine ⟨A.at_ .ranks, _, ((fr.getD j 0 : Nat) : Int), fr.getD j 0, rfl, rfl, h7.ob .ranks trivial, ixN_nat (by rw [vl_len]; exact hi), ?_⟩
      have st8 := (((st.to e5).to e6).to e7).trans (h7.putRank (i := fr.getD j 0) (x := some (S.gen b)))
      refine ⟨_, fset r (fr.getD j 0) (some (S.gen b)), rfl, ?_, st8, fun i hi => ?_, fun i hi => ?_⟩
      · rw [upd_ne (fun z => nlo ⟨.ranks, trivial, z.symm⟩)]
        exact e7 _ _ (e6 _ _ (e5 _ _ hl))
      · rw [take_snoc (getD_at hjl)] at hi
        rw [fset_ne _ _ (fun z => hi (List.mem_append.mpr (.inr (List.mem_singleton.mpr z))))]
        exact q1 i fun z => hi (List.mem_append.mpr (.inl z))
      · rw [take_snoc (getD_at hjl)] at hi
        by_cases z : i = fr.getD j 0
        · subst z
          exact ⟨_, fset_same _ _ _, mg⟩
        · rw [fset_ne _ _ z]
          exact q2 i ((List.mem_append.mp hi).elim id fun y => absurd (List.mem_singleton.mp y) z)
    · obtain ⟨x1, r, rfl, hl, st, q1, q2⟩ := q
      rw [nVs_len, List.take_length] at q1 q2
      refine k H' d r st ⟨fun i hi => ⟨?_, q2 i ((mfr i).mpr hi)⟩, fun i hi => ⟨?_, q1 i fun z => hi ((mfr i).mp z)⟩⟩
      · rw [← hd]
        exact if_pos ((mfr i).mpr hi)
      · rw [← hd]
        exact if_neg fun z => hi ((mfr i).mp z)
end
end HD
set_option Elab.async false
set_option linter.all false
set_option maxRecDepth 100000
set_option maxHeartbeats 4000000
/-! The methods of a heap that change it (fourth part): run. -/
namespace HD
open PySem PySem.Spec PyProof.Rows L2 Evl
def HS.fnd (S : HS) (l i : Nat) : Prop := i < S.n ∧ S.death i ≠ none ∧ S.freed i = false ∧ ∃ r, S.rank i = some r ∧ r ≤ l
def HS.rng (S : HS) (l i : Nat) : Prop := S.fnd l i ∧ S.pend i = true
def HS.kpt (S : HS) (l i : Nat) : Prop := Reach S.tg (S.rng l) i
def HS.gon (S : HS) (l i : Nat) : Prop := S.fnd l i ∧ ¬ S.kpt l i
/-- what a run leaves -/
structure Ran (S : HS) (l : Nat) (pe : Nat → Bool) (rk : Nat → Option Nat) (fr : Nat → Bool) (t r : Nat → List Nat) : Prop where
  pend : ∀ i, pe i = true ↔ S.pend i = true ∧ ¬ S.fnd l i
  rk1 : ∀ i, S.fnd l i → S.kpt l i → rk i = some (min (lastOf S.ps) (l + 1))
  rk0 : ∀ i, ¬ (S.fnd l i ∧ S.kpt l i) → rk i = S.rank i
  fr : ∀ i, fr i = true ↔ S.freed i = true ∨ S.gon l i
  cut : Cut S (S.gon l) t r
def HS.RK (S : HS) : Prop := ∀ i, i < S.n → S.death i ≠ none → S.freed i = false → ∃ r, S.rank i = some r
theorem Cut.ts {S : HS} {g : Nat → Prop} {t r : Nat → List Nat} (c : Cut S g t r) (ts : S.TS) : ∀ i j, i < S.n → j < S.n → (j ∈ t i ↔ i ∈ r j) := fun i j hi hj => by
  rw [c.tg i j hi, c.sr j i hj, ts i j hi hj]
  exact and_congr_right fun _ => And.comm
theorem Cut.trans {S : HS} {g g' : Nat → Prop} {t r t' r' : Nat → List Nat} {f : Nat → Bool} {pe : Nat → Bool} {rk : Nat → Option Nat} (c : Cut S g t r) (c' : Cut { S with pend := pe, rank := rk, freed := f, tg := t, sr := r } g' t' r') : Cut S (fun i => g i ∨ g' i) t' r' :=
  ⟨fun a b ha => by
    refine (c'.tg a b ha).trans ?_
    show b ∈ t a ∧ _ ↔ _
    rw [c.tg a b ha]
    exact ⟨fun z => ⟨z.1.1, fun q => q.elim z.1.2.1 z.2.1, fun q => q.elim z.1.2.2 z.2.2⟩, fun z => ⟨⟨z.1, fun q => z.2.1 (.inl q), fun q => z.2.2 (.inl q)⟩, fun q => z.2.1 (.inr q), fun q => z.2.2 (.inr q)⟩⟩, fun a b ha => by
    refine (c'.sr a b ha).trans ?_
    show b ∈ r a ∧ _ ↔ _
    rw [c.sr a b ha]
    exact ⟨fun z => ⟨z.1.1, fun q => q.elim z.1.2.1 z.2.1, fun q => q.elim z.1.2.2 z.2.2⟩, fun z => ⟨⟨z.1, fun q => z.2.1 (.inl q), fun q => z.2.2 (.inl q)⟩, fun q => z.2.1 (.inr q), fun q => z.2.2 (.inr q)⟩⟩⟩
theorem Cut.congr {S : HS} {g g' : Nat → Prop} {t r : Nat → List Nat} (c : Cut S g t r) (h : ∀ i, g i ↔ g' i) : Cut S g' t r :=
  ⟨fun a b ha => by rw [c.tg a b ha, h a, h b], fun a b ha => by rw [c.sr a b ha, h a, h b]⟩
section
variable {P : Program} {w : World} {K : PySem.W.Frag} {mg : Str → Option Value} {base : Heap}
theorem q_free (T : TX K mg) {H : Hp} {A : Rep} {S : HS} {σ : L2.St} {ta tb tc : TE} {E : XK} {D : Ends} {i : Nat} {v : V} (h : HeapAt K H A S) (ts : S.TS) (e : Ev ta σ H (.ref (A.at_ .inst))) (hi : i < S.n) (e2 : Ev tb σ H (nV i)) (e3 : Ev tc σ H v)
    (k : ∀ H' A' t r, Step K H H' A A' S { S with freed := fset S.freed i true, tg := t, sr := r } → Cut S (· = i) t r → D.nx σ H') :
    tDrop (tMeth (CH K) "free" (sp_H_free K) [] E ta (tCons tb (tCons tc tNil))) D σ H :=
  e H (Ex.refl H) _ fun H1 e1 => ⟨_, A.dx, _, rfl, e1 _ _ (h.ob .inst trivial), hm_free A S.time, (ea_cons e2 (ea_cons e3 ea_nil)) H1 e1 _ fun H2 e12 => ⟨A, S, i, v, rfl, h.ex (e1.trans e12), hi, ts, fun H' A' t r st c => k H' A' t r ((Step.ex h (e1.trans e12)).trans st) c⟩⟩
theorem sc_H_run : FnScope ["self", "level", "kind", "found", "running", "kept", "item"] ["self", "level", "kind"] (defScope s_H_run) := ⟨rfl, rfl, rfl, by decide +kernel, rfl, by decide +kernel, by decide +kernel⟩
def sp_H_run (K : PySem.W.Frag) : Sp := fun vs H Q _ => ∃ A S l v, vs = [.ref (A.at_ .inst), nV l, v] ∧ HeapAt K H A S ∧ S.TS ∧ S.RK ∧
  ∀ H' A' pe rk fr t r, Step K H H' A A' S { S with pend := pe, rank := rk, freed := fr, tg := t, sr := r } → Ran S l pe rk fr t r → Q .non H'
theorem ok_H_run (T : TX K mg) : MethOk P w K mg base (CH K) 3 "run" ["self", "level", "kind"] (sp_H_run K) := by
  have SC := sc_H_run
  refine meth_mk (F_H_run T) (m_H_run T) sc_H_run (fun _ _ _ _ _ _ us hl => match us, hl with | [_, _, _], _ => rfl) (fun vs H Q E h => ?_) (fun cdv A outer s H vs Q E hr h => ?_)
  · obtain ⟨A, S, l, v, rfl, _⟩ := h
    rfl
  · obtain ⟨A, S, lv, v, rfl, h, ts, rk, k⟩ := h
    have hu := hu_of hr
    refine ⟨_, (pss_cons (ps_setLc (i := 3) (own := [("item", 6)]) rfl SC.nd rfl rfl (sw_true rfl rfl rfl (by decide +kernel)) (pi_list (pm_call0 (ok_H_dead T) (cls_H T) hr (by decide) (pv 0))) (blkOk_by (own := [("item", 6)]) (N := ["self", "level", "kind", "found", "running", "kept", "item"]) (sc := defScope s_H_run) (by decide +kernel)) (fun _ _ _ _ _ => (pg_name (i := 6) SC.nd rfl (Or.inl rfl))) (fun _ _ _ _ _ => pts_one (pt_cmpR op_le (kix (K := K) (kfld (K := K) (pv 0)) (pv 6)) (pv 1) (nomark _))) (fun _ _ _ _ _ => (pv 6)))
    (pss_cons (ps_setLc (i := 4) (own := [("item", 6)]) rfl SC.nd rfl rfl (sw_true rfl rfl rfl (by decide +kernel)) (pi_list (pv 3)) (blkOk_by (own := [("item", 6)]) (N := ["self", "level", "kind", "found", "running", "kept", "item"]) (sc := defScope s_H_run) (by decide +kernel)) (fun _ _ _ _ _ => (pg_name (i := 6) SC.nd rfl (Or.inl rfl))) (fun _ _ _ _ _ => pts_one (pt_val (kix (K := K) (kfld (K := K) (pv 0)) (pv 6)))) (fun _ _ _ _ _ => (pv 6)))
    (pss_cons (ps_set (i := 5) SC.nd rfl (Or.inl rfl) (pg_call (ok_reached_from T) hr (by decide) rfl (pa_cons (pv 4) (pa_cons (kfld (K := K) (pv 0)) pa_nil))))
    (pss_cons (ps_for PassesOwn.never rfl (pi_list (pv 4)) (pg_name (i := 6) SC.nd rfl (Or.inl rfl))
      (pss_one (ps_asg pe_bl (pg_sub (kfld (K := K) (pv 0)) (pv 6) set_list))))
    (pss_one (ps_for PassesOwn.never rfl (pi_list (pv 3)) (pg_name (i := 6) SC.nd rfl (Or.inl rfl))
      (pss_cons (ps_if (pt_cmp (pc_isN (kix (K := K) (kfld (K := K) (pv 0)) (pv 6))))
      (pss_one (ps_asg (pe_tup (pa_cons (kfld (K := K) (pv 0)) (pa_cons (pv 2) pa_nil))) (pg_sub (kfld (K := K) (pv 0)) (pv 6) set_list)))
      pss_nil)
    (pss_one (ps_if (pt_cmp (pc_din hu (pv 6) (pv 5)) rfl)
      (pss_one (ps_asg (pe_callB (call_min2 rfl) rfl (b_min T) (by decide +kernel) (pa_cons (pm_call0 (ok_S_last T) (cls_S T) hr (by decide) (kfld (K := K) (pv 0))) (pa_cons (pe_op op_add (pv 1) pe_int) pa_nil))) (pg_sub (kfld (K := K) (pv 0)) (pv 6) set_list)))
      (pss_one (ps_expr (pm_call (ok_H_free T) (cls_H T) hr (by decide) (pv 0) (pa_cons (pv 6) (pa_cons (pv 2) pa_nil)))))))))))))), ?_⟩
    have n60 := h.wf.n60
    have dlen : S.dead.length ≤ S.n := len_sel _ _
    -- found
    refine q_asgL (el_lcNL (fun i => decide ((S.rank (S.dead.getD i 0)).getD 0 ≤ lv)) (fun i => nV (S.dead.getD i 0)) (el_dead T h (ev_var rfl)) (by rw [nVs_len]; omega) (fun _ => rfl) (fun i x H3 e hx => ?_) (fun i x H3 e hx _ => ?_)) fun l1 H1 nl1 e1 hl1 => ?_
    · obtain ⟨hj, rfl⟩ := nVs_at hx
      obtain ⟨u1, u2, u3⟩ := mem_dead.mp hj
      obtain ⟨r, hr⟩ := rk _ u1 u2 u3
      have q := evi_ranks T (h.ex e) (σ := [some (.ref (A.at_ .inst)), some (nV lv), some v, none, none, none, some (nV (S.dead.getD i 0))]) (ta := tVar 0) (tb := tVar 6) (ev_var rfl) u1 (ev_var rfl)
      rw [hr] at q ⊢
      exact et_test (ev_op q (ev_var rfl) rv_leN)
    · obtain ⟨hj, rfl⟩ := nVs_at hx
      exact ev_var rfl
    rw [nVs_len, filter_at S.dead (fun j => decide ((S.rank j).getD 0 ≤ lv))] at hl1
    generalize hfd : S.dead.filter (fun j => decide ((S.rank j).getD 0 ≤ lv)) = fd at hl1
    have mfd : ∀ i, i ∈ fd ↔ S.fnd lv i := fun i => by
      rw [← hfd, List.mem_filter, mem_dead, decide_eq_true_eq]
      constructor
      · rintro ⟨⟨u1, u2, u3⟩, u4⟩
        obtain ⟨r, hr⟩ := rk i u1 u2 u3
        rw [hr] at u4
        exact ⟨u1, u2, u3, r, hr, u4⟩
      · rintro ⟨u1, u2, u3, r, hr, u4⟩
        rw [hr]
        exact ⟨⟨u1, u2, u3⟩, u4⟩
    have fdn : fd.Nodup := by
      rw [← hfd]
      exact (nd_sel _ _).filter _
    have flen : fd.length ≤ S.n := by
      rw [← hfd]
      exact Nat.le_trans (List.length_filter_le _ _) dlen
    have h1 := h.ex e1
    -- running
    refine q_asgL (el_lcL (fun i => S.pend (fd.getD i 0)) (fun i => nV (fd.getD i 0)) (ev_var rfl) (sq_of hl1) (by rw [nVs_len]; omega) (fun _ => rfl) (fun i x H3 e hx => ?_) (fun i x H3 e hx _ => ?_)) fun l2 H2 nl2 e2 hl2 => ?_
    · obtain ⟨hj, rfl⟩ := nVs_at hx
      exact et_B (evi_pending T (h1.ex e) (ev_var rfl) ((mfd _).mp hj).1 (ev_var rfl))
    · obtain ⟨hj, rfl⟩ := nVs_at hx
      exact ev_var rfl
    rw [nVs_len, filter_at fd S.pend] at hl2
    generalize hrn : fd.filter S.pend = rn at hl2
    have mrn : ∀ i, i ∈ rn ↔ S.rng lv i := fun i => by
      rw [← hrn, List.mem_filter, mfd]
      rfl
    have rlen : rn.length ≤ S.n := by
      rw [← hrn]
      exact Nat.le_trans (List.length_filter_le _ _) flen
    have h2 := h1.ex e2
    -- kept = reached_from(running, self.targets)
    refine u_seq (u_asg ((ea_cons (ev_var rfl) (ea_cons (evf_targets T h2 (ev_var rfl)) ea_nil)) H2 (Ex.refl H2) _ fun H3 e3 => ?_))
    obtain ⟨g1, g2, g3⟩ := (h2.ex e3).steps_tg
    refine ⟨l2, A.at_ .targets, S.n, fun i => A.at_ (.tg i), S.tg, rn, rfl, g1, by omega, by omega, g2, g3, fun i hi => ((mrn i).mp hi).1.1, .inl (sq_of (e3 _ _ hl2)), fun ks p H4 nd hm np e4 hp => ?_⟩
    show tSeq _ _ _ [some (.ref (A.at_ .inst)), some (nV lv), some v, some (.ref l1), some (.ref l2), some (.ref p), none] H4
    have mks : ∀ i, i ∈ ks ↔ S.kpt lv i := fun i => (hm i).trans (Reach.congr mrn)
    have e24 := e3.trans e4
    have h4 := h2.ex e24
    have no1 : ¬ Own A S.n l1 := h.notOwn nl1
    have no2 : ¬ Own A S.n l2 := h1.notOwn nl2
    have nop : ¬ Own A S.n p := (h2.ex e3).notOwn np
    have hl1 := e24 _ _ (e2 _ _ hl1)
    have hl2 := e24 _ _ hl2
    have st4 := Step.ex h ((e1.trans e2).trans e24)
    clear g1 g2 g3 hm
    -- the finalizers
    refine q_forLn (ev_var rfl) (sq_of hl2) (fun j σ H' => ∃ x, σ = [some (.ref (A.at_ .inst)), some (nV lv), some v, some (.ref l1), some (.ref l2), some (.ref p), x] ∧ Step K H4 H' A A S { S with pend := fun i => if i ∈ rn.take j then false else S.pend i })
      (fun H5 e5 => ⟨none, rfl, ?_⟩) (fun j σ' H' _ q => let ⟨_, _, z⟩ := q; sq_of (z.chg _ _ hl2 no2)) (fun j x σ' H' hx q => ?_) (fun σ' H' q => ?_)
    · have e : ({ S with pend := fun i => if i ∈ rn.take 0 then false else S.pend i } : HS) = S := by
        have : (fun i => if i ∈ rn.take 0 then false else S.pend i) = S.pend := by
          funext i
          rw [List.take_zero, if_neg List.not_mem_nil]
        rw [this]
      rw [e]
      exact Step.ex h4 e5
    · obtain ⟨x0, rfl, st⟩ := q
      obtain ⟨hj, rfl⟩ := nVs_at hx
      have hjl : j < rn.length := by
        have := (List.getElem?_eq_some_iff.mp hx).1
        rw [nVs_len] at this
        exact this
      have hi := ((mrn _).mp hj).1.1
      have h5 := st.ha
      refine s_setL (h5.ob .pending trivial) ev_c (evf_pending T h5 (ev_var rfl)) (ev_var rfl) (by rw [vl_len]; exact hi) fun H6 e6 => ?_
      have st6 := (st.to e6).trans ((h5.ex e6).putPend (i := rn.getD j 0) (x := false))
      refine ⟨_, rfl, ?_⟩
      have e : fset (fun i => if i ∈ rn.take j then false else S.pend i) (rn.getD j 0) false = fun i => if i ∈ rn.take (j + 1) then false else S.pend i := by
        funext i
        unfold fset
        rw [take_snoc (getD_at hjl)]
        by_cases z : i = rn.getD j 0
        · rw [if_pos z, if_pos (List.mem_append.mpr (.inr (by rw [z]; exact List.mem_singleton.mpr rfl)))]
        · rw [if_neg z]
          show (if i ∈ rn.take j then false else S.pend i) = _
          by_cases y : i ∈ rn.take j
          · rw [if_pos y, if_pos (List.mem_append.mpr (.inl y))]
          · rw [if_neg y, if_neg (fun q => (List.mem_append.mp q).elim y fun q => z (List.mem_singleton.mp q))]
      rw [← e]
      exact st6
    obtain ⟨x0, rfl, st⟩ := q
    rw [nVs_len, List.take_length] at st
    generalize hpe : (fun i => if i ∈ rn then false else S.pend i) = pe at st
    have mpe : ∀ i, pe i = true ↔ S.pend i = true ∧ ¬ S.fnd lv i := fun i => by
      rw [← hpe]
      show (if i ∈ rn then false else S.pend i) = true ↔ _
      by_cases z : i ∈ rn
      · rw [if_pos z]
        have := (mrn i).mp z
        exact ⟨fun q => (nomatch q), fun q => absurd this.1 q.2⟩
      · rw [if_neg z]
        exact ⟨fun q => ⟨q, fun y => z ((mrn i).mpr ⟨y, q⟩)⟩, fun q => q.1⟩
    -- each found
    refine s_forLn (ev_var rfl) (sq_of (st.chg _ _ hl1 no1)) (fun j σ H' => ∃ x A' rk' fr' t r, σ = [some (.ref (A'.at_ .inst)), some (nV lv), some v, some (.ref l1), some (.ref l2), some (.ref p), x] ∧ Step K H4 H' A A' S { S with pend := pe, rank := rk', freed := fr', tg := t, sr := r } ∧
      (∀ i, i ∈ fd.take j → i ∈ ks → rk' i = some (min (lastOf S.ps) (lv + 1))) ∧ (∀ i, ¬ (i ∈ fd.take j ∧ i ∈ ks) → rk' i = S.rank i) ∧ (∀ i, fr' i = true ↔ S.freed i = true ∨ (i ∈ fd.take j ∧ ¬ i ∈ ks)) ∧ Cut S (fun i => i ∈ fd.take j ∧ ¬ i ∈ ks) t r)
      (fun H5 e5 => ⟨x0, A, S.rank, S.freed, S.tg, S.sr, rfl, st.to e5, fun i z => (by cases z), fun _ _ => rfl, fun i => ⟨.inl, fun z => z.elim id fun q => (by cases q.1)⟩, ⟨fun a b ha => ⟨fun z => ⟨z, fun q => (by cases q.1), fun q => (by cases q.1)⟩, fun z => z.1⟩, fun a b ha => ⟨fun z => ⟨z, fun q => (by cases q.1), fun q => (by cases q.1)⟩, fun z => z.1⟩⟩⟩)
      (fun j σ' H' _ q => let ⟨_, _, _, _, _, _, _, z, _⟩ := q; sq_of (z.chg _ _ hl1 no1)) (fun j x σ' H' hx q => ?_) (fun σ' H' q => ?_)
    · obtain ⟨x1, A5, rk', fr', t, r, rfl, st5, q1, q2, q3, q4⟩ := q
      obtain ⟨hj, rfl⟩ := nVs_at hx
      have hjl : j < fd.length := by
        have := (List.getElem?_eq_some_iff.mp hx).1
        rw [nVs_len] at this
        exact this
      have hi := ((mfd _).mp hj).1
      have tk := take_snoc (getD_at hjl)
      have ntk := take_not fdn hjl
      generalize hxi : fd.getD j 0 = i at hj hi tk ntk
      have h5 := st5.ha
      obtain ⟨fv, hfv⟩ : ∃ fv, A5.fo[i]? = some fv := ⟨_, List.getElem?_eq_getElem (by rw [h5.fol]; exact hi)⟩
      -- what follows the first if
      have rest : ∀ H6 A6, Step K H4 H6 A A6 S { S with pend := pe, rank := rk', freed := fr', tg := t, sr := r } → A6.at_ .inst = A5.at_ .inst → ∀ D : Ends, (∀ H' A' rk'' fr'' t' r', Step K H4 H' A A' S { S with pend := pe, rank := rk'', freed := fr'', tg := t', sr := r' } → A'.at_ .inst = A5.at_ .inst →
          (∀ a, a ∈ fd.take (j + 1) → a ∈ ks → rk'' a = some (min (lastOf S.ps) (lv + 1))) → (∀ a, ¬ (a ∈ fd.take (j + 1) ∧ a ∈ ks) → rk'' a = S.rank a) → (∀ a, fr'' a = true ↔ S.freed a = true ∨ (a ∈ fd.take (j + 1) ∧ ¬ a ∈ ks)) → Cut S (fun a => a ∈ fd.take (j + 1) ∧ ¬ a ∈ ks) t' r' →
          D.nx [some (.ref (A5.at_ .inst)), some (nV lv), some v, some (.ref l1), some (.ref l2), some (.ref p), some (nV i)] H') →
          tIfS (tB (tDIn (tVar 6) (tVar 5))) (tAsg (tCB (fun xs H Q => ∃ i j, xs = [.int i, .int j] ∧ Q (.int (if j < i then j else i)) H) (tCons (tMeth (CS K) "last" (sp_S_last K) [] E0 (tFld K (tVar 0) "kept_scheme") tNil) (tCons (tOp (rI0 fun i j => .int (i + j)) (tVar 1) (tC (.int 1))) tNil))) (gSub (tFld K (tVar 0) "ranks") (tVar 6) rSetL))
            (tDrop (tMeth (CH K) "free" (sp_H_free K) [] E0 (tVar 0) (tCons (tVar 6) (tCons (tVar 2) tNil)))) D [some (.ref (A5.at_ .inst)), some (nV lv), some v, some (.ref l1), some (.ref l2), some (.ref p), some (nV i)] H6 := by
        intro H6 A6 st6 in6 D kk
        rw [← in6]
        have h6 := st6.ha
        have hp6 := st6.chg _ _ hp nop
        refine s_if (b := decide (i ∈ ks)) (et_B (ev_kIn (ev_var rfl) (ev_var rfl) hp6)) (fun hb H7 e7 => ?_) (fun hb H7 e7 => ?_)
        · have hik : i ∈ ks := of_decide_eq_true hb
          have h7 := h6.ex e7
          refine s_setL (h7.ob .ranks trivial) (ev_min2N (ea_cons (ev_last (evf_sc T h7 (ev_var rfl)) h7.scheme h7.wf.p.len) (ea_cons (ev_op (ev_var rfl) ev_c rv_add1) ea_nil))) (evf_ranks T h7 (ev_var rfl)) (ev_var rfl) (by rw [vl_len]; exact hi) fun H8 e8 => ?_
          rw [in6]
          refine kk _ _ _ _ _ _ (((st6.to e7).to e8).trans ((h7.ex e8).putRank (i := i) (x := some (min (lastOf S.ps) (lv + 1))))) in6 (fun a ha hk => ?_) (fun a ha => ?_) (fun a => ?_) (q4.congr fun a => ?_)
          · show fset rk' i (some (min (lastOf S.ps) (lv + 1))) a = _
            by_cases z : a = i
            · rw [z, fset_same]
            · rw [fset_ne _ _ z]
              rw [tk] at ha
              exact q1 a ((List.mem_append.mp ha).elim id fun q => absurd (List.mem_singleton.mp q) z) hk
          · show fset rk' i (some (min (lastOf S.ps) (lv + 1))) a = _
            by_cases z : a = i
            · subst z
              exact absurd ⟨by rw [tk]; exact List.mem_append.mpr (.inr (List.mem_singleton.mpr rfl)), hik⟩ ha
            · rw [fset_ne _ _ z]
              exact q2 a fun q => ha ⟨by rw [tk]; exact List.mem_append.mpr (.inl q.1), q.2⟩
          · rw [q3 a, tk]
            refine or_congr Iff.rfl ⟨fun q => ⟨List.mem_append.mpr (.inl q.1), q.2⟩, fun q => ⟨(List.mem_append.mp q.1).elim id fun z => ?_, q.2⟩⟩
            rw [List.mem_singleton.mp z] at q
            exact absurd hik q.2
          · rw [tk]
            refine ⟨fun q => ⟨List.mem_append.mpr (.inl q.1), q.2⟩, fun q => ⟨(List.mem_append.mp q.1).elim id fun z => ?_, q.2⟩⟩
            rw [List.mem_singleton.mp z] at q
            exact absurd hik q.2
        · have hik : ¬ i ∈ ks := of_decide_eq_false hb
          have h7 := h6.ex e7
          refine q_free T h7 (q4.ts ts) (ev_var rfl) hi (ev_var rfl) (ev_var rfl) fun H8 A8 t8 r8 st8 c8 => ?_
          rw [in6]
          refine kk _ _ _ _ _ _ ((st6.to e7).trans st8) (st8.inst.trans in6) (fun a ha hk => ?_) (fun a ha => ?_) (fun a => ?_) ((q4.trans c8).congr fun a => ?_)
          · rw [tk] at ha
            exact q1 a ((List.mem_append.mp ha).elim id fun q => absurd (List.mem_singleton.mp q ▸ hk) hik) hk
          · exact q2 a fun q => ha ⟨by rw [tk]; exact List.mem_append.mpr (.inl q.1), q.2⟩
          · show fset fr' i true a = true ↔ _
            by_cases z : a = i
            · subst z
              rw [fset_same, tk]
              exact ⟨fun _ => .inr ⟨List.mem_append.mpr (.inr (List.mem_singleton.mpr rfl)), hik⟩, fun _ => rfl⟩
            · rw [fset_ne _ _ z, q3 a, tk]
              exact or_congr Iff.rfl ⟨fun q => ⟨List.mem_append.mpr (.inl q.1), q.2⟩, fun q => ⟨(List.mem_append.mp q.1).elim id fun y => absurd (List.mem_singleton.mp y) z, q.2⟩⟩
          · rw [tk]
            constructor
            · rintro (q | q)
              · exact ⟨List.mem_append.mpr (.inl q.1), q.2⟩
              · subst q
                exact ⟨List.mem_append.mpr (.inr (List.mem_singleton.mpr rfl)), hik⟩
            · rintro ⟨q, y⟩
              rcases List.mem_append.mp q with z | z
              · exact .inl ⟨z, y⟩
              · exact .inr (List.mem_singleton.mp z)
      have fin : ∀ H' A' rk'' fr'' t' r', Step K H4 H' A A' S { S with pend := pe, rank := rk'', freed := fr'', tg := t', sr := r' } → A'.at_ .inst = A5.at_ .inst →
          (∀ a, a ∈ fd.take (j + 1) → a ∈ ks → rk'' a = some (min (lastOf S.ps) (lv + 1))) → (∀ a, ¬ (a ∈ fd.take (j + 1) ∧ a ∈ ks) → rk'' a = S.rank a) → (∀ a, fr'' a = true ↔ S.freed a = true ∨ (a ∈ fd.take (j + 1) ∧ ¬ a ∈ ks)) → Cut S (fun a => a ∈ fd.take (j + 1) ∧ ¬ a ∈ ks) t' r' →
          ∃ x A' rk' fr' t r, [some (.ref (A5.at_ .inst)), some (nV lv), some v, some (.ref l1), some (.ref l2), some (.ref p), some (nV i)] = [some (.ref (A'.at_ .inst)), some (nV lv), some v, some (.ref l1), some (.ref l2), some (.ref p), x] ∧ Step K H4 H' A A' S { S with pend := pe, rank := rk', freed := fr', tg := t, sr := r } ∧
      (∀ i, i ∈ fd.take (j + 1) → i ∈ ks → rk' i = some (min (lastOf S.ps) (lv + 1))) ∧ (∀ i, ¬ (i ∈ fd.take (j + 1) ∧ i ∈ ks) → rk' i = S.rank i) ∧ (∀ i, fr' i = true ↔ S.freed i = true ∨ (i ∈ fd.take (j + 1) ∧ ¬ i ∈ ks)) ∧ Cut S (fun i => i ∈ fd.take (j + 1) ∧ ¬ i ∈ ks) t r :=
        fun H' A' rk'' fr'' t' r' s1 s2 s3 s4 s5 s6 => ⟨_, A', rk'', fr'', t', r', by rw [s2], s1, s3, s4, s5, s6⟩
      show tSeq _ _ _ [some (.ref (A5.at_ .inst)), some (nV lv), some v, some (.ref l1), some (.ref l2), some (.ref p), some (nV i)] H'
      refine q_when (b := decide (fv = .non)) (et_B (ev_isN (ev_op (evf_found T h5 (ev_var rfl)) (ev_var rfl) (rv_ixL (sq_of (h5.ob .found trivial)) (atI_nat hfv))))) (fun _ H6 e6 => ?_) (fun _ H6 e6 => ?_)
      · have h6 := h5.ex e6
        refine s_setU (h6.ob .found trivial) (eu_tup (ea_cons (evf_time T h6 (ev_var rfl)) (ea_cons (ev_var rfl) ea_nil)) (by show 2 ≤ 100000; decide)) (evf_found T h6 (ev_var rfl)) (ev_var rfl) (by rw [h6.fol]; exact hi) fun b H7 e7 => ?_
        exact rest _ _ (((st5.to e6).to e7).trans ((h6.ex e7).putFound (i := i) (v := .ref b))) rfl _ fin
      · exact rest H6 A5 (st5.to e6) rfl _ fin
    · obtain ⟨x1, A5, rk', fr', t, r, rfl, st5, q1, q2, q3, q4⟩ := q
      rw [nVs_len, List.take_length] at q1 q2 q3 q4
      have gg : ∀ i, (i ∈ fd ∧ ¬ i ∈ ks) ↔ S.gon lv i := fun i => by
        rw [mfd, mks]
        rfl
      refine k H' A5 pe rk' fr' t r (st4.trans st5) ⟨mpe, fun i h1 h2 => q1 i ((mfd i).mpr h1) ((mks i).mpr h2), fun i hn => q2 i fun q => hn ⟨(mfd i).mp q.1, (mks i).mp q.2⟩, fun i => ?_, q4.congr gg⟩
      rw [q3 i, gg]
end
end HD
set_option Elab.async false
set_option linter.all false
set_option maxRecDepth 100000
set_option maxHeartbeats 4000000
/-! Many dicts locked for one expression; the references of a heap; the room for one more. -/
namespace HD
open PySem PySem.Spec PyProof.Rows L2 Evl
def tLockN : Nat → TE → TE
  | 0, t => t
  | n + 1, t => tLockE (tLockN n t)
def tLocks (t : TE) : TE := fun σ H Q => ∃ n, tLockN n t σ H Q
theorem pe_lockN {X : Cx} {e : Expr} {t : TE} (h : PE X e t) : ∀ n, PE X e (tLockN n t)
  | 0 => h
  | n + 1 => pe_lock (pe_lockN h n)
theorem pe_locks {X : Cx} {e : Expr} {t : TE} (h : PE X e t) : PE X e (tLocks t) :=
  ⟨fun pins s σ H Q I hw => let ⟨n, hw⟩ := hw; (pe_lockN h n).run pins s σ H Q I hw⟩
/-- locked, unlocked -/
def lkN (D : Nat → Addr) (u : Nat → HO) (od : Nat → Obj) : Nat → Hp → Hp
  | 0, H => H
  | n + 1, H => lkN D u od n (upd H (D n) (.frz (od n) (u n)))
def ulN (D : Nat → Addr) (u : Nat → HO) : Nat → Hp → Hp
  | 0, H => H
  | n + 1, H => upd (ulN D u n H) (D n) (u n)
section
variable {D : Nat → Addr} {u : Nat → HO} {od : Nat → Obj}
theorem lk_ne : ∀ {n : Nat} {H : Hp} {b : Addr}, (∀ i, i < n → b ≠ D i) → lkN D u od n H b = H b
  | 0, H, b, _ => rfl
  | n + 1, H, b, h => by
    show lkN D u od n _ b = _
    rw [lk_ne fun i hi => h i (by omega), upd_ne (h n (by omega))]
theorem lk_at : ∀ {n : Nat} {H : Hp} {i : Nat}, (∀ i j, i < n → j < n → D i = D j → i = j) → i < n → lkN D u od n H (D i) = some (.frz (od i) (u i))
  | n + 1, H, i, inj, hi => by
    show lkN D u od n _ (D i) = _
    by_cases e : i = n
    · subst e
      rw [lk_ne fun j hj z => by have := inj _ _ (by omega) (by omega) z; omega, upd_same]
    · exact lk_at (fun a b ha hb => inj a b (by omega) (by omega)) (by omega)
theorem ul_ne : ∀ {n : Nat} {H : Hp} {b : Addr}, (∀ i, i < n → b ≠ D i) → ulN D u n H b = H b
  | 0, H, b, _ => rfl
  | n + 1, H, b, h => by
    show upd (ulN D u n H) (D n) (u n) b = _
    rw [upd_ne (h n (by omega)), ul_ne fun i hi => h i (by omega)]
theorem ul_at : ∀ {n : Nat} {H : Hp} {i : Nat}, (∀ i j, i < n → j < n → D i = D j → i = j) → i < n → ulN D u n H (D i) = some (u i)
  | n + 1, H, i, inj, hi => by
    show upd (ulN D u n H) (D n) (u n) (D i) = _
    by_cases e : i = n
    · subst e
      exact upd_same
    · rw [upd_ne (fun z => e (inj _ _ (by omega) (by omega) z))]
      exact ul_at (fun a b ha hb => inj a b (by omega) (by omega)) (by omega)
theorem lockN_ok {t : TE} {σ : L2.St} : ∀ {n : Nat} {H : Hp} {Q : VK}, (∀ i j, i < n → j < n → D i = D j → i = j) → (∀ i, i < n → H (D i) = some (u i)) → (∀ i, i < n → Mut (some (u i))) →
    (∀ od, t σ (lkN D u od n H) fun v H' => (∀ i, i < n → H' (D i) = some (.frz (od i) (u i))) ∧ Q v (ulN D u n H')) → tLockN n t σ H Q
  | 0, H, Q, _, _, _, k => by
    have := k (fun _ => default)
    have e : (fun v H' => (∀ i, i < 0 → H' (D i) = some (.frz default (u i))) ∧ Q v (ulN D u 0 H')) = Q := by
      funext v H'
      exact propext ⟨fun z => z.2, fun z => ⟨fun i hi => absurd hi (Nat.not_lt_zero _), z⟩⟩
    rw [e] at this
    exact this
  | n + 1, H, Q, inj, hD, mu, k => by
    refine ⟨D n, u n, hD n (by omega), mu n (by omega), fun o => ?_⟩
    refine lockN_ok (n := n) (fun a b ha hb => inj a b (by omega) (by omega)) (fun i hi => ?_) (fun i hi => mu i (by omega)) fun od => ?_
    · rw [upd_ne (fun z => by have := inj _ _ (by omega) (by omega) z; omega)]
      exact hD i (by omega)
    have := k (fun i => if i = n then o else od i)
    have e : lkN D u (fun i => if i = n then o else od i) (n + 1) H = lkN D u od n (upd H (D n) (.frz o (u n))) := by
      funext b
      show lkN D u (fun i => if i = n then o else od i) n (upd H (D n) (.frz ((fun i => if i = n then o else od i) n) (u n))) b = _
      by_cases hb : ∃ i, i < n ∧ b = D i
      · obtain ⟨i, hi, rfl⟩ := hb
        rw [lk_at (fun a b ha hb => inj a b (by omega) (by omega)) hi, lk_at (fun a b ha hb => inj a b (by omega) (by omega)) hi, if_neg (by omega)]
      · rw [lk_ne fun i hi z => hb ⟨i, hi, z⟩, lk_ne fun i hi z => hb ⟨i, hi, z⟩]
        show upd H (D n) (.frz (if n = n then o else od n) (u n)) b = _
        rw [if_pos rfl]
    rw [e] at this
    have e2 : (fun v H' => (∀ i, i < n + 1 → H' (D i) = some (.frz (if i = n then o else od i) (u i))) ∧ Q v (ulN D u (n + 1) H')) = fun v H' => (∀ i, i < n → H' (D i) = some (.frz (od i) (u i))) ∧ ulN D u n H' (D n) = some (.frz o (u n)) ∧ Q v (upd (ulN D u n H') (D n) (u n)) := by
      funext v H'
      refine propext ⟨fun z => ⟨fun i hi => ?_, ?_, z.2⟩, fun z => ⟨fun i hi => ?_, z.2.2⟩⟩
      · have := z.1 i (by omega)
        rw [if_neg (by omega)] at this
        exact this
      · rw [ul_ne fun i hi q => by have := inj _ _ (by omega) (by omega) q; omega]
        have := z.1 n (by omega)
        rw [if_pos rfl] at this
        exact this
      · by_cases e : i = n
        · subst e
          rw [if_pos rfl]
          have := z.2.1
          rw [ul_ne fun j hj q => by have := inj _ _ (by omega) (by omega) q; omega] at this
          exact this
        · rw [if_neg e]
          exact z.1 i (by omega)
    rw [e2] at this
    exact this
end
/-- a list of pairs of numbers, told by what holds of each -/
def PairsAt (H : Hp) (ys : List V) (p : Nat → Nat → Prop) : Prop := ∀ y ∈ ys, ∃ T a b, y = .ref T ∧ H T = some (.tup [nV a, nV b]) ∧ p a b
theorem PairsAt.snoc {H : Hp} {ys : List V} {p : Nat → Nat → Prop} {T : Addr} {a b : Nat} (h : PairsAt H ys p) (ht : H T = some (.tup [nV a, nV b])) (hp : p a b) : PairsAt H (ys ++ [.ref T]) p := fun y hy => by
  rcases List.mem_append.mp hy with q | q
  · exact h y q
  · rw [List.mem_singleton.mp q]
    exact ⟨T, a, b, rfl, ht, hp⟩
theorem PairsAt.to {H H' : Hp} {ys : List V} {p : Nat → Nat → Prop} (h : PairsAt H ys p) (e : ∀ T o, H T = some (.tup o) → H' T = some (.tup o)) : PairsAt H' ys p := fun y hy => by
  obtain ⟨T, a, b, h1, h2, h3⟩ := h y hy
  exact ⟨T, a, b, h1, e _ _ h2, h3⟩
/-- a new list of pairs, each a reference, few -/
def RetP (S : HS) (H : Hp) (Q : VK) : Prop := ∀ p ys H2, H p = none → Ex H H2 → H2 p = some (.lst ys) → ys.length ≤ S.n * S.n → PairsAt H2 ys (fun a b => a < S.n ∧ b ∈ S.tg a) → Q (.ref p) H2
section
variable {P : Program} {w : World} {K : PySem.W.Frag} {mg : Str → Option Value} {base : Heap}
theorem sc_H_references : FnScope ["self", "one", "others", "other"] ["self"] (defScope s_H_references) := ⟨rfl, rfl, rfl, by decide +kernel, rfl, by decide +kernel, by decide +kernel⟩
def sp_H_references (K : PySem.W.Frag) : Sp := fun vs H Q _ => ∃ A S, vs = [.ref (A.at_ .inst)] ∧ HeapAt K H A S ∧ RetP S H Q
theorem ok_H_references (T : TX K mg) : MethOk P w K mg base (CH K) 1 "references" ["self"] (sp_H_references K) := by
  have SC := sc_H_references
  refine meth_mk (F_H_references T) (m_H_references T) sc_H_references (fun _ _ _ _ _ _ us hl => match us, hl with | [_], _ => rfl) (fun vs H Q E h => ?_) (fun cdv A outer s H vs Q E hr h => ?_)
  · obtain ⟨A, S, rfl, _⟩ := h
    rfl
  · obtain ⟨A, S, rfl, h, k⟩ := h
    refine ⟨_, (pss_one (ps_ret (pe_callB cr_sortedP rfl (b_sorted T) (by decide +kernel) (pa_cons (pe_locks (pe_lc2 (own := [("one", 1), ("others", 2), ("other", 3)]) (vs1 := [3]) rfl SC.nd (pi_enum rfl (b_enumerate T) (pa_cons (kfld (K := K) (pv 0)) pa_nil)) (blkOk_by (own := [("one", 1), ("others", 2), ("other", 3)]) (N := ["self", "one", "others", "other"]) (sc := defScope s_H_references) (by decide +kernel)) (by decide)
      (fun _ _ _ _ _ => (ktup (K := K) 2 rfl (pgs_cons (pg_name (i := 1) SC.nd rfl (Or.inl rfl)) (pgs_cons (pg_name (i := 2) SC.nd rfl (Or.inl rfl)) pgs_nil)))) (fun _ _ _ _ _ => pts_nil)
      (fun _ _ _ _ _ => pi_keys (pv 2)) (fun _ _ _ _ _ => (pg_name (i := 3) SC.nd rfl (Or.inl rfl))) (fun _ _ _ _ _ => pts_nil) (fun _ _ _ _ _ => (pe_tup (pa_cons (pv 1) (pa_cons (pv 3) pa_nil)))))) pa_nil)))), ?_⟩
    have n60 := h.wf.n60
    have inj : ∀ i j, i < S.n → j < S.n → A.at_ (.tg i) = A.at_ (.tg j) → i = j := fun i j hi hj e => by
      have := h.inj (.tg i) (.tg j) hi hj e
      injection this
    refine ⟨S.n, lockN_ok (D := fun i => A.at_ (.tg i)) (u := fun i => .dK (kD (S.tg i))) inj (fun i hi => h.ob (.tg i) hi) (fun i hi => trivial) fun od => ?_⟩
    generalize hHb : lkN (fun i => A.at_ (.tg i)) (fun i => .dK (kD (S.tg i))) od S.n H = Hb
    have bT : ∀ i, i < S.n → Hb (A.at_ (.tg i)) = some (.frz (od i) (.dK (kD (S.tg i)))) := fun i hi => by
      rw [← hHb]
      exact lk_at (D := fun i => A.at_ (.tg i)) inj hi
    have bO : ∀ b, (∀ i, i < S.n → b ≠ A.at_ (.tg i)) → Hb b = H b := fun b hb => by
      rw [← hHb]
      exact lk_ne (D := fun i => A.at_ (.tg i)) hb
    have bL : ∀ l, okL S.n l → (∀ i, l ≠ .tg i) → Hb (A.at_ l) = some (obj K A S l) := fun l hl hn => by
      rw [bO _ fun i hi e => hn i (h.inj l (.tg i) hl hi e)]
      exact h.ob l hl
    refine ev_fld (K := K) (σ := start ["self", "one", "others", "other"] [.ref (A.at_ .inst)]) (ev_var (i := 0) rfl) (bL .inst trivial fun i e => nomatch e) (cls_H T) (no_H_targets T) (hf_targets A S.time) Hb (Ex.refl Hb) _ fun H1 e1 => ?_
    have g1 := e1 _ _ (bL .targets trivial fun i e => nomatch e)
    refine ⟨A.at_ .targets, _, rfl, sq_of g1, fun Dl hD => ?_⟩
    have w := walk_enum (K := K) (a := A.at_ .targets) (xs := vl S.n fun i => .ref (A.at_ (.tg i)))
    have wl : (vl S.n fun i => V.ref (A.at_ (.tg i))).length = S.n := vl_len
    refine ⟨fun i m H' => m = S.n - i ∧ i ≤ S.n ∧ Ex H1 H' ∧ ∃ ys, H' Dl = some (.lst ys) ∧ ys.length ≤ i * S.n ∧ PairsAt H' ys (fun a b => a < S.n ∧ b ∈ S.tg a), ⟨_, rfl, Nat.zero_le _, Ex.new hD, [], upd_same, Nat.zero_le _, fun y hy => by cases hy⟩, ?_⟩
    rintro i m H' ⟨rfl, hi, e', ys, hys, hlen, hpa⟩
    have sq : SqL K H' (A.at_ .targets) (vl S.n fun i => .ref (A.at_ (.tg i))) := sq_of (e' _ _ g1)
    by_cases hlt : i < S.n
    · refine .inr ⟨w.goes i H' (by rw [wl]; exact hlt) sq, fun H2 => Ex H1 H2 ∧ ∃ ys, H2 Dl = some (.lst ys) ∧ ys.length ≤ (i + 1) * S.n ∧ PairsAt H2 ys (fun a b => a < S.n ∧ b ∈ S.tg a), fun H2 p2 => ⟨_, by omega, rfl, hlt, p2⟩, fun x H2 y => ?_⟩
      obtain ⟨T, x1, x2, rfl, hT, rfl, h1, h2⟩ := w.yields i H' x H2 (by rw [wl]; exact hlt) sq y
      cases h1
      have h2 : (vl S.n fun i => V.ref (A.at_ (.tg i)))[i]? = some x2 := h2
      rw [vl_get hlt] at h2
      cases h2
      have nT : Dl ≠ T := fun z => by
        rw [z, hT] at hys
        cases hys
      refine ⟨T, _, rfl, st_of upd_same, rfl, _, _, rfl, _, _, rfl, rfl, rfl, ?_⟩
      unfold tYes
      refine iteT ?_
      show (tVar 2) [some (.ref (A.at_ .inst)), some (.int (i : Nat)), some (.ref (A.at_ (.tg i))), none] _ _
      have e2 : Ex H1 (upd H' T (.tup [.int (i : Nat), .ref (A.at_ (.tg i))])) := e'.trans (Ex.new hT)
      have f2 := e2 _ _ (e1 _ _ (bT i hlt))
      refine ⟨_, rfl, A.at_ (.tg i), od i, rfl, .inl ⟨kD (S.tg i), f2, ?_⟩⟩
      have w1 := walk_keys (d := A.at_ (.tg i)) (o := od i) (kvs := kD (S.tg i))
      have tl : (S.tg i).length ≤ S.n := nd_len (h.wf.tgn i hlt) fun j hj => h.wf.tgl i j hlt hj
      refine ⟨fun j m H3 => m = (S.tg i).length - j ∧ j ≤ (S.tg i).length ∧ Ex H1 H3 ∧ ∃ ys, H3 Dl = some (.lst ys) ∧ ys.length ≤ i * S.n + j ∧ PairsAt H3 ys (fun a b => a < S.n ∧ b ∈ S.tg a), ⟨_, rfl, Nat.zero_le _, e2, ys, by rw [upd_ne nT]; exact hys, hlen, hpa.to fun b o z => by rw [upd_ne (ne_of_none z hT)]; exact z⟩, ?_⟩
      rintro j m H3 ⟨rfl, hj, e3, zs, hzs, hzl, hzp⟩
      have f3 := e3 _ _ (e1 _ _ (bT i hlt))
      by_cases hjl : j < (S.tg i).length
      · refine .inr ⟨w1.goes j H3 (by rw [kD_len]; exact hjl) f3, fun H4 => Ex H1 H4 ∧ ∃ ys, H4 Dl = some (.lst ys) ∧ ys.length ≤ i * S.n + (j + 1) ∧ PairsAt H4 ys (fun a b => a < S.n ∧ b ∈ S.tg a), fun H4 p4 => ⟨_, by omega, rfl, hjl, p4⟩, fun x H4 y => ?_⟩
        obtain ⟨rfl, kk, vv, hk, rfl⟩ := w1.yields j H3 x H4 (by rw [kD_len]; exact hjl) f3 y
        obtain ⟨a, ha, rfl⟩ := kD_at hk
        refine ⟨rfl, ?_⟩
        refine iteT ?_
        show (tTup (tCons (tVar 1) (tCons (tVar 3) tNil))) [some (.ref (A.at_ .inst)), some (.int (i : Nat)), some (.ref (A.at_ (.tg i))), some (nV a)] H4 _
        refine eu_tup (ea_cons (ev_var rfl) (ea_cons (ev_var rfl) ea_nil)) (by show 2 ≤ 100000; decide) H4 (Ex.refl H4) _ fun U H5 hU e5 hU5 => ?_
        have nU : U ≠ Dl := fun z => by
          rw [z, hzs] at hU
          cases hU
        have hb : i * S.n ≤ 60 * 60 := Nat.mul_le_mul (by omega) n60
        refine ⟨zs, e5 _ _ hzs, sz_lt (by omega), Ex.mut (e3.trans e5) hD, zs ++ [.ref U], upd_same, by rw [List.length_append]; show zs.length + 1 ≤ _; omega, ?_⟩
        have tp : ∀ b o, H5 b = some (.tup o) → upd H5 Dl (.lst (zs ++ [.ref U])) b = some (.tup o) := fun b o z => by
          rw [upd_ne (fun q => by rw [q, e5 _ _ hzs] at z; cases z)]
          exact z
        exact ((hzp.to fun b o z => e5 _ _ z).to tp).snoc (tp _ _ hU5) ⟨hlt, List.mem_of_getElem? ha⟩
      · have ej : j = (kD (S.tg i)).length := by rw [kD_len]; omega
        refine .inl ⟨by rw [ej]; exact w1.stops H3 f3, e3, zs, hzs, ?_, hzp⟩
        rw [Nat.succ_mul]
        rw [kD_len] at ej
        omega
    · have ei : i = (vl S.n fun i => V.ref (A.at_ (.tg i))).length := by rw [wl]; omega
      refine .inl ⟨by rw [ei]; exact w.stops H' sq, fun j hj => e' _ _ (e1 _ _ (bT j hj)), ?_⟩
      have nDl : ∀ j, j < S.n → Dl ≠ A.at_ (.tg j) := fun j hj z => by
        rw [z, e1 _ _ (bT j hj)] at hD
        cases hD
      have eU : ∀ b, (∀ j, j < S.n → b ≠ A.at_ (.tg j)) → ulN (fun i => A.at_ (.tg i)) (fun i => .dK (kD (S.tg i))) S.n H' b = H' b := fun b hb => ul_ne (D := fun i => A.at_ (.tg i)) hb
      have tU : ∀ b o, H' b = some (.tup o) → ulN (fun i => A.at_ (.tg i)) (fun i => .dK (kD (S.tg i))) S.n H' b = some (.tup o) := fun b o z => by
        rw [eU b fun j hj q => by rw [q, e' _ _ (e1 _ _ (bT j hj))] at z; cases z]
        exact z
      have xU : Ex H (ulN (fun i => A.at_ (.tg i)) (fun i => .dK (kD (S.tg i))) S.n H') := fun b o hb => by
        by_cases hq : ∃ j, j < S.n ∧ b = A.at_ (.tg j)
        · obtain ⟨j, hj, rfl⟩ := hq
          rw [ul_at (D := fun i => A.at_ (.tg i)) inj hj]
          rw [h.ob (.tg j) hj] at hb
          exact hb
        · have hq' : ∀ j, j < S.n → b ≠ A.at_ (.tg j) := fun j hj z => hq ⟨j, hj, z⟩
          rw [eU b hq']
          exact e' _ _ (e1 _ _ (by rw [bO b hq']; exact hb))
      have hpU := hpa.to tU
      refine ⟨Dl, ys, rfl, sq_of (by rw [eU Dl nDl]; exact hys), fun y hy => ?_, fun zs p hp hnp => ?_⟩
      · obtain ⟨T, a, b, h1, h2, _⟩ := hpU y hy
        exact ⟨T, _, _, h1, h2⟩
      · refine k p zs _ (fresh_back xU hnp) (xU.trans (Ex.new hnp)) upd_same ?_ fun y hy => ?_
        · rw [hp.length_eq]
          exact Nat.le_trans hlen (Nat.mul_le_mul hi (Nat.le_refl _))
        · obtain ⟨T, a, b, h1, h2, h3⟩ := hpU y (hp.mem_iff.mp hy)
          exact ⟨T, a, b, h1, by rw [upd_ne (ne_of_none h2 hnp)]; exact h2, h3⟩
end
end HD
set_option Elab.async false
set_option linter.all false
set_option maxRecDepth 100000
set_option maxHeartbeats 4000000
/-! The actions of a heap (first part): refer, clear, hold, drop, force. -/
namespace HD
open PySem PySem.Spec PyProof.Rows L2 Evl
section
variable {P : Program} {w : World} {K : PySem.W.Frag} {mg : Str → Option Value} {base : Heap}
section
variable {H : Hp} {A : Rep} {S : HS} {σ : L2.St} {ta tb te tc : TE} {E : XK} {D : Ends}
theorem ev_check_live (T : TX K mg) {is : List Nat} (h : HeapAt K H A S) (e : Ev ta σ H (.ref (A.at_ .inst))) (hi : ∀ i ∈ is, i < S.n ∧ S.death i = none) (e2 : EvL te σ H (nVs is)) :
    Ev (tMeth (CH K) "check_live" (sp_H_check_live K) [] E ta (tCons te tNil)) σ H .non := fun H1 e1 Q q =>
  e H1 e1 _ fun H2 e12 => ⟨_, A.dx, _, rfl, e12 _ _ (e1 _ _ (h.ob .inst trivial)), hm_check_live A S.time, e2 H2 (e1.trans e12) _ fun p H3 np e23 hp => ⟨A, S, p, is, rfl, h.ex ((e1.trans e12).trans e23), sq_of hp, hi, fun H4 e4 => q H4 ((e12.trans e23).trans e4)⟩⟩
theorem q_settle (T : TX K mg) (h : HeapAt K H A S) (e : Ev ta σ H (.ref (A.at_ .inst))) (k : ∀ H' d r, Step K H H' A A S { S with death := d, rank := r } → Settled S d r → D.nx σ H') :
    tDrop (tMeth (CH K) "settle" (sp_H_settle K) [] E ta tNil) D σ H :=
  e H (Ex.refl H) _ fun H1 e1 => ⟨_, A.dx, _, rfl, e1 _ _ (h.ob .inst trivial), hm_settle A S.time, ⟨A, S, rfl, h.ex e1, fun H' d r st s => k H' d r ((Step.ex h e1).trans st) s⟩⟩
theorem q_run (T : TX K mg) {l : Nat} {v : V} (h : HeapAt K H A S) (ts : S.TS) (rk : S.RK) (e : Ev ta σ H (.ref (A.at_ .inst))) (e2 : Ev tb σ H (nV l)) (e3 : Ev tc σ H v) (k : ∀ H' A' pe rk fr t r, Step K H H' A A' S { S with pend := pe, rank := rk, freed := fr, tg := t, sr := r } → Ran S l pe rk fr t r → D.nx σ H') :
    tDrop (tMeth (CH K) "run" (sp_H_run K) [] E ta (tCons tb (tCons tc tNil))) D σ H :=
  e H (Ex.refl H) _ fun H1 e1 => ⟨_, A.dx, _, rfl, e1 _ _ (h.ob .inst trivial), hm_run A S.time, (ea_cons e2 (ea_cons e3 ea_nil)) H1 e1 _ fun H2 e12 => ⟨A, S, l, v, rfl, h.ex (e1.trans e12), ts, rk, fun H' A' pe rk fr t r st s => k H' A' pe rk fr t r ((Step.ex h (e1.trans e12)).trans st) s⟩⟩
/-- few references -/
theorem et_refs (T : TX K mg) (h : HeapAt K H A S) (hn : S.n ≤ 14) (e : Ev ta σ H (.ref (A.at_ .inst))) :
    EvT (tTest (tOp (rI0 fun i j => .bl (decide (i ≥ j))) (tCB (rLenS K) (tCons (tMeth (CH K) "references" (sp_H_references K) [] E ta tNil) tNil)) (tC (.int 200)))) σ H false := fun H1 e1 Q q =>
  e H1 e1 _ fun H2 e2 => ⟨_, A.dx, _, rfl, e2 _ _ (e1 _ _ (h.ob .inst trivial)), hm_references A S.time, ⟨A, S, rfl, (h.ex e1).ex e2, fun p ys H3 np e3 hp hl _ => ⟨p, ys, rfl, .inl (sq_of hp), by
    refine ⟨_, _, rfl, rfl, false, ?_, q H3 (e2.trans e3)⟩
    have : S.n * S.n ≤ 14 * 14 := Nat.mul_le_mul hn hn
    exact congrArg V.bl (decide_eq_false (by omega))⟩⟩⟩
theorem HeapAt.putRoots (h : HeapAt K H A S) {l : List Nat} (h1 : l.Nodup) (h2 : ∀ i ∈ l, i < S.n) : Step K H (upd H (A.at_ .roots) (.dK (kD l))) A A S { S with roots := l } := by
  refine h.put0 .roots trivial rfl rfl (fun l' hl' => ?_) ⟨h.wf.ps1, h.wf.pos, h.wf.n60, h.wf.psn, h.wf.psb, h.wf.tb, h.wf.tgn, h.wf.srn, h.wf.tgl, h.wf.srl, h1, h2⟩ rfl rfl
  cases l' <;> first | rfl | exact absurd rfl hl'
theorem HeapAt.putTime (h : HeapAt K H A S) {t : Nat} (ht : t < 2 ^ 300) : Step K H (upd H (A.at_ .inst) (.ins (CH K) A.dx (hpF A t))) A A S { S with time := t } := by
  refine h.put0 .inst trivial rfl rfl (fun l' hl' => ?_) ⟨h.wf.ps1, h.wf.pos, h.wf.n60, h.wf.psn, h.wf.psb, ht, h.wf.tgn, h.wf.srn, h.wf.tgl, h.wf.srl, h.wf.rn, h.wf.rl⟩ rfl rfl
  cases l' <;> first | rfl | exact absurd rfl hl'
/-- self.time = e -/
theorem q_time (T : TX K mg) {t : Nat} (h : HeapAt K H A S) (ht : t < 2 ^ 300) (e : Ev ta σ H (.ref (A.at_ .inst))) (e2 : Ev tb σ H (nV t)) (k : ∀ H', Step K H H' A A S { S with time := t } → D.nx σ H') : sFld K ta tb "time" D σ H :=
  e2 H (Ex.refl H) _ fun H1 e1 => e H1 e1 _ fun H2 e12 => ⟨_, CH K, A.dx, _, rfl, e12 _ _ (e1 _ _ (h.ob .inst trivial)), cls_H T, no_H_time T, by show 13 < 1000; decide, by
    rw [hp_time]
    exact k _ ((Step.ex h (e1.trans e12)).trans ((h.ex (e1.trans e12)).putTime ht))⟩
end
/-! ### room -/
theorem sc_H_check_reference_room : FnScope ["self", "source", "target"] ["self", "source", "target"] (defScope s_H_check_reference_room) := ⟨rfl, rfl, rfl, by decide +kernel, rfl, by decide +kernel, by decide +kernel⟩
def sp_H_check_reference_room (K : PySem.W.Frag) : Sp := fun vs H Q _ => ∃ A S a b, vs = [.ref (A.at_ .inst), nV a, nV b] ∧ HeapAt K H A S ∧ a < S.n ∧ S.n ≤ 14 ∧ RetV .non H Q
theorem ok_H_check_reference_room (T : TX K mg) : MethOk P w K mg base (CH K) 2 "check_reference_room" ["self", "source", "target"] (sp_H_check_reference_room K) := by
  have SC := sc_H_check_reference_room
  refine meth_mk (F_H_check_reference_room T) (m_H_check_reference_room T) sc_H_check_reference_room (fun _ _ _ _ _ _ us hl => match us, hl with | [_, _, _], _ => rfl) (fun vs H Q E h => ?_) (fun cdv A outer s H vs Q E hr h => ?_)
  · obtain ⟨A, S, a, b, rfl, _⟩ := h
    rfl
  · obtain ⟨A, S, a, b, rfl, h, ha, hn, k⟩ := h
    have hu := hu_of hr
    refine ⟨_, (pss_one (ps_if (PW.pt (pw_and (pt_cmp (pc_dnotin hu (pv 2) (kix (K := K) (kfld (K := K) (pv 0)) (pv 1))) rfl) (pw_and1 (pt_cmpR op_ge (klen (K := K) rfl (b_len T) (pa_cons (pm_call0 (ok_H_references T) (cls_H T) hr (by decide) (pv 0)) pa_nil)) (pe_gi (i_MOST_REFERENCES T) rfl) (nomark _)))))
      pss_never
      pss_nil)), ?_⟩
    refine s_when (b := false) (et_is (et_and (et_B (ev_kNotIn (ev_var rfl) (evi_targets T h (ev_var rfl) ha (ev_var rfl)) (h.ob (.tg a) ha))) (fun _ => et_refs T h hn (ev_var rfl))) (Bool.and_false _)) (fun q => nomatch q) (fun _ H1 e => k H1 e)
/-! ### refer -/
theorem sc_H_refer : FnScope ["self", "source", "target"] ["self", "source", "target"] (defScope s_H_refer) := ⟨rfl, rfl, rfl, by decide +kernel, rfl, by decide +kernel, by decide +kernel⟩
def HS.isLive (S : HS) (i : Nat) : Prop := i < S.n ∧ S.death i = none
def sp_H_refer (K : PySem.W.Frag) : Sp := fun vs H Q _ => ∃ A S a b, vs = [.ref (A.at_ .inst), nV a, nV b] ∧ HeapAt K H A S ∧ S.isLive a ∧ S.isLive b ∧ S.n ≤ 14 ∧ S.nd < 400 ∧ ∀ H' A', Step K H H' A A' S (S.joined a b).noted → Q .non H'
theorem ok_H_refer (T : TX K mg) : MethOk P w K mg base (CH K) 5 "refer" ["self", "source", "target"] (sp_H_refer K) := by
  have SC := sc_H_refer
  refine meth_mk (F_H_refer T) (m_H_refer T) sc_H_refer (fun _ _ _ _ _ _ us hl => match us, hl with | [_, _, _], _ => rfl) (fun vs H Q E h => ?_) (fun cdv A outer s H vs Q E hr h => ?_)
  · obtain ⟨A, S, a, b, rfl, _⟩ := h
    rfl
  · obtain ⟨A, S, a, b, rfl, h, ha, hb, hn, hd, k⟩ := h
    refine ⟨_, (pss_cons (ps_expr (pm_call (ok_H_check_live T) (cls_H T) hr (by decide) (pv 0) (pa_cons (pe_lst (pa_cons (pv 1) (pa_cons (pv 2) pa_nil))) pa_nil)))
    (pss_cons (ps_expr (pm_call (ok_H_check_reference_room T) (cls_H T) hr (by decide) (pv 0) (pa_cons (pv 1) (pa_cons (pv 2) pa_nil))))
    (pss_cons (ps_expr (pm_call0 (ok_H_check_room T) (cls_H T) hr (by decide) (pv 0)))
    (pss_cons (ps_expr (pm_call (ok_H_connect T) (cls_H T) hr (by decide) (pv 0) (pa_cons (pv 1) (pa_cons (pv 2) pa_nil))))
    (pss_one (ps_expr (pm_call (ok_H_note T) (cls_H T) hr (by decide) (pv 0) (pa_cons (pe_tup (pa_cons pe_str (pa_cons (pv 1) (pa_cons (pv 2) pa_nil)))) pa_nil)))))))), ?_⟩
    refine q_drop (ev_check_live T (is := [a, b]) h (ev_var rfl) (fun i hi => ?_) (el_lst (ea_cons (ev_var rfl) (ea_cons (ev_var rfl) ea_nil)) (by show 2 ≤ 100000; decide))) fun H1 e1 => ?_
    · simp only [List.mem_cons, List.not_mem_nil, or_false] at hi
      rcases hi with z | z
      · exact z ▸ ha
      · exact z ▸ hb
    have h1 := h.ex e1
    refine q_drop (ev_meth (ev_var rfl) (h1.ob .inst trivial) (hm_check_reference_room A S.time) (ea_cons (ev_var rfl) (ea_cons (ev_var rfl) ea_nil)) fun H2 e3 Q q E => ⟨A, S, a, b, rfl, h1.ex e3, ha.1, hn, q⟩) fun H2 e2 => ?_
    have h2 := h1.ex e2
    refine q_drop (ev_check_room T h2 (ev_var rfl) hd) fun H3 e3 => ?_
    have h3 := h2.ex e3
    refine u_seq (q_connect T h3 (ev_var rfl) ha.1 hb.1 (ev_var rfl) (ev_var rfl) fun H4 st4 => ?_)
    exact q_note T st4.ha hd (ev_var rfl) (eu_tup (ea_cons ev_c (ea_cons (ev_var rfl) (ea_cons (ev_var rfl) ea_nil))) (by show 3 ≤ 100000; decide)) fun H5 A5 st5 => k H5 A5 (((Step.ex h ((e1.trans e2).trans e3)).trans st4).trans st5)
/-! ### clear -/
theorem sc_H_clear : FnScope ["self", "source", "target"] ["self", "source", "target"] (defScope s_H_clear) := ⟨rfl, rfl, rfl, by decide +kernel, rfl, by decide +kernel, by decide +kernel⟩
def sp_H_clear (K : PySem.W.Frag) : Sp := fun vs H Q _ => ∃ A S a b, vs = [.ref (A.at_ .inst), nV a, nV b] ∧ HeapAt K H A S ∧ S.isLive a ∧ S.isLive b ∧ b ∈ S.tg a ∧ a ∈ S.sr b ∧ S.nd < 400 ∧
  ∀ H' A' d r, Step K H H' A A' S { (S.parted a b).noted with death := d, rank := r } → Settled (S.parted a b).noted d r → Q .non H'
theorem ok_H_clear (T : TX K mg) : MethOk P w K mg base (CH K) 5 "clear" ["self", "source", "target"] (sp_H_clear K) := by
  have SC := sc_H_clear
  refine meth_mk (F_H_clear T) (m_H_clear T) sc_H_clear (fun _ _ _ _ _ _ us hl => match us, hl with | [_, _, _], _ => rfl) (fun vs H Q E h => ?_) (fun cdv A outer s H vs Q E hr h => ?_)
  · obtain ⟨A, S, a, b, rfl, _⟩ := h
    rfl
  · obtain ⟨A, S, a, b, rfl, h, ha, hb, m1, m2, hd, k⟩ := h
    have hu := hu_of hr
    refine ⟨_, (pss_cons (ps_expr (pm_call (ok_H_check_live T) (cls_H T) hr (by decide) (pv 0) (pa_cons (pe_lst (pa_cons (pv 1) (pa_cons (pv 2) pa_nil))) pa_nil)))
    (pss_cons (ps_if (pt_cmp (pc_dnotin hu (pv 2) (kix (K := K) (kfld (K := K) (pv 0)) (pv 1))) rfl)
      pss_never
      pss_nil)
    (pss_cons (ps_expr (pm_call0 (ok_H_check_room T) (cls_H T) hr (by decide) (pv 0)))
    (pss_cons (ps_expr (pm_call (ok_H_disconnect T) (cls_H T) hr (by decide) (pv 0) (pa_cons (pv 1) (pa_cons (pv 2) pa_nil))))
    (pss_cons (ps_expr (pm_call (ok_H_note T) (cls_H T) hr (by decide) (pv 0) (pa_cons (pe_tup (pa_cons pe_str (pa_cons (pv 1) (pa_cons (pv 2) pa_nil)))) pa_nil)))
    (pss_one (ps_expr (pm_call0 (ok_H_settle T) (cls_H T) hr (by decide) (pv 0))))))))), ?_⟩
    refine q_drop (ev_check_live T (is := [a, b]) h (ev_var rfl) (fun i hi => ?_) (el_lst (ea_cons (ev_var rfl) (ea_cons (ev_var rfl) ea_nil)) (by show 2 ≤ 100000; decide))) fun H1 e1 => ?_
    · simp only [List.mem_cons, List.not_mem_nil, or_false] at hi
      rcases hi with z | z
      · exact z ▸ ha
      · exact z ▸ hb
    have h1 := h.ex e1
    refine q_when (b := false) (et_B (ev_is (ev_kNotIn (ev_var rfl) (evi_targets T h1 (ev_var rfl) ha.1 (ev_var rfl)) (h1.ob (.tg a) ha.1)) (by rw [decide_eq_true m1]; rfl))) (fun q => nomatch q) fun _ H2 e2 => ?_
    have h2 := h1.ex e2
    refine q_drop (ev_check_room T h2 (ev_var rfl) hd) fun H3 e3 => ?_
    have h3 := h2.ex e3
    refine u_seq (q_disconnect T h3 (ev_var rfl) ha.1 hb.1 m1 m2 (ev_var rfl) (ev_var rfl) fun H4 st4 => ?_)
    refine u_seq (q_note T st4.ha hd (ev_var rfl) (eu_tup (ea_cons ev_c (ea_cons (ev_var rfl) (ea_cons (ev_var rfl) ea_nil))) (by show 3 ≤ 100000; decide)) fun H5 A5 st5 => ?_)
    have hin := st5.inst
    rw [← hin]
    exact q_settle T st5.ha (ev_var rfl) fun H6 d r st6 s => k H6 A5 d r ((((Step.ex h ((e1.trans e2).trans e3)).trans st4).trans st5).trans st6) s
/-! ### hold, drop -/
theorem sc_H_hold : FnScope ["self", "item"] ["self", "item"] (defScope s_H_hold) := ⟨rfl, rfl, rfl, by decide +kernel, rfl, by decide +kernel, by decide +kernel⟩
def sp_H_hold (K : PySem.W.Frag) : Sp := fun vs H Q _ => ∃ A S a, vs = [.ref (A.at_ .inst), nV a] ∧ HeapAt K H A S ∧ S.isLive a ∧ S.nd < 400 ∧ ∀ H' A', Step K H H' A A' S { S with roots := addK S.roots a, nd := S.nd + 1 } → Q .non H'
theorem ok_H_hold (T : TX K mg) : MethOk P w K mg base (CH K) 5 "hold" ["self", "item"] (sp_H_hold K) := by
  have SC := sc_H_hold
  refine meth_mk (F_H_hold T) (m_H_hold T) sc_H_hold (fun _ _ _ _ _ _ us hl => match us, hl with | [_, _], _ => rfl) (fun vs H Q E h => ?_) (fun cdv A outer s H vs Q E hr h => ?_)
  · obtain ⟨A, S, a, rfl, _⟩ := h
    rfl
  · obtain ⟨A, S, a, rfl, h, ha, hd, k⟩ := h
    have hu := hu_of hr
    refine ⟨_, (pss_cons (ps_expr (pm_call (ok_H_check_live T) (cls_H T) hr (by decide) (pv 0) (pa_cons (pe_lst (pa_cons (pv 1) pa_nil)) pa_nil)))
    (pss_cons (ps_expr (pm_call0 (ok_H_check_room T) (cls_H T) hr (by decide) (pv 0)))
    (pss_cons (ps_dput hu (kfld (K := K) (pv 0)) (pv 1) pe_bl rfl)
    (pss_one (ps_expr (pm_call (ok_H_note T) (cls_H T) hr (by decide) (pv 0) (pa_cons (pe_tup (pa_cons pe_str (pa_cons (pv 1) pa_nil))) pa_nil))))))), ?_⟩
    refine q_drop (ev_check_live T (is := [a]) h (ev_var rfl) (fun i hi => List.mem_singleton.mp hi ▸ ha) (el_lst (ea_cons (ev_var rfl) ea_nil) (by show 1 ≤ 100000; decide))) fun H1 e1 => ?_
    have h1 := h.ex e1
    refine q_drop (ev_check_room T h1 (ev_var rfl) hd) fun H3 e3 => ?_
    have h3 := h1.ex e3
    have n60 := h.wf.n60
    have rlen : S.roots.length ≤ S.n := nd_len h.wf.rn h.wf.rl
    refine u_seq (q_put (k := Sum.inl (a : Int)) ev_c (evf_roots T h3 (ev_var rfl)) (h3.ob .roots trivial) (ev_var rfl) (by rw [kD_len]; omega) fun H4 e4 => ?_)
    rw [kD_put]
    have st4 := (Step.ex h ((e1.trans e3).trans e4)).trans ((h3.ex e4).putRoots (nd_addK (k := a) h.wf.rn) (lt_addK h.wf.rl ha.1))
    exact q_note T st4.ha hd (ev_var rfl) (eu_tup (ea_cons ev_c (ea_cons (ev_var rfl) ea_nil)) (by show 2 ≤ 100000; decide)) fun H5 A5 st5 => k H5 A5 (st4.trans st5)
theorem sc_H_drop : FnScope ["self", "item"] ["self", "item"] (defScope s_H_drop) := ⟨rfl, rfl, rfl, by decide +kernel, rfl, by decide +kernel, by decide +kernel⟩
def HS.dropped (S : HS) (a : Nat) : HS := { S with roots := delK S.roots a, nd := S.nd + 1 }
def sp_H_drop (K : PySem.W.Frag) : Sp := fun vs H Q _ => ∃ A S a, vs = [.ref (A.at_ .inst), nV a] ∧ HeapAt K H A S ∧ S.isLive a ∧ a ∈ S.roots ∧ S.nd < 400 ∧
  ∀ H' A' d r, Step K H H' A A' S { S.dropped a with death := d, rank := r } → Settled (S.dropped a) d r → Q .non H'
theorem ok_H_drop (T : TX K mg) : MethOk P w K mg base (CH K) 5 "drop" ["self", "item"] (sp_H_drop K) := by
  have SC := sc_H_drop
  refine meth_mk (F_H_drop T) (m_H_drop T) sc_H_drop (fun _ _ _ _ _ _ us hl => match us, hl with | [_, _], _ => rfl) (fun vs H Q E h => ?_) (fun cdv A outer s H vs Q E hr h => ?_)
  · obtain ⟨A, S, a, rfl, _⟩ := h
    rfl
  · obtain ⟨A, S, a, rfl, h, ha, m1, hd, k⟩ := h
    have hu := hu_of hr
    refine ⟨_, (pss_cons (ps_expr (pm_call (ok_H_check_live T) (cls_H T) hr (by decide) (pv 0) (pa_cons (pe_lst (pa_cons (pv 1) pa_nil)) pa_nil)))
    (pss_cons (ps_if (pt_cmp (pc_dnotin hu (pv 1) (kfld (K := K) (pv 0))) rfl)
      pss_never
      pss_nil)
    (pss_cons (ps_expr (pm_call0 (ok_H_check_room T) (cls_H T) hr (by decide) (pv 0)))
    (pss_cons (ps_expr (pe_dpop1 (kfld (K := K) (pv 0)) (pv 1) ⟨by rfl, by rfl, by rfl, by rfl⟩))
    (pss_cons (ps_expr (pm_call (ok_H_note T) (cls_H T) hr (by decide) (pv 0) (pa_cons (pe_tup (pa_cons pe_str (pa_cons (pv 1) pa_nil))) pa_nil)))
    (pss_one (ps_expr (pm_call0 (ok_H_settle T) (cls_H T) hr (by decide) (pv 0))))))))), ?_⟩
    refine q_drop (ev_check_live T (is := [a]) h (ev_var rfl) (fun i hi => List.mem_singleton.mp hi ▸ ha) (el_lst (ea_cons (ev_var rfl) ea_nil) (by show 1 ≤ 100000; decide))) fun H1 e1 => ?_
    have h1 := h.ex e1
    refine q_when (b := false) (et_B (ev_is (ev_kNotIn (ev_var rfl) (evf_roots T h1 (ev_var rfl)) (h1.ob .roots trivial)) (by rw [decide_eq_true m1]; rfl))) (fun q => nomatch q) fun _ H2 e2 => ?_
    have h2 := h1.ex e2
    refine q_drop (ev_check_room T h2 (ev_var rfl) hd) fun H3 e3 => ?_
    have h3 := h2.ex e3
    refine u_seq (q_pop (k := Sum.inl (a : Int)) (evf_roots T h3 (ev_var rfl)) (h3.ob .roots trivial) (ev_var rfl) (by rw [kD_val, if_pos m1]) fun H4 e4 => ?_)
    rw [kD_drop]
    have st4 := (Step.ex h (((e1.trans e2).trans e3).trans e4)).trans ((h3.ex e4).putRoots (nd_delK (k := a) h.wf.rn) (lt_delK h.wf.rl))
    refine u_seq (q_note T st4.ha hd (ev_var rfl) (eu_tup (ea_cons ev_c (ea_cons (ev_var rfl) ea_nil)) (by show 2 ≤ 100000; decide)) fun H5 A5 st5 => ?_)
    have hin := st5.inst
    rw [← hin]
    exact q_settle T st5.ha (ev_var rfl) fun H6 d r st6 s => k H6 A5 d r ((st4.trans st5).trans st6) s
end
end HD
set_option Elab.async false
set_option linter.all false
set_option maxRecDepth 100000
set_option maxHeartbeats 4000000
/-! Plain: a numbered collection after the other; what a run keeps. -/
namespace HD
theorem Ran.good {S : HS} {l : Nat} {pe rk fr t r} (g : S.Good) (R : Ran S l pe rk fr t r) : HS.Good { S with pend := pe, rank := rk, freed := fr, tg := t, sr := r } := by
  refine ⟨R.cut.ts g.ts, fun i hi hd hf => ?_, fun i hi hf => ?_, fun i hi hf => ?_, fun i j hi hj hd => ?_, g.rt⟩
  · have hf : fr i = false := hf
    have nf : ¬ (S.freed i = true ∨ S.gon l i) := fun z => by
      rw [(R.fr i).mpr z] at hf
      cases hf
    have f0 : S.freed i = false := by
      cases e : S.freed i with
      | false => rfl
      | true => exact absurd (.inl e) nf
    by_cases h : S.fnd l i ∧ S.kpt l i
    · exact ⟨_, R.rk1 i h.1 h.2, Nat.min_le_left _ _⟩
    · show ∃ q, rk i = some q ∧ _
      rw [R.rk0 i h]
      exact g.rk i hi hd f0
  · have hf := (R.fr i).mp hf
    constructor
    · refine List.eq_nil_iff_forall_not_mem.mpr fun j hj => ?_
      have := (R.cut.tg i j hi).mp hj
      rcases hf with z | z
      · rw [(g.fr i hi z).1] at this
        cases this.1
      · exact this.2.1 z
    · refine List.eq_nil_iff_forall_not_mem.mpr fun j hj => ?_
      have := (R.cut.sr i j hi).mp hj
      rcases hf with z | z
      · rw [(g.fr i hi z).2] at this
        cases this.1
      · exact this.2.1 z
  · rcases (R.fr i).mp hf with z | z
    · exact g.fd i hi z
    · exact z.1.2.1
  · exact g.lv i j hi ((R.cut.tg i j hi).mp hj).1 hd
theorem HS.Good.RK {S : HS} (g : S.Good) : S.RK := fun i hi hd hf => let ⟨r, h, _⟩ := g.rk i hi hd hf; ⟨r, h⟩
theorem HS.Good.TS {S : HS} (g : S.Good) : S.TS := g.ts
theorem HS.Good.time {S : HS} (g : S.Good) (t : Nat) : HS.Good { S with time := t } := ⟨g.ts, g.rk, g.fr, g.fd, g.lv, g.rt⟩
/-- one numbered collection -/
def Tick (S S' : HS) : Prop := ∃ pe rk fr t r, Ran { S with time := S.time + 1 } (lvl S.ps (S.time + 1)) pe rk fr t r ∧ S' = { S with time := S.time + 1, pend := pe, rank := rk, freed := fr, tg := t, sr := r }
inductive Ticks : Nat → HS → HS → Prop where
  | zero {S : HS} : Ticks 0 S S
  | succ {k : Nat} {S S1 S2 : HS} (h : Ticks k S S1) (t : Tick S1 S2) : Ticks (k + 1) S S2
theorem ran_none {S : HS} {l : Nat} (h : ∀ i, ¬ S.fnd l i) : Ran S l S.pend S.rank S.freed S.tg S.sr :=
  ⟨fun i => ⟨fun z => ⟨z, h i⟩, fun z => z.1⟩, fun i z => absurd z (h i), fun _ _ => rfl, fun i => ⟨.inl, fun z => z.elim id fun q => absurd q.1 (h i)⟩,
    ⟨fun a b _ => ⟨fun z => ⟨z, fun q => h a q.1, fun q => h b q.1⟩, fun z => z.1⟩, fun a b _ => ⟨fun z => ⟨z, fun q => h a q.1, fun q => h b q.1⟩, fun z => z.1⟩⟩⟩
theorem Tick.good {S S' : HS} (g : S.Good) (h : Tick S S') : S'.Good := by
  obtain ⟨pe, rk, fr, t, r, R, rfl⟩ := h
  exact R.good (g.time _)
/-- what the ticks leave as it was -/
theorem Tick.same {S S' : HS} (h : Tick S S') : S'.time = S.time + 1 ∧ S'.ps = S.ps ∧ S'.n = S.n ∧ S'.nd = S.nd := by
  obtain ⟨pe, rk, fr, t, r, R, rfl⟩ := h
  exact ⟨rfl, rfl, rfl, rfl⟩
theorem Ticks.same {k : Nat} {S S' : HS} (h : Ticks k S S') : S'.time = S.time + k ∧ S'.ps = S.ps ∧ S'.n = S.n ∧ S'.nd = S.nd := by
  induction h with
  | zero => exact ⟨rfl, rfl, rfl, rfl⟩
  | succ h t ih =>
    obtain ⟨a, b, c, d⟩ := ih
    obtain ⟨a2, b2, c2, d2⟩ := t.same
    exact ⟨by omega, b2.trans b, c2.trans c, d2.trans d⟩
theorem Ticks.good {k : Nat} {S S' : HS} (g : S.Good) (h : Ticks k S S') : S'.Good := by
  induction h with
  | zero => exact g
  | succ h t ih => exact Tick.good (ih g) t
theorem lvlL_dvd {t : Nat} : ∀ {l : List Nat} {r : Nat}, r < lvlL t l → t % l.getD r 1 = 0
  | [], r, h => absurd h (Nat.not_lt_zero _)
  | p :: l, r, h => by
    have h : r < (if t % p = 0 then 1 + lvlL t l else 0) := h
    split at h
    · rename_i e
      cases r with
      | zero => exact e
      | succ r => exact lvlL_dvd (l := l) (r := r) (by omega)
    · exact absurd h (Nat.not_lt_zero _)
theorem lvl_dvd {ps : List Nat} (h1 : ∃ r, ps = 1 :: r) {t r : Nat} (h : r ≤ lvl ps t) : t % plc ps r = 0 := by
  obtain ⟨tl, rfl⟩ := h1
  cases r with
  | zero => exact Nat.mod_one t
  | succ r => exact lvlL_dvd (l := tl) (r := r) h
theorem plc_pos {ps : List Nat} (h : ∀ p ∈ ps, 0 < p) (l : Nat) : 0 < plc ps l := by
  unfold plc
  rw [List.getD_eq_getElem?_getD]
  cases e : ps[l]? with
  | none => exact Nat.one_pos
  | some p => exact h p (List.mem_of_getElem? e)
theorem nxt_gt {ps : List Nat} (h : ∀ p ∈ ps, 0 < p) (t l : Nat) : t < nxt ps t l := by
  have hp := plc_pos h l
  unfold nxt
  have h1 := Nat.div_add_mod t (plc ps l)
  have h2 := Nat.mod_lt t hp
  rw [Nat.add_mul, Nat.one_mul, Nat.mul_comm (t / plc ps l)]
  omega
theorem nxt_le {ps : List Nat} (h : ∀ p ∈ ps, 0 < p) {t t' l : Nat} (hd : t' % plc ps l = 0) (hl : t < t') : nxt ps t l ≤ t' := by
  have hp := plc_pos h l
  unfold nxt
  obtain ⟨q, rfl⟩ := Nat.dvd_of_mod_eq_zero hd
  have h1 : t / plc ps l < q := by
    rw [Nat.div_lt_iff_lt_mul hp, Nat.mul_comm]
    exact hl
  rw [Nat.mul_comm]
  exact Nat.mul_le_mul (Nat.le_refl _) h1
/-- nothing is found before the first that finds -/
theorem skip {S : HS} (w : S.Wf) {t1 : Nat} (h : ∀ i, i < S.n → S.death i ≠ none → S.freed i = false → t1 ≤ S.fat i) : ∀ {k : Nat}, S.time + k < t1 → Ticks k S { S with time := S.time + k }
  | 0, _ => .zero
  | k + 1, hk => by
    have ih := skip w h (k := k) (by omega)
    refine .succ ih ⟨S.pend, S.rank, S.freed, S.tg, S.sr, ran_none (S := { S with time := S.time + k + 1 }) (l := lvl S.ps (S.time + k + 1)) fun i z => ?_, rfl⟩
    obtain ⟨z1, z2, z3, r, z4, z5⟩ := z
    have q := h i z1 z2 z3
    have z4 : S.rank i = some r := z4
    unfold HS.fat at q
    rw [z4] at q
    have := nxt_le w.pos (lvl_dvd w.ps1 z5) (show S.time < S.time + k + 1 by omega)
    have q : t1 ≤ nxt S.ps S.time r := q
    omega
theorem Ticks.trans {k j : Nat} {S S1 S2 : HS} (a : Ticks k S S1) (b : Ticks j S1 S2) : Ticks (k + j) S S2 := by
  induction b with
  | zero => exact a
  | succ h t ih => exact .succ (ih a) t
end HD
set_option Elab.async false
set_option linter.all false
set_option maxRecDepth 100000
set_option maxHeartbeats 4000000
/-! The actions of a heap (second part): force, collect. -/
namespace HD
open PySem PySem.Spec PyProof.Rows L2 Evl
theorem given_all {n : Nat} {v : Nat → V} : given n (fun _ => true) v = vl n v := by
  unfold given vl
  rw [List.filter_eq_self.mpr fun _ _ => rfl]
/-- the list of the forced generations anew -/
def Rep.force (A : Rep) (p : Addr) : Rep := { A with at_ := fun l => if l = .forced then p else A.at_ l }
theorem hp_force (A : Rep) (t : Nat) (p : Addr) : putF "forced_to" (.ref p) (hpF A t) = hpF (A.force p) t := by kernel_rfl
theorem u_fldL {K : PySem.W.Frag} {σ : L2.St} {H : Hp} {ta tv : TE} {D : Ends} {f : Str} {xs : List V} (h : EvL tv σ H xs) (k : ∀ p H1, H p = none → Ex H H1 → H1 p = some (.lst xs) → ta σ H1 fun x H2 => ∃ a C dx fs, x = .ref a ∧ H2 a = some (.ins C dx fs) ∧ Cls K C ∧ NoAttr K C f ∧ fs.length < 1000 ∧ D.nx σ (upd H2 a (.ins C dx (putF f (.ref p) fs)))) :
    sFld K ta tv f D σ H := h H (Ex.refl H) _ k
theorem u_walrus {r : R2} {tm tb : TE} {i : Nat} {tt : TT} {σ : L2.St} {H : Hp} {Q : Bool → L2.St → Hp → Prop} (h : tm σ H fun x H1 => tb (σ.set i (some x)) H1 fun y H2 => r x y H2 fun z H3 => ∃ k, z = .bl k ∧ if k = true then tt (σ.set i (some x)) H3 fun d H4 => Q d (σ.set i (some x)) H4 else Q false (σ.set i (some x)) H3) :
    wAnd (wCmp r (wNm (wE tm) i) tb) tt σ H Q := h
theorem u_meth0 {C : Addr} {m : Str} {sp : Sp} {E : XK} {ta : TE} {σ : L2.St} {H : Hp} {Q : VK} {a dx : Addr} {fs : List (Str × V)} (h : Ev ta σ H (.ref a)) (ho : H a = some (.ins C dx fs)) (hl : fs.lookup m = none) (k : ∀ H1, Ex H H1 → sp [.ref a] H1 Q E) : tMeth C m sp [] E ta tNil σ H Q :=
  h H (Ex.refl H) _ fun H1 e1 => ⟨a, dx, fs, rfl, e1 _ _ ho, hl, k H1 e1⟩
/-- a method with defaults, every parameter written -/
theorem meth_mkD {P : Program} {w : World} {K : PySem.W.Frag} {mg : Str → Option Value} {base : Heap} {C f : Addr} {x q : Str} {st : Stmt} {N ps : List Str} {dvs : List V} {k : Nat} {sp : Sp} (F : ∃ fd, FunD K x q (defArgs st) (defBody st) (defScope st) dvs [] f fd) (hm : Meth K C x f) (S : FnScope N ps (defScope st)) (hd : dvs ≠ [])
    (hb : ∀ (T : Addr) (kV doc pm : Value) (an : Option Addr) (cdv ct : Value) (us its : List Value), us.length = ps.length → its.length = dvs.length → ∃ k, bindArgs (PySem.W.fnOf x q (defArgs st) (defBody st) (defScope st) (.ref T) kV doc pm an cdv ct) ⟨us, []⟩ = seqItems? (.ref T) >>= k ∧ k (some its.toArray) = pure (ps.zip (us ++ its.drop dvs.length)))
    (len : ∀ vs H Q E, sp vs H Q E → vs.length = ps.length)
    (hbody : ∀ (cdv : Value) (A : Around) (outer : List Env) (s : Shared) (H : Hp) (vs : List V) (Q : VK) (E : XK), Room k (A.deeper (envOfC q (defScope st) s.heap.objs.size f cdv)) → sp vs H Q E →
      ∃ t, PSs (cxOf CX0 P w K mg base N q (defScope st) f cdv A outer s H E).nox (defBody st) t ∧ t { nx := fun _ H' => Q .non H', rt := Q } (start N vs) H) : MethOk P w K mg base C (k + 1) x ps sp := by
  obtain ⟨fd, F⟩ := F
  obtain ⟨ds, v, b⟩ := F.binds1 ps.length dvs.length hd (by omega) fun T kV doc pm an cdv ct us its h1 h2 => hb T kV doc pm an cdv ct us its h1 h2
  rw [List.drop_length] at v
  cases v
  refine ⟨f, fd, F.ok S len fun cdv A outer s H vs Q E hr h => ?_, hm, b⟩
  obtain ⟨t, h1, h2⟩ := hbody cdv A outer s H vs Q E hr h
  exact ⟨t, h1.nox, h2⟩
section
variable {P : Program} {w : World} {K : PySem.W.Frag} {mg : Str → Option Value} {base : Heap}
theorem HeapAt.putForced {H H1 : Hp} {A : Rep} {S : HS} (h : HeapAt K H A S) (e : Ex H H1) {p : Addr} (np : H p = none) {f : Nat → Nat} (hp : H1 p = some (.lst (vl S.n fun i => nV (f i)))) :
    Step K H (upd H1 (A.at_ .inst) (.ins (CH K) A.dx (hpF (A.force p) S.time))) A (A.force p) S { S with forced := f } := by
  have np' : ∀ l, okL S.n l → A.at_ l ≠ p := fun l hl z => by
    have := h.ob l hl
    rw [z, np] at this
    cases this
  have at1 : ∀ l, l ≠ .forced → (A.force p).at_ l = A.at_ l := fun l hl => if_neg (c := l = Lab.forced) hl
  have at2 : (A.force p).at_ .forced = p := by
    show (if Lab.forced = Lab.forced then p else A.at_ .forced) = p
    exact if_pos rfl
  refine ⟨⟨fun l hl => ?_, fun l l' hl hl' e => ?_, ⟨h.wf.ps1, h.wf.pos, h.wf.n60, h.wf.psn, h.wf.psb, h.wf.tb, h.wf.tgn, h.wf.srn, h.wf.tgl, h.wf.srl, h.wf.rn, h.wf.rl⟩, h.fvl, h.fvn, h.fol, h.dnl⟩, fun b o hb nb => ?_, fun b o => ?_, at1 _ (fun z => nomatch z)⟩
  · by_cases e1 : l = .forced
    · rw [e1, at2, upd_ne (fun z => np' .inst trivial z.symm)]
      exact hp
    · rw [at1 l e1]
      by_cases e2 : l = .inst
      · rw [e2, upd_same]
        rfl
      · rw [upd_ne (fun z => e2 (h.inj _ _ hl trivial z)), e _ _ (h.ob l hl)]
        cases l <;> first | rfl | exact absurd rfl e1 | exact absurd rfl e2
  · by_cases e1 : l = .forced
    · by_cases e2 : l' = .forced
      · rw [e1, e2]
      · rw [e1, at2, at1 l' e2] at e
        exact absurd e.symm (np' l' hl')
    · by_cases e2 : l' = .forced
      · rw [e2, at2, at1 l e1] at e
        exact absurd e (np' l hl)
      · rw [at1 l e1, at1 l' e2] at e
        exact h.inj l l' hl hl' e
  · rw [upd_ne (fun z => nb ⟨.inst, trivial, z.symm⟩)]
    exact e _ _ hb
  · obtain ⟨l, hl, e1⟩ := o
    by_cases e2 : l = .forced
    · rw [e2, at2] at e1
      exact .inr (e1 ▸ np)
    · rw [at1 l e2] at e1
      exact .inl ⟨l, hl, e1⟩
theorem sc_H_force : FnScope ["self", "level", "one"] ["self", "level"] (defScope s_H_force) := ⟨rfl, rfl, rfl, by decide +kernel, rfl, by decide +kernel, by decide +kernel⟩
/-- what a forced collection does with the numbers of generations -/
def HS.lift (S : HS) (l : Nat) : HS := { S with forced := fun i => max (S.forced i) (l + 1) }
def sp_H_force (K : PySem.W.Frag) : Sp := fun vs H Q _ => ∃ A S l, vs = [.ref (A.at_ .inst), nV l] ∧ HeapAt K H A S ∧ S.TS ∧ S.RK ∧ l < S.ps.length ∧ S.nd < 400 ∧
  ∀ H' A' pe rk fr t r, Step K H H' A A' S (HS.lift { S with pend := pe, rank := rk, freed := fr, tg := t, sr := r } l).noted → Ran S l pe rk fr t r → Q .non H'
theorem ok_H_force (T : TX K mg) : MethOk P w K mg base (CH K) 4 "force" ["self", "level"] (sp_H_force K) := by
  have SC := sc_H_force
  refine meth_mk (F_H_force T) (m_H_force T) sc_H_force (fun _ _ _ _ _ _ us hl => match us, hl with | [_, _], _ => rfl) (fun vs H Q E h => ?_) (fun cdv A outer s H vs Q E hr h => ?_)
  · obtain ⟨A, S, l, rfl, _⟩ := h
    rfl
  · obtain ⟨A, S, l, rfl, h, ts, rk, hl, hd, k⟩ := h
    have hu := hu_of hr
    refine ⟨_, (pss_cons (ps_expr (pm_call (ok_S_check_level T) (cls_S T) hr (by decide) (kfld (K := K) (pv 0)) (pa_cons (pv 1) pa_nil)))
    (pss_cons (ps_expr (pm_call0 (ok_H_check_room T) (cls_H T) hr (by decide) (pv 0)))
    (pss_cons (ps_expr (pm_call (ok_H_run T) (cls_H T) hr (by decide) (pv 0) (pa_cons (pv 1) (pa_cons pe_str pa_nil))))
    (pss_cons (ps_fld (pv 0) (pe_lc (own := [("one", 2)]) rfl SC.nd (pi_list (kfld (K := K) (pv 0))) (blkOk_by (own := [("one", 2)]) (N := ["self", "level", "one"]) (sc := defScope s_H_force) (by decide +kernel)) (fun _ _ _ _ _ => (pg_name (i := 2) SC.nd rfl (Or.inl rfl))) (fun _ _ _ _ _ => pts_nil) (fun _ _ _ _ _ => (pe_callB (call_max2 rfl) rfl (b_max T) (by decide +kernel) (pa_cons (pv 2) (pa_cons (pe_op op_add (pv 1) pe_int) pa_nil))))) rfl)
    (pss_one (ps_expr (pm_call (ok_H_note T) (cls_H T) hr (by decide) (pv 0) (pa_cons (pe_tup (pa_cons pe_str (pa_cons (pv 1) pa_nil))) pa_nil)))))))), ?_⟩
    have n60 := h.wf.n60
    obtain ⟨dx, a, b, s1, s2⟩ := id h.scheme
    refine q_drop (ev_meth (evf_sc T h (ev_var rfl)) s1 (by kernel_rfl) (ea_cons (ev_var rfl) ea_nil) fun H2 e3 Q q E => ⟨_, S.ps, l, rfl, h.scheme.ex e3, hl, q⟩) fun H1 e1 => ?_
    have h1 := h.ex e1
    refine q_drop (ev_check_room T h1 (ev_var rfl) hd) fun H2 e2 => ?_
    have h2 := h1.ex e2
    refine u_seq (q_run T h2 ts rk (ev_var rfl) (ev_var rfl) ev_c fun H3 A3 pe rk' fr t r st3 R => ?_)
    have h3 := st3.ha
    rw [← st3.inst]
    refine u_seq (u_fldL (el_lcL (fun _ => true) (fun i => nV (max (S.forced i) (l + 1))) (evf_forced T h3 (ev_var rfl)) (sq_of (h3.ob .forced trivial)) (by rw [vl_len]; show S.n ≤ _; omega) (fun _ => rfl) (fun i x H4 e hx => EvT.yes (fun H Q q => q) H4) (fun i x H4 e hx _ => ?_)) fun p H4 np e4 hp => ?_)
    · obtain ⟨hi, rfl⟩ := vl_at hx
      exact ev_max2N (ea_cons (ev_var rfl) (ea_cons (ev_op (ev_var rfl) ev_c rv_add1) ea_nil))
    rw [vl_len, given_all] at hp
    refine ⟨_, rfl, A3.at_ .inst, CH K, A3.dx, _, rfl, e4 _ _ (h3.ob .inst trivial), cls_H T, no_H_forced_to T, by show 13 < 1000; decide, ?_⟩
    rw [hp_force]
    have st4 := st3.trans (h3.putForced e4 np (f := fun i => max (S.forced i) (l + 1)) hp)
    have hin : (A3.force p).at_ .inst = A3.at_ .inst := by
      show (if Lab.inst = Lab.forced then p else A3.at_ .inst) = _
      exact if_neg fun z => nomatch z
    have hv : ∀ H9, Ev (tVar 0) [some (.ref (A3.at_ .inst)), some (nV l), none] H9 (.ref ((A3.force p).at_ .inst)) := fun H9 => by
      rw [hin]
      exact ev_var rfl
    exact q_note T st4.ha hd (hv _) (eu_tup (ea_cons ev_c (ea_cons (ev_var rfl) ea_nil)) (by show 2 ≤ 100000; decide)) fun H5 A5 st5 => k H5 A5 pe rk' fr t r ((Step.ex h (e1.trans e2)).trans (st4.trans st5)) R
/-! ### collect -/
theorem sc_H_collect : FnScope ["self", "times", "goal", "found"] ["self", "times"] (defScope s_H_collect) := ⟨rfl, rfl, rfl, by decide +kernel, rfl, by decide +kernel, by decide +kernel⟩
def sp_H_collect (K : PySem.W.Frag) : Sp := fun vs H Q _ => ∃ A S m, vs = [.ref (A.at_ .inst), nV m] ∧ HeapAt K H A S ∧ S.Good ∧ 1 ≤ m ∧ m ≤ 10000000000000000000000000000000000000000 ∧ S.time + m < 2 ^ 300 ∧ S.nd < 400 ∧
  ∀ H' A' S', Step K H H' A A' S S'.noted → Ticks m S S' → Q .non H'
/-- the first that finds, or that none does -/
theorem ff_cases {S : HS} : S.dead = [] ∨ ∃ i ∈ S.dead, ∀ j ∈ S.dead, S.fat i ≤ S.fat j := by
  generalize S.dead = l
  induction l with
  | nil => exact .inl rfl
  | cons a l ih =>
    refine .inr ?_
    rcases ih with rfl | ⟨i, hi, h⟩
    · exact ⟨a, List.mem_cons_self .., fun j hj => by
        rw [List.mem_singleton.mp hj]
        exact Nat.le_refl _⟩
    · by_cases z : S.fat i ≤ S.fat a
      · exact ⟨i, List.mem_cons_of_mem _ hi, fun j hj => by
          rcases List.mem_cons.mp hj with q | q
          · rw [q]
            exact z
          · exact h j q⟩
      · exact ⟨a, List.mem_cons_self .., fun j hj => by
          rcases List.mem_cons.mp hj with q | q
          · rw [q]
            exact Nat.le_refl _
          · have := h j q
            omega⟩
theorem ok_H_collect (T : TX K mg) : MethOk P w K mg base (CH K) 4 "collect" ["self", "times"] (sp_H_collect K) := by
  have SC := sc_H_collect
  refine meth_mkD (F_H_collect T) (m_H_collect T) sc_H_collect (by decide) (fun _ _ _ _ _ _ _ us its hl h2 => match us, its, hl, h2 with | [_, _], [_], _, _ => ⟨_, rfl, rfl⟩) (fun vs H Q E h => ?_) (fun cdv A outer s H vs Q E hr h => ?_)
  · obtain ⟨A, S, m, rfl, _⟩ := h
    rfl
  · obtain ⟨A, S, m, rfl, h, g, m1, m2, hb, hd, k⟩ := h
    have hu := hu_of hr
    refine ⟨_, (pss_cons (ps_expr (pg_call (ok_check_time T) hr (by decide) rfl (pa_cons (pv 1) (pa_cons pe_int pa_nil))))
    (pss_cons (ps_expr (pm_call0 (ok_H_check_room T) (cls_H T) hr (by decide) (pv 0)))
    (pss_cons (ps_set (i := 2) SC.nd rfl (Or.inl rfl) (pe_op op_add (kfld (K := K) (pv 0)) (pv 1)))
    (pss_cons (ps_whileW PassesOwn.never (ptw_and (ptw_cmp op_notN (pew_named (i := 3) SC.nd rfl (Or.inl rfl) (pew_of (pm_call0 (ok_H_first_found T) (cls_H T) hr (by decide) (pv 0)))) pe_non rfl) (pw_and1 (pt_cmpR op_le (pv 3) (pv 2) (nomark _)))) (pss_cons (ps_fld (pv 0) (pv 3) rfl)
    (pss_one (ps_expr (pm_call (ok_H_run T) (cls_H T) hr (by decide) (pv 0) (pa_cons (pm_call (ok_S_level_of T) (cls_S T) hr (by decide) (kfld (K := K) (pv 0)) (pa_cons (pv 3) pa_nil)) (pa_cons pe_str pa_nil)))))) pss_nil)
    (pss_cons (ps_fld (pv 0) (pv 2) rfl)
    (pss_one (ps_expr (pm_call (ok_H_note T) (cls_H T) hr (by decide) (pv 0) (pa_cons (pe_tup (pa_cons pe_str (pa_cons (pv 1) pa_nil))) pa_nil))))))))), ?_⟩
    refine q_drop (ev_call (ea_cons (ev_var rfl) (ea_cons ev_c ea_nil)) fun H1 e Q q E => ⟨_, _, rfl, by omega, by omega, q⟩) fun H1 e1 => ?_
    have h1 := h.ex e1
    refine q_drop (ev_check_room T h1 (ev_var rfl) hd) fun H2 e2 => ?_
    have h2 := h1.ex e2
    refine q_asg (ev_op (evf_time T h2 (ev_var rfl)) (ev_var rfl) rv_addN) fun H3 e3 => ?_
    have e03 := (e1.trans e2).trans e3
    -- what follows the loop
    have after : ∀ (σ : L2.St) (H' : Hp) (A' : Rep) (S' : HS) (x : Option V), σ = [some (.ref (A'.at_ .inst)), some (nV m), some (nV (S.time + m)), x] → Step K H H' A A' S S' → Ticks (S'.time - S.time) S S' → S'.time ≤ S.time + m → S.time ≤ S'.time → (∀ i, i < S'.n → S'.death i ≠ none → S'.freed i = false → S.time + m < S'.fat i) →
        tSeq (sFld K (tVar 0) (tVar 2) "time") (tDrop (tMeth (CH K) "note" (sp_H_note K) [] E0 (tVar 0) (tCons (tTup (tCons (tC (.str "collect")) (tCons (tVar 1) tNil))) tNil))) { nx := fun _ H' => Q .non H', rt := Q } σ H' := by
      rintro σ H' A' S' x rfl st tk t1 t2 hf
      have h' := st.ha
      refine u_seq (q_time T h' hb (ev_var rfl) (ev_var rfl) fun H5 st5 => ?_)
      have sk := skip h'.wf (t1 := S.time + m + 1) (fun i a b c => hf i a b c) (k := S.time + m - S'.time) (by omega)
      have e : S'.time + (S.time + m - S'.time) = S.time + m := by omega
      rw [e] at sk
      have tk2 := tk.trans sk
      have e2 : S'.time - S.time + (S.time + m - S'.time) = m := by omega
      rw [e2] at tk2
      have hd' : S'.nd < 400 := by
        rw [tk.same.2.2.2]
        exact hd
      exact q_note T st5.ha hd' (ev_var rfl) (eu_tup (ea_cons ev_c (ea_cons (ev_var rfl) ea_nil)) (by show 2 ≤ 100000; decide)) fun H6 A6 st6 => k H6 A6 _ ((st.trans st5).trans st6) tk2
    refine ⟨fun u σ H' => ∃ A' S' x, σ = [some (.ref (A'.at_ .inst)), some (nV m), some (nV (S.time + m)), x] ∧ Step K H H' A A' S S' ∧ Ticks (S'.time - S.time) S S' ∧ S'.time ≤ S.time + m ∧ S.time ≤ S'.time ∧ u = S.time + m - S'.time, ⟨_, A, S, none, rfl, Step.ex h e03, by rw [Nat.sub_self]; exact .zero, by omega, Nat.le_refl _, rfl⟩, ?_⟩
    rintro u σ H' ⟨A', S', x, rfl, st, tk, t1, t2, rfl⟩
    have h' := st.ha
    have g' := tk.good g
    refine u_walrus (u_meth0 (ev_var rfl) (h'.ob .inst trivial) (hm_first_found A' S'.time) fun H4 e4 => ⟨A', S', rfl, h'.ex e4, g', fun hd0 H5 e5 => ?_, fun i hi hm H5 e5 => ?_⟩)
    · refine ⟨rfl, false, rfl, ?_⟩
      refine after _ H5 A' S' (some .non) rfl (st.to (e4.trans e5)) tk t1 t2 fun i a b c => ?_
      have := mem_dead.mpr ⟨a, b, c⟩
      rw [hd0] at this
      cases this
    · refine ⟨rfl, true, rfl, ?_⟩
      refine iteT ?_
      show (tTest _) [some (.ref (A'.at_ .inst)), some (nV m), some (nV (S.time + m)), some (nV (S'.fat i))] H5 _
      have h5 := (h'.ex e4).ex e5
      refine et_test (ev_op (ev_var rfl) (ev_var rfl) rv_leN) H5 (Ex.refl H5) _ fun H6 e6 => ?_
      have h6 := h5.ex e6
      by_cases hle : S'.fat i ≤ S.time + m
      · rw [decide_eq_true hle]
        obtain ⟨d1, d2, d3⟩ := mem_dead.mp hi
        obtain ⟨r, r1, r2⟩ := g'.rk i d1 d2 d3
        have hgt : S'.time < S'.fat i := nxt_gt h'.wf.pos _ _
        refine ⟨fun σ H' => ∃ u', u' < S.time + m - S'.time ∧ ∃ A' S' x, σ = [some (.ref (A'.at_ .inst)), some (nV m), some (nV (S.time + m)), x] ∧ Step K H H' A A' S S' ∧ Ticks (S'.time - S.time) S S' ∧ S'.time ≤ S.time + m ∧ S.time ≤ S'.time ∧ u' = S.time + m - S'.time, fun _ _ z => z, ?_⟩
        refine u_seq (q_time T h6 (by omega) (ev_var rfl) (ev_var rfl) fun H7 st7 => ?_)
        have h7 := st7.ha
        have g7 := g'.time (S'.fat i)
        refine q_run T h7 g7.TS g7.RK (ev_var rfl) (ev_level (evf_sc T h7 (ev_var rfl)) h7.scheme h7.wf.p (ea_cons (ev_var rfl) ea_nil)) ev_c fun H8 A8 pe rk fr t r st8 R => ?_
        have sk := skip h'.wf (t1 := S'.fat i) (fun j a b c => hm j (mem_dead.mpr ⟨a, b, c⟩)) (k := S'.fat i - 1 - S'.time) (by omega)
        have e : S'.time + (S'.fat i - 1 - S'.time) = S'.fat i - 1 := by omega
        rw [e] at sk
        have e2 : S'.fat i - 1 + 1 = S'.fat i := by omega
        have tk2 : Tick { S' with time := S'.fat i - 1 } { S' with time := S'.fat i, pend := pe, rank := rk, freed := fr, tg := t, sr := r } := by
          refine ⟨pe, rk, fr, t, r, ?_, ?_⟩
          · show Ran { S' with time := S'.fat i - 1 + 1 } (lvl S'.ps (S'.fat i - 1 + 1)) pe rk fr t r
            rw [e2]
            exact R
          · show _ = ({ S' with time := S'.fat i - 1 + 1, pend := pe, rank := rk, freed := fr, tg := t, sr := r } : HS)
            rw [e2]
        have tk3 := (tk.trans sk).succ tk2
        have e3 : S'.time - S.time + (S'.fat i - 1 - S'.time) + 1 = S'.fat i - S.time := by omega
        rw [e3] at tk3
        refine ⟨S.time + m - S'.fat i, by omega, A8, _, some (nV (S'.fat i)), ?_, ((st.to ((e4.trans e5).trans e6)).trans st7).trans st8, tk3, hle, by show S.time ≤ S'.fat i; omega, rfl⟩
        rw [st8.inst]
        rfl
      · rw [decide_eq_false hle]
        refine after _ H6 A' S' (some (nV (S'.fat i))) rfl (st.to ((e4.trans e5).trans e6)) tk t1 t2 fun j a b c => ?_
        have := hm j (mem_dead.mpr ⟨a, b, c⟩)
        omega
end
end HD
set_option Elab.async false
set_option linter.all false
set_option maxRecDepth 100000
set_option maxHeartbeats 4000000
/-! create; methods called with keywords. -/
namespace HD
open PySem PySem.Spec PyProof.Rows L2 Evl
/-! ### o.m(e, .., k = v) -/
def tMethN (C : Addr) (m : Str) (n j : Nat) (sp : Sp) (gV : List V → List V → List V) (E : XK) (ta : TE) (t tk : TA) : TE := fun σ H Q => ta σ H fun x H1 => ∃ a dx fs, x = .ref a ∧ H1 a = some (.ins C dx fs) ∧ fs.lookup m = none ∧
  t σ H1 fun vs H2 => tk σ H2 fun zs H3 => vs.length + 1 = n ∧ zs.length = j ∧ sp (gV (.ref a :: vs) zs) H3 Q E
section
variable {X : Cx} {CX : CXT} {k n : Nat} {f C : Addr} {fd : FuncData} {ps ks : List Str} {sp : Sp} {E : XK} {m : Str} {apos pos : Pos} {o e : Expr} {es : List Expr} {kws : List Keyword} {ta : TE} {t tk : TA} {g : List Value → List Value → List Value} {gV : List V → List V → List V}
theorem pe_methN {pl : Sem Bool} (he : PE X o ta) (c : Cls X.K C) (hm : Meth X.K C m f) (F : FnOk X.prog X.w X.K X.mg X.base CX k f fd ps sp) (hr : Room k X.A) (hb : KBn X.K fd ps n ks g gV) (hx : Passes CX X E)
    (ha : PA X (e :: es) t) (hkw : PK X kws tk) (hall : (backToKw pos (keywordEach kws X.env)).all (·.1.isSome) = true := by rfl) (hks : (backToKw pos (keywordEach kws X.env)).filterMap (·.1) = ks := by rfl)
    (hst : starEach (e :: es) X.env = (false, eval e X.env) :: starEach es X.env := by rfl)
    (hpl : ((backTo pos (starEach (e :: es) X.env)).any (·.1) || (backToKw pos (keywordEach kws X.env)).any (·.1.isNone)) = false := by rfl)
    (ht : eval (.Call (.Attribute o m apos) (e :: es) kws pos) X.env = (do
      let ov ← eval o X.env
      standAt apos.atName
      let (f, first) ← holding [ov] (getMethod ov m pl)
      callWith pos f first (backTo pos (starEach (e :: es) X.env)) (backToKw pos (keywordEach kws X.env))) := by rfl) :
    PE X (.Call (.Attribute o m apos) (e :: es) kws pos) (tMethN C m n ks.length sp gV E ta t tk) := by
  refine ⟨fun pins s σ H Q I h => ?_⟩
  refine PySem.W.methodCall_KW (pl := pl) (thn (he.run pins s σ H _ I h) fun u s1 ⟨x, H1, I1, rx, a, dx, fs, ex, ea, l, q⟩ => ?_) ht
  subst ex
  obtain rfl : u = Value.ref a := rx
  refine getmeth_ok I1 ea c hm l ?_
  refine PySem.W.callWith_KW (first := [.ref a]) (h₀ := X.base) I.ok.mod.kin hm.kp hall (thn (ha.run pos pins s1 σ H1 _ I1 q) fun us s2 ⟨vs, H2, I2, r, q2⟩ => ?_) hpl hst
  refine thn (hkw.run pos pins s2 σ H2 _ I2 q2) fun ws s3 ⟨zs, H3, I3, rz, l1, l2, q3⟩ => ⟨I3.kIn, ?_⟩
  rw [hks]
  exact run_fnN (us := .ref a :: us) (vs := .ref a :: vs) F hr hb hx I3 (.cons rfl r) rz l1 l2 q3
theorem pe_methN0 {pl : Sem Bool} (he : PE X o ta) (c : Cls X.K C) (hm : Meth X.K C m f) (F : FnOk X.prog X.w X.K X.mg X.base CX k f fd ps sp) (hr : Room k X.A) (hb : KBn X.K fd ps n ks g gV) (hx : Passes CX X E)
    (hkw : PK X kws tk) (hall : (backToKw pos (keywordEach kws X.env)).all (·.1.isSome) = true := by rfl) (hks : (backToKw pos (keywordEach kws X.env)).filterMap (·.1) = ks := by rfl)
    (hpl : ((backTo pos (starEach [] X.env)).any (·.1) || (backToKw pos (keywordEach kws X.env)).any (·.1.isNone)) = false := by rfl)
    (ht : eval (.Call (.Attribute o m apos) [] kws pos) X.env = (do
      let ov ← eval o X.env
      standAt apos.atName
      let (f, first) ← holding [ov] (getMethod ov m pl)
      callWith pos f first (backTo pos (starEach [] X.env)) (backToKw pos (keywordEach kws X.env))) := by rfl) :
    PE X (.Call (.Attribute o m apos) [] kws pos) (tMethN C m n ks.length sp gV E ta tNil tk) := by
  refine ⟨fun pins s σ H Q I h => ?_⟩
  refine PySem.W.methodCall_KW (pl := pl) (thn (he.run pins s σ H _ I h) fun u s1 ⟨x, H1, I1, rx, a, dx, fs, ex, ea, l, q⟩ => ?_) ht
  subst ex
  obtain rfl : u = Value.ref a := rx
  refine getmeth_ok I1 ea c hm l ?_
  refine PySem.W.callWith_KW0 (first := [.ref a]) (h₀ := X.base) I.ok.mod.kin hm.kp hall ?_ hpl
  refine thn (hkw.run pos pins s1 σ H1 _ I1 q) fun ws s3 ⟨zs, H3, I3, rz, l1, l2, q3⟩ => ⟨I3.kIn, ?_⟩
  rw [hks]
  exact run_fnN (us := [.ref a]) (vs := [.ref a]) F hr hb hx I3 (.cons rfl .nil) rz l1 l2 q3
end
section
variable {K : PySem.W.Frag} {σ : L2.St} {H : Hp} {ta te tl : TE} {D : Ends} {g : TG} {tu : TS}
/-- xs.append(a new dict) -/
theorem s_appK {l : Addr} {xs : List V} (hl : H l = some (.lst xs)) (ha : Ev ta σ H (.ref l)) (hz : xs.length < 100000) (k : ∀ p H1, H p = none → Ex H H1 → H1 p = some (.dK []) → D.nx σ (upd H1 l (.lst (xs ++ [.ref p])))) :
    tDrop (tBM K "list" rAppend ta (tCons tDNewK tNil)) D σ H := ha H (Ex.refl H) _ fun H1 e1 =>
  ⟨Or.inl ⟨rfl, xs, sq_of (e1 l _ hl)⟩, fun p np => ⟨l, xs, .ref p, rfl, rfl, Ex.new np l _ (e1 l _ hl), sz_lt hz, k p _ (fresh_back e1 np) (e1.trans (Ex.new np)) upd_same⟩⟩
theorem q_maybe {t : TT} {v : V} {tz : TS} {b : Bool} (h : EvT t σ H b) (h1 : b = true → Ev te σ H v) (k : ∀ H1, Ex H H1 → tz D σ H1) : tSeq (tIfS t (tDrop te) tNext) tz D σ H :=
  q_when h (fun hb H1 e1 => s_drop ((h1 hb).mono e1) fun H2 e2 => k H2 (e1.trans e2)) (fun _ => k)
/-- over a new tuple -/
theorem s_forNU {xs : List V} (h : EvU tl σ H xs) (Pv : Addr → Nat → L2.St → Hp → Prop) (h0 : ∀ p H1, H p = none → Ex H H1 → H1 p = some (.tup xs) → Pv p 0 σ H1) (hl : ∀ p i σ' H', i ≤ xs.length → Pv p i σ' H' → SqT K H' p xs)
    (hs : ∀ p i x σ' H', xs[i]? = some x → Pv p i σ' H' → g x σ' H' fun σ2 H2 => tu { D with nx := Pv p (i + 1), ct := Pv p (i + 1), bk := D.nx } σ2 H2) (hd : ∀ p σ' H', Pv p xs.length σ' H' → D.nx σ' H') : tFor (iTup K tl) g tu D σ H :=
  h H (Ex.refl H) _ fun p H1 hp e h1 => ⟨p, rfl, ⟨xs, st_of h1⟩, for_tup (Pv p) (h0 p H1 hp e h1) (hl p) (hs p) (hd p)⟩
end
/-! ### growing lists -/
def lset (f : Lab → HO) (l : Lab) (o : HO) : Lab → HO := fun l' => if l' = l then o else f l'
/-- each label's thing, while the lists grow -/
structure Mid (A : Rep) (n : Nat) (H H' : Hp) (f : Lab → HO) : Prop where
  ob : ∀ l, okL n l → H' (A.at_ l) = some (f l)
  chg : Chg (Own A n) H H'
theorem Mid.ex {A : Rep} {n : Nat} {H H' H'' : Hp} {f : Lab → HO} (m : Mid A n H H' f) (e : Ex H' H'') : Mid A n H H'' f := ⟨fun l hl => e _ _ (m.ob l hl), m.chg.trans (Chg.ex e)⟩
theorem Mid.put {A : Rep} {n : Nat} {H H' : Hp} {f : Lab → HO} (m : Mid A n H H' f) (inj : ∀ l l', okL n l → okL n l' → A.at_ l = A.at_ l' → l = l') (l : Lab) (hl : okL n l) (o : HO) : Mid A n H (upd H' (A.at_ l) o) (lset f l o) :=
  ⟨fun l' hl' => by
    unfold lset
    by_cases e : l' = l
    · rw [if_pos e, e, upd_same]
    · rw [if_neg e, upd_ne (fun z => e (inj _ _ hl' hl z))]
      exact m.ob l' hl', m.chg.trans (Chg.upd ⟨l, hl, rfl⟩)⟩
theorem Mid.notOwn {A : Rep} {n : Nat} {H H' : Hp} {f : Lab → HO} (m : Mid A n H H' f) {p : Addr} (np : H' p = none) : ¬ Own A n p := fun o => by
  obtain ⟨l, hl, e⟩ := o
  have := m.ob l hl
  rw [e, np] at this
  cases this
theorem Mid.freshB {A : Rep} {n : Nat} {H H' : Hp} {f : Lab → HO} (m : Mid A n H H' f) {p : Addr} (np : H' p = none) (no : ¬ Own A n p) : H p = none := by
  cases e : H p with
  | none => rfl
  | some o =>
    rw [m.chg p o e no] at np
    cases np
theorem Mid.congr {A : Rep} {n : Nat} {H H' : Hp} {f g : Lab → HO} (m : Mid A n H H' f) (e : ∀ l, f l = g l) : Mid A n H H' g := ⟨fun l hl => by rw [← e l]; exact m.ob l hl, m.chg⟩
/-- the four lists that get None, the first j of them grown -/
def rowF (K : PySem.W.Frag) (A : Rep) (S : HS) (j : Nat) : Lab → HO
  | .births => .lst ((vl S.n fun i => nV (S.birth i)) ++ [nV S.time])
  | .deaths => if 0 < j then .lst ((vl S.n fun i => oV (S.death i)) ++ [.non]) else obj K A S .deaths
  | .ranks => if 1 < j then .lst ((vl S.n fun i => oV (S.rank i)) ++ [.non]) else obj K A S .ranks
  | .freed => if 2 < j then .lst (A.fv ++ [.non]) else obj K A S .freed
  | .found => if 3 < j then .lst (A.fo ++ [.non]) else obj K A S .found
  | l => obj K A S l
def HS.grown (S : HS) (f : Bool) : HS := { S with n := S.n + 1, birth := fset S.birth S.n S.time, death := fset S.death S.n none, rank := fset S.rank S.n none, freed := fset S.freed S.n false, forced := fset S.forced S.n 0, pend := fset S.pend S.n f, tg := fset S.tg S.n [], sr := fset S.sr S.n [] }
def HS.made (S : HS) (ow : Option Nat) (f : Bool) : HS := match ow with
  | none => { S.grown f with roots := addK S.roots S.n }
  | some a => (S.grown f).joined a S.n
def Rep.grown (A : Rep) (n : Nat) (p q : Addr) : Rep := { A with at_ := fun l => if l = .tg n then p else if l = .sr n then q else A.at_ l, fv := A.fv ++ [.non], fo := A.fo ++ [.non] }
theorem HS.Wf.grown {S : HS} (w : S.Wf) (h : S.n + 1 ≤ 60) (f : Bool) : (S.grown f).Wf := by
  have fs : ∀ (g : Nat → List Nat) i, i < S.n → fset g S.n [] i = g i := fun g i hi => fset_ne _ _ (by omega)
  have fn : ∀ (g : Nat → List Nat) i, ¬ i < S.n → i < S.n + 1 → fset g S.n [] i = [] := fun g i hi h2 => by
    have e : i = S.n := by omega
    rw [e]
    exact fset_same _ _ _
  refine ⟨w.ps1, w.pos, h, w.psn, w.psb, w.tb, fun i hi => ?_, fun i hi => ?_, fun i j hi hj => ?_, fun i j hi hj => ?_, w.rn, fun i hi => Nat.lt_succ_of_lt (w.rl i hi)⟩
  · show (fset S.tg S.n [] i).Nodup
    by_cases q : i < S.n
    · rw [fs _ i q]
      exact w.tgn i q
    · rw [fn _ i q hi]
      exact List.nodup_nil
  · show (fset S.sr S.n [] i).Nodup
    by_cases q : i < S.n
    · rw [fs _ i q]
      exact w.srn i q
    · rw [fn _ i q hi]
      exact List.nodup_nil
  · have hj : j ∈ fset S.tg S.n [] i := hj
    by_cases q : i < S.n
    · rw [fs _ i q] at hj
      exact Nat.lt_succ_of_lt (w.tgl i j q hj)
    · rw [fn _ i q hi] at hj
      cases hj
  · have hj : j ∈ fset S.sr S.n [] i := hj
    by_cases q : i < S.n
    · rw [fs _ i q] at hj
      exact Nat.lt_succ_of_lt (w.srl i j q hj)
    · rw [fn _ i q hi] at hj
      cases hj
/-- what the lists hold behind the growing, by the two new dicts -/
def grownF (K : PySem.W.Frag) (A : Rep) (S : HS) (f : Bool) (p q : Addr) : Lab → HO
  | .births => .lst ((vl S.n fun i => nV (S.birth i)) ++ [nV S.time])
  | .deaths => .lst ((vl S.n fun i => oV (S.death i)) ++ [.non])
  | .ranks => .lst ((vl S.n fun i => oV (S.rank i)) ++ [.non])
  | .freed => .lst (A.fv ++ [.non])
  | .found => .lst (A.fo ++ [.non])
  | .forced => .lst ((vl S.n fun i => nV (S.forced i)) ++ [nV 0])
  | .pending => .lst ((vl S.n fun i => .bl (S.pend i)) ++ [.bl f])
  | .targets => .lst ((vl S.n fun i => .ref (A.at_ (.tg i))) ++ [.ref p])
  | .sources => .lst ((vl S.n fun i => .ref (A.at_ (.sr i))) ++ [.ref q])
  | l => obj K A S l
theorem HeapAt.grown {K : PySem.W.Frag} {H H' : Hp} {A : Rep} {S : HS} (h : HeapAt K H A S) {f : Bool} {p q : Addr} (hn : S.n + 1 ≤ 60) (m : Mid A S.n H H' (grownF K A S f p q)) (np : H p = none) (nq : H q = none) (hpq : p ≠ q) (hp : H' p = some (.dK [])) (hq : H' q = some (.dK [])) :
    Step K H H' A (A.grown S.n p q) S (S.grown f) := by
  have nof : ∀ {b : Addr}, H b = none → ∀ l, okL S.n l → A.at_ l ≠ b := fun nb l hl z => by
    have := h.ob l hl
    rw [z, nb] at this
    cases this
  have atT : (A.grown S.n p q).at_ (.tg S.n) = p := by
    show (if Lab.tg S.n = Lab.tg S.n then p else _) = p
    exact if_pos rfl
  have atS : (A.grown S.n p q).at_ (.sr S.n) = q := by
    show (if Lab.sr S.n = Lab.tg S.n then p else if Lab.sr S.n = Lab.sr S.n then q else _) = q
    rw [if_neg (fun z => nomatch z), if_pos rfl]
  have atO : ∀ l, okL S.n l → (A.grown S.n p q).at_ l = A.at_ l := fun l hl => by
    show (if l = Lab.tg S.n then p else if l = Lab.sr S.n then q else A.at_ l) = A.at_ l
    rw [if_neg (fun z => by rw [z] at hl; exact Nat.lt_irrefl _ hl), if_neg (fun z => by rw [z] at hl; exact Nat.lt_irrefl _ hl)]
  have split : ∀ l, okL (S.n + 1) l → l = .tg S.n ∨ l = .sr S.n ∨ okL S.n l := fun l hl => by
    cases l with
    | tg i =>
      have hl : i < S.n + 1 := hl
      by_cases e : i = S.n
      · exact .inl (by rw [e])
      · exact .inr (.inr (show i < S.n by omega))
    | sr i =>
      have hl : i < S.n + 1 := hl
      by_cases e : i = S.n
      · exact .inr (.inl (by rw [e]))
      · exact .inr (.inr (show i < S.n by omega))
    | _ => exact .inr (.inr trivial)
  refine ⟨⟨fun l hl => ?_, fun l l' hl hl' e => ?_, h.wf.grown hn f, ?_, fun i hi => ?_, ?_, h.dnl⟩, m.chg, fun b o => ?_, atO .inst trivial⟩
  · rcases split l hl with rfl | rfl | ok
    · rw [atT, hp]
      show _ = some (HO.dK (kD (fset S.tg S.n [] S.n)))
      rw [fset_same]
      rfl
    · rw [atS, hq]
      show _ = some (HO.dK (kD (fset S.sr S.n [] S.n)))
      rw [fset_same]
      rfl
    · rw [atO l ok, m.ob l ok]
      refine congrArg some ?_
      cases l with
      | births =>
        show HO.lst ((vl S.n fun i => nV (S.birth i)) ++ [nV S.time]) = HO.lst (vl (S.n + 1) fun i => nV (fset S.birth S.n S.time i))
        rw [vl_app, fset_map (fun b => nV b)]
      | deaths =>
        show HO.lst ((vl S.n fun i => oV (S.death i)) ++ [oV none]) = HO.lst (vl (S.n + 1) fun i => oV (fset S.death S.n none i))
        rw [vl_app, fset_map oV]
      | ranks =>
        show HO.lst ((vl S.n fun i => oV (S.rank i)) ++ [oV none]) = HO.lst (vl (S.n + 1) fun i => oV (fset S.rank S.n none i))
        rw [vl_app, fset_map oV]
      | forced =>
        show HO.lst ((vl S.n fun i => nV (S.forced i)) ++ [nV 0]) = HO.lst (vl (S.n + 1) fun i => nV (fset S.forced S.n 0 i))
        rw [vl_app, fset_map (fun b => nV b)]
      | pending =>
        show HO.lst ((vl S.n fun i => V.bl (S.pend i)) ++ [V.bl f]) = HO.lst (vl (S.n + 1) fun i => V.bl (fset S.pend S.n f i))
        rw [vl_app, fset_map V.bl]
      | targets =>
        show HO.lst ((vl S.n fun i => V.ref (A.at_ (.tg i))) ++ [V.ref p]) = HO.lst (vl (S.n + 1) fun i => V.ref ((A.grown S.n p q).at_ (.tg i)))
        rw [vl_app]
        refine congrArg HO.lst (vl_congr fun i hi => ?_)
        unfold fset
        by_cases e : i = S.n
        · rw [if_pos e, e, atT]
        · rw [if_neg e, atO (.tg i) (show i < S.n by omega)]
      | sources =>
        show HO.lst ((vl S.n fun i => V.ref (A.at_ (.sr i))) ++ [V.ref q]) = HO.lst (vl (S.n + 1) fun i => V.ref ((A.grown S.n p q).at_ (.sr i)))
        rw [vl_app]
        refine congrArg HO.lst (vl_congr fun i hi => ?_)
        unfold fset
        by_cases e : i = S.n
        · rw [if_pos e, e, atS]
        · rw [if_neg e, atO (.sr i) (show i < S.n by omega)]
      | freed => rfl
      | found => rfl
      | tg i =>
        have ok : i < S.n := ok
        show HO.dK (kD (S.tg i)) = HO.dK (kD (fset S.tg S.n [] i))
        rw [fset_ne _ _ (by omega)]
      | sr i =>
        have ok : i < S.n := ok
        show HO.dK (kD (S.sr i)) = HO.dK (kD (fset S.sr S.n [] i))
        rw [fset_ne _ _ (by omega)]
      | inst => rfl
      | roots => rfl
      | done => rfl
      | sc => rfl
      | scp => rfl
      | scq => rfl
  · rcases split l hl with rfl | rfl | ok
    · rcases split l' hl' with rfl | rfl | ok'
      · rfl
      · rw [atT, atS] at e
        exact absurd e hpq
      · rw [atT, atO l' ok'] at e
        exact absurd e.symm (nof np l' ok')
    · rcases split l' hl' with rfl | rfl | ok'
      · rw [atT, atS] at e
        exact absurd e.symm hpq
      · rfl
      · rw [atS, atO l' ok'] at e
        exact absurd e.symm (nof nq l' ok')
    · rcases split l' hl' with rfl | rfl | ok'
      · rw [atT, atO l ok] at e
        exact absurd e (nof np l ok)
      · rw [atS, atO l ok] at e
        exact absurd e (nof nq l ok)
      · rw [atO l ok, atO l' ok'] at e
        exact h.inj l l' ok ok' e
  · show (A.fv ++ [V.non]).length = S.n + 1
    rw [List.length_append, h.fvl]
    rfl
  · show ∃ v, (A.fv ++ [V.non])[i]? = some v ∧ (v = .non ↔ fset S.freed S.n false i = false)
    by_cases e : i < S.n
    · rw [List.getElem?_append_left (by rw [h.fvl]; exact e), fset_ne _ _ (by omega)]
      exact h.fvn i e
    · have hi : i < S.n + 1 := hi
      have e : i = S.n := by omega
      subst e
      rw [List.getElem?_append_right (by rw [h.fvl]; exact Nat.le_refl _), h.fvl, fset_same, Nat.sub_self]
      exact ⟨.non, rfl, ⟨fun _ => rfl, fun _ => rfl⟩⟩
  · show (A.fo ++ [V.non]).length = S.n + 1
    rw [List.length_append, h.fol]
    rfl
  · obtain ⟨l, hl, e⟩ := o
    rcases split l hl with rfl | rfl | ok
    · rw [atT] at e
      exact .inr (e ▸ np)
    · rw [atS] at e
      exact .inr (e ▸ nq)
    · rw [atO l ok] at e
      exact .inl ⟨l, ok, e⟩
section
variable {P : Program} {w : World} {K : PySem.W.Frag} {mg : Str → Option Value} {base : Heap}
/-- create, with its three ways to be called -/
def CrOk (P : Program) (w : World) (K : PySem.W.Frag) (mg : Str → Option Value) (base : Heap) (C : Addr) (k : Nat) (sp : Sp) : Prop :=
  ∃ f fd, FnOk P w K mg base CX0 k f fd ["self", "owner", "finalizer"] sp ∧ Meth K C "create" f ∧ (∃ g, KBn K fd ["self", "owner", "finalizer"] 1 ["finalizer"] g fun vs zs => vs ++ [.non] ++ zs) ∧ (∃ g, KBn K fd ["self", "owner", "finalizer"] 2 ["finalizer"] g fun vs zs => vs ++ zs) ∧
    ∃ ds, Vals [.bl false] ds ∧ Binds K fd ["self", "owner", "finalizer"] ds
theorem sc_H_create : FnScope ["self", "owner", "finalizer", "item", "row"] ["self", "owner", "finalizer"] (defScope s_H_create) := ⟨rfl, rfl, rfl, by decide +kernel, rfl, by decide +kernel, by decide +kernel⟩
def sp_H_create (K : PySem.W.Frag) : Sp := fun vs H Q _ => ∃ A S ow f, vs = [.ref (A.at_ .inst), oV ow, .bl f] ∧ HeapAt K H A S ∧ (∀ a, ow = some a → S.isLive a) ∧ S.n ≤ 13 ∧ S.nd < 400 ∧ ∀ H' A', Step K H H' A A' S (S.made ow f).noted → Q (nV S.n) H'
theorem oV_notN {o : Option Nat} : (!decide (oV o = .non)) = o.isSome := by
  rw [oV_dec]
  cases o <;> rfl
theorem cr_mk {k : Nat} {sp : Sp} (T : TX K mg) (len : ∀ vs H Q E, sp vs H Q E → vs.length = 3)
    (hbody : ∀ (cdv : Value) (A : Around) (outer : List Env) (s : Shared) (H : Hp) (vs : List V) (Q : VK) (E : XK), Room k (A.deeper (envOfC "Heap.create" (defScope s_H_create) s.heap.objs.size (He.fAd K ("Heap", some "create")) cdv)) → sp vs H Q E →
      ∃ t, PSs (cxOf CX0 P w K mg base ["self", "owner", "finalizer", "item", "row"] "Heap.create" (defScope s_H_create) (He.fAd K ("Heap", some "create")) cdv A outer s H E).nox (defBody s_H_create) t ∧ t { nx := fun _ H' => Q .non H', rt := Q } (start ["self", "owner", "finalizer", "item", "row"] vs) H) : CrOk P w K mg base (CH K) (k + 1) sp := by
  obtain ⟨fd, F⟩ := F_H_create T
  obtain ⟨i1, m1, b1⟩ := F.kbinds (ps := ["self", "owner", "finalizer"]) 1 ["finalizer"] [] (fun us its mv ws => us ++ its ++ ws) (by decide) (by decide) (fun q hq => by cases hq) (fun r1 r2 _ r3 => (r1.append r2).append r3)
    (fun T D doc pm an cdv ct us its mv ws h1 h2 h3 h4 => match us, its, mv, ws, h1, h2, h3, h4 with | [_], [_], [], [_], _, _, _, _ => ⟨_, rfl, rfl⟩)
  obtain ⟨i2, m2, b2⟩ := F.kbinds (ps := ["self", "owner", "finalizer"]) 2 ["finalizer"] [] (fun us its mv ws => us ++ ws) (by decide) (by decide) (fun q hq => by cases hq) (fun r1 r2 _ r3 => r1.append r3)
    (fun T D doc pm an cdv ct us its mv ws h1 h2 h3 h4 => match us, its, mv, ws, h1, h2, h3, h4 with | [_, _], [_], [], [_], _, _, _, _ => ⟨_, rfl, rfl⟩)
  obtain ⟨ds, v3, b3⟩ := F.binds (ps := ["self", "owner", "finalizer"]) 2 1 (by decide) rfl
    (fun T D doc pm an cdv ct us its ks h1 h2 h3 => match us, its, ks, h1, h2, h3 with | [_, _], [_], [_], _, _, _ => ⟨_, rfl, _, _, _, _, _, _, rfl, rfl, rfl⟩) (by decide)
  refine ⟨_, fd, F.ok sc_H_create len fun cdv A outer s H vs Q E hr h => ?_, m_H_create T, ⟨_, b1⟩, ⟨_, b2⟩, ds, v3, b3⟩
  obtain ⟨t, h1, h2⟩ := hbody cdv A outer s H vs Q E hr h
  exact ⟨t, h1.nox, h2⟩
theorem ok_H_create (T : TX K mg) : CrOk P w K mg base (CH K) 5 (sp_H_create K) := by
  have SC := sc_H_create
  refine cr_mk T (fun vs H Q E h => ?_) (fun cdv A outer s H vs Q E hr h => ?_)
  · obtain ⟨A, S, ow, f, rfl, _⟩ := h
    rfl
  · obtain ⟨A, S, ow, f, rfl, h, ho, hn, hd, k⟩ := h
    have hu := hu_of hr
    refine ⟨_, (pss_cons (ps_if (pt_cmp (pc_notN (pv 1)))
      (pss_one (ps_expr (pm_call (ok_H_check_live T) (cls_H T) hr (by decide) (pv 0) (pa_cons (pe_lst (pa_cons (pv 1) pa_nil)) pa_nil))))
      pss_nil)
    (pss_cons (ps_if (pt_cmpR op_ge (klen (K := K) rfl (b_len T) (pa_cons (kfld (K := K) (pv 0)) pa_nil)) (pe_gi (i_MOST_OBJECTS T) rfl) (nomark _))
      pss_never
      pss_nil)
    (pss_cons (ps_if (PW.pt (pw_and (pt_cmp (pc_notN (pv 1))) (pw_and1 (pt_cmpR op_ge (klen (K := K) rfl (b_len T) (pa_cons (pm_call0 (ok_H_references T) (cls_H T) hr (by decide) (pv 0)) pa_nil)) (pe_gi (i_MOST_REFERENCES T) rfl) (nomark _)))))
      pss_never
      pss_nil)
    (pss_cons (ps_expr (pm_call0 (ok_H_check_room T) (cls_H T) hr (by decide) (pv 0)))
    (pss_cons (ps_set (i := 3) SC.nd rfl (Or.inl rfl) (klen (K := K) rfl (b_len T) (pa_cons (kfld (K := K) (pv 0)) pa_nil)))
    (pss_cons (ps_expr (pe_bm PySem.F.plainAttrs_list PySem.F.slot_list_append PySem.F.type_list_append mt_append (kfld (K := K) (pv 0)) (pa_cons (kfld (K := K) (pv 0)) pa_nil)))
    (pss_cons (ps_for PassesOwn.never rfl (pi_tup (pe_tup (pa_cons (kfld (K := K) (pv 0)) (pa_cons (kfld (K := K) (pv 0)) (pa_cons (kfld (K := K) (pv 0)) (pa_cons (kfld (K := K) (pv 0)) pa_nil)))))) (pg_name (i := 4) SC.nd rfl (Or.inl rfl))
      (pss_one (ps_expr (pe_bm PySem.F.plainAttrs_list PySem.F.slot_list_append PySem.F.type_list_append mt_append (pv 4) (pa_cons pe_non pa_nil)))))
    (pss_cons (ps_expr (pe_bm PySem.F.plainAttrs_list PySem.F.slot_list_append PySem.F.type_list_append mt_append (kfld (K := K) (pv 0)) (pa_cons pe_int pa_nil)))
    (pss_cons (ps_expr (pe_bm PySem.F.plainAttrs_list PySem.F.slot_list_append PySem.F.type_list_append mt_append (kfld (K := K) (pv 0)) (pa_cons (pv 2) pa_nil)))
    (pss_cons (ps_expr (pe_bm PySem.F.plainAttrs_list PySem.F.slot_list_append PySem.F.type_list_append mt_append (kfld (K := K) (pv 0)) (pa_cons pe_dnewK pa_nil)))
    (pss_cons (ps_expr (pe_bm PySem.F.plainAttrs_list PySem.F.slot_list_append PySem.F.type_list_append mt_append (kfld (K := K) (pv 0)) (pa_cons pe_dnewK pa_nil)))
    (pss_cons (ps_if (pt_cmp (pc_isN (pv 1)))
      (pss_one (ps_dput hu (kfld (K := K) (pv 0)) (pv 3) pe_bl rfl))
      (pss_one (ps_expr (pm_call (ok_H_connect T) (cls_H T) hr (by decide) (pv 0) (pa_cons (pv 1) (pa_cons (pv 3) pa_nil))))))
    (pss_cons (ps_expr (pm_call (ok_H_note T) (cls_H T) hr (by decide) (pv 0) (pa_cons (pe_tup (pa_cons pe_str (pa_cons (pv 1) (pa_cons (pv 2) pa_nil)))) pa_nil)))
    (pss_one (ps_ret (pv 3)))))))))))))))), ?_⟩
    -- the checks
    refine q_maybe (b := ow.isSome) (v := .non) (et_B (ev_is (ev_notN (ev_var rfl)) (congrArg V.bl oV_notN))) (fun hb => ?_) fun H1 e1 => ?_
    · obtain ⟨a, rfl⟩ := Option.isSome_iff_exists.mp hb
      exact ev_check_live T (is := [a]) h (ev_var rfl) (fun i hi => List.mem_singleton.mp hi ▸ ho a rfl) (el_lst (ea_cons (ev_var rfl) ea_nil) (by show 1 ≤ 100000; decide))
    have h1 := h.ex e1
    refine q_when (b := false) (et_is (et_test (ev_op (ev_len (evf_births T h1 (ev_var rfl)) (sq_of (h1.ob .births trivial))) ev_c rv_I0)) (decide_eq_false (by rw [vl_len]; omega))) (fun q => nomatch q) fun _ H2 e2 => ?_
    have h2 := h1.ex e2
    refine q_when (b := false) (et_is (et_and (et_B (ev_is (ev_notN (ev_var rfl)) (congrArg V.bl oV_notN))) (fun _ => et_refs T h2 (by omega) (ev_var rfl))) (Bool.and_false _)) (fun q => nomatch q) fun _ H3 e3 => ?_
    have h3 := h2.ex e3
    refine q_drop (ev_check_room T h3 (ev_var rfl) hd) fun H4 e4 => ?_
    have h4 := h3.ex e4
    refine q_asg (ev_is (ev_len (evf_births T h4 (ev_var rfl)) (sq_of (h4.ob .births trivial))) (by rw [vl_len])) fun H5 e5 => ?_
    have h5 := h4.ex e5
    have e05 := (((e1.trans e2).trans e3).trans e4).trans e5
    clear h1 h2 h3 h4
    -- the lists grow
    have inj := h.inj
    have m5 : Mid A S.n H5 H5 (obj K A S) := ⟨h5.ob, Chg.refl _ _⟩
    have fld : ∀ {fn : Str} {v : V} {fm : Lab → HO} {H' : Hp} {σ : L2.St}, Mid A S.n H5 H' fm → fm .inst = obj K A S .inst → σ[0]? = some (some (.ref (A.at_ .inst))) → NoAttr K (CH K) fn → (hpF A S.time).lookup fn = some v → Ev (tFld K (tVar 0) fn) σ H' v := fun m e s n l => by
      have := m.ob .inst trivial
      rw [e] at this
      exact ev_fld (ev_var s) this (cls_H T) n l
    refine q_app (m5.ob .births trivial) (fld m5 rfl rfl (no_H_births T) (hf_births A S.time)) (fld m5 rfl rfl (no_H_time T) (hf_time A S.time)) (by rw [vl_len]; omega) fun H6 e6 => ?_
    have m6 := (m5.ex e6).put inj .births trivial (.lst ((vl S.n fun i => nV (S.birth i)) ++ [nV S.time]))
    have r0 : lset (obj K A S) .births (.lst ((vl S.n fun i => nV (S.birth i)) ++ [nV S.time])) = rowF K A S 0 := by
      funext l
      cases l <;> rfl
    rw [r0] at m6
    refine u_seq (s_forNU (xs := [.ref (A.at_ .deaths), .ref (A.at_ .ranks), .ref (A.at_ .freed), .ref (A.at_ .found)]) (eu_tup (ea_cons (fld m6 rfl rfl (no_H_deaths T) (hf_deaths A S.time)) (ea_cons (fld m6 rfl rfl (no_H_ranks T) (hf_ranks A S.time)) (ea_cons (fld m6 rfl rfl (no_H_freed T) (hf_freed A S.time)) (ea_cons (fld m6 rfl rfl (no_H_found T) (hf_found A S.time)) ea_nil)))) (by show 4 ≤ 100000; decide))
      (fun p j σ H' => ∃ x, σ = [some (.ref (A.at_ .inst)), some (oV ow), some (.bl f), some (nV S.n), x] ∧ ¬ Own A S.n p ∧ H' p = some (.tup [.ref (A.at_ .deaths), .ref (A.at_ .ranks), .ref (A.at_ .freed), .ref (A.at_ .found)]) ∧ Mid A S.n H5 H' (rowF K A S j))
      (fun p H7 np e7 hp => ⟨none, rfl, m6.notOwn np, hp, m6.ex e7⟩) (fun p j σ' H' _ q => let ⟨_, _, _, z, _⟩ := q; st_of z) (fun p j x σ' H' hx q => ?_) (fun p σ' H' q => ?_))
    · obtain ⟨x0, rfl, no, hp, m⟩ := q
      have step : ∀ (l : Lab) (xs : List V), okL S.n l → rowF K A S j l = .lst xs → xs.length < 100000 → x = .ref (A.at_ l) → lset (rowF K A S j) l (.lst (xs ++ [.non])) = rowF K A S (j + 1) → ∀ D : Ends, (∀ H9, H9 p = some (.tup [.ref (A.at_ .deaths), .ref (A.at_ .ranks), .ref (A.at_ .freed), .ref (A.at_ .found)]) → Mid A S.n H5 H9 (rowF K A S (j + 1)) → D.nx [some (.ref (A.at_ .inst)), some (oV ow), some (.bl f), some (nV S.n), some x] H9) →
          tDrop (tBM K "list" rAppend (tVar 4) (tCons (tC .non) tNil)) D [some (.ref (A.at_ .inst)), some (oV ow), some (.bl f), some (nV S.n), some x] H' := by
        intro l xs ok e hl ex ef D kk
        subst ex
        have ob := m.ob l ok
        rw [e] at ob
        refine s_app ob (ev_var rfl) ev_c hl fun H9 e9 => kk _ ?_ ?_
        · rw [upd_ne (fun z => no ⟨l, ok, z.symm⟩)]
          exact e9 _ _ hp
        · rw [← ef]
          exact (m.ex e9).put inj l ok _
      have fin : ∀ H9, H9 p = some (.tup [.ref (A.at_ .deaths), .ref (A.at_ .ranks), .ref (A.at_ .freed), .ref (A.at_ .found)]) → Mid A S.n H5 H9 (rowF K A S (j + 1)) → ∃ x', ([some (.ref (A.at_ .inst)), some (oV ow), some (.bl f), some (nV S.n), some x] : L2.St) = [some (.ref (A.at_ .inst)), some (oV ow), some (.bl f), some (nV S.n), x'] ∧ ¬ Own A S.n p ∧ H9 p = some (.tup [.ref (A.at_ .deaths), .ref (A.at_ .ranks), .ref (A.at_ .freed), .ref (A.at_ .found)]) ∧ Mid A S.n H5 H9 (rowF K A S (j + 1)) :=
        fun H9 a b => ⟨_, rfl, no, a, b⟩
      rcases j with _ | _ | _ | _ | j
      · exact step .deaths _ trivial rfl (by rw [vl_len]; omega) (Option.some.inj hx).symm (by funext l; cases l <;> rfl) _ fin
      · exact step .ranks _ trivial rfl (by rw [vl_len]; omega) (Option.some.inj hx).symm (by funext l; cases l <;> rfl) _ fin
      · exact step .freed _ trivial rfl (by rw [h.fvl]; omega) (Option.some.inj hx).symm (by funext l; cases l <;> rfl) _ fin
      · exact step .found _ trivial rfl (by rw [h.fol]; omega) (Option.some.inj hx).symm (by funext l; cases l <;> rfl) _ fin
      · exact absurd hx (by simp)
    obtain ⟨x0, rfl, no, hp, m⟩ := q
    have m : Mid A S.n H5 H' (rowF K A S 4) := m
    refine q_app (m.ob .forced trivial) (fld m rfl rfl (no_H_forced_to T) (hf_forced A S.time)) ev_c (by rw [vl_len]; omega) fun H7 e7 => ?_
    have m7 := (m.ex e7).put inj .forced trivial (.lst ((vl S.n fun i => nV (S.forced i)) ++ [nV 0]))
    refine q_app (m7.ob .pending trivial) (fld m7 rfl rfl (no_H_pending T) (hf_pending A S.time)) (ev_var rfl) (by rw [vl_len]; omega) fun H8 e8 => ?_
    have m8 := (m7.ex e8).put inj .pending trivial (.lst ((vl S.n fun i => V.bl (S.pend i)) ++ [.bl f]))
    refine u_seq (s_appK (m8.ob .targets trivial) (fld m8 rfl rfl (no_H_targets T) (hf_targets A S.time)) (by rw [vl_len]; omega) fun p1 H9 np1 e9 hp1 => ?_)
    have nop1 := m8.notOwn np1
    have m9 := (m8.ex e9).put inj .targets trivial (.lst ((vl S.n fun i => V.ref (A.at_ (.tg i))) ++ [.ref p1]))
    refine u_seq (s_appK (m9.ob .sources trivial) (fld m9 rfl rfl (no_H_sources T) (hf_sources A S.time)) (by rw [vl_len]; omega) fun p2 H10 np2 e10 hp2 => ?_)
    have nop2 := m9.notOwn np2
    have m10 := (m9.ex e10).put inj .sources trivial (.lst ((vl S.n fun i => V.ref (A.at_ (.sr i))) ++ [.ref p2]))
    have g1 : upd H9 (A.at_ .targets) (.lst ((vl S.n fun i => V.ref (A.at_ (.tg i))) ++ [.ref p1])) p1 = some (.dK []) := by
      rw [upd_ne (fun z => nop1 ⟨.targets, trivial, z.symm⟩)]
      exact hp1
    have n12 : p1 ≠ p2 := fun z => by
      rw [← z, g1] at np2
      cases np2
    have g2 : upd H10 (A.at_ .sources) (.lst ((vl S.n fun i => V.ref (A.at_ (.sr i))) ++ [.ref p2])) p2 = some (.dK []) := by
      rw [upd_ne (fun z => nop2 ⟨.sources, trivial, z.symm⟩)]
      exact hp2
    have g3 : upd H10 (A.at_ .sources) (.lst ((vl S.n fun i => V.ref (A.at_ (.sr i))) ++ [.ref p2])) p1 = some (.dK []) := by
      rw [upd_ne (fun z => nop1 ⟨.sources, trivial, z.symm⟩)]
      exact e10 _ _ g1
    have st := h5.grown (f := f) (p := p1) (q := p2) (by omega) (m10.congr fun l => by cases l <;> rfl) (m8.freshB np1 nop1) (m9.freshB np2 nop2) n12 g3 g2
    generalize upd H10 (A.at_ .sources) (.lst ((vl S.n fun i => V.ref (A.at_ (.sr i))) ++ [.ref p2])) = H11 at st g2 g3
    clear m m7 m8 m9 m10 m5 m6
    have h11 := st.ha
    have hin := st.inst
    show tSeq _ _ _ [some (.ref (A.at_ .inst)), some (oV ow), some (.bl f), some (nV S.n), x0] H11
    rw [← hin]
    have st0 := (Step.ex h e05).trans st
    generalize hA : A.grown S.n p1 p2 = A1 at h11 st st0 hin
    have n14 : (S.grown f).n = S.n + 1 := rfl
    -- behind the if
    have rest : ∀ (H12 : Hp) (S' : HS), S'.nd = S.nd → Step K H H12 A A1 S S' → S'.noted = (S.made ow f).noted → tSeq (tDrop (tMeth (CH K) "note" (sp_H_note K) [] E0 (tVar 0) (tCons (tTup (tCons (tC (.str "create")) (tCons (tVar 1) (tCons (tVar 2) tNil)))) tNil))) (tRet (tVar 3)) { nx := fun _ H' => Q .non H', rt := Q } [some (.ref (A1.at_ .inst)), some (oV ow), some (.bl f), some (nV S.n), x0] H12 := by
      intro H12 S' hnd st12 es
      refine u_seq (q_note T st12.ha (by omega) (ev_var rfl) (eu_tup (ea_cons ev_c (ea_cons (ev_var rfl) (ea_cons (ev_var rfl) ea_nil))) (by show 3 ≤ 100000; decide)) fun H13 A13 st13 => ?_)
      rw [es] at st13
      exact s_ret (ev_var rfl) fun H14 e14 => k H14 A13 ((st12.trans st13).to e14)
    have rlen : (S.grown f).roots.length ≤ S.n := nd_len h.wf.rn h.wf.rl
    refine u_seq (s_if (b := ow.isNone) (et_B (ev_is (ev_isN (ev_var rfl)) (congrArg V.bl oV_dec))) (fun hb H12 e12 => ?_) (fun hb H12 e12 => ?_))
    · have hb := Option.isNone_iff_eq_none.mp hb
      subst hb
      have h12 := h11.ex e12
      refine q_put (k := Sum.inl (S.n : Int)) ev_c (evf_roots T h12 (ev_var rfl)) (h12.ob .roots trivial) (ev_var rfl) (by rw [kD_len]; omega) fun H13 e13 => ?_
      rw [kD_put]
      exact rest _ { S.grown f with roots := addK S.roots S.n } rfl ((st0.to (e12.trans e13)).trans ((h12.ex e13).putRoots (nd_addK (k := S.n) h11.wf.rn) (lt_addK h11.wf.rl (by show S.n < S.n + 1; omega)))) rfl
    · cases ow with
      | none => cases hb
      | some a =>
        have h12 := h11.ex e12
        refine q_connect T h12 (ev_var rfl) (show a < S.n + 1 from Nat.lt_succ_of_lt (ho a rfl).1) (show S.n < S.n + 1 by omega) (ev_var rfl) (ev_var rfl) fun H13 st13 => ?_
        exact rest _ ((S.grown f).joined a S.n) rfl ((st0.to e12).trans st13) rfl
end
end HD
set_option Elab.async false
set_option linter.all false
set_option maxRecDepth 100000
set_option maxHeartbeats 4000000
/-! Making a scheme, a heap. -/
namespace HD
open PySem PySem.Spec PyProof.Rows L2 Evl
/-! ### the place values -/
def pl : Nat → List Nat → List Nat
  | p, [] => [p]
  | p, r :: rs => p :: pl (p * r) rs
def prodL : List Nat → Nat
  | [] => 1
  | r :: rs => r * prodL rs
theorem pl_last : ∀ {p : Nat} {rs : List Nat}, (pl p rs).getLast? = some (p * prodL rs)
  | p, [] => by
    show some p = some (p * 1)
    rw [Nat.mul_one]
  | p, r :: rs => by
    have ih := pl_last (p := p * r) (rs := rs)
    have e : p * prodL (r :: rs) = p * r * prodL rs := by
      show p * (r * prodL rs) = _
      rw [Nat.mul_assoc]
    rw [e, ← ih]
    show (p :: pl (p * r) rs).getLast? = _
    cases h : pl (p * r) rs with
    | nil =>
      rw [h] at ih
      cases ih
    | cons a b => rw [List.getLast?_cons_cons]
theorem pl_snoc : ∀ {p : Nat} {rs : List Nat} {r : Nat}, pl p (rs ++ [r]) = pl p rs ++ [p * prodL rs * r]
  | p, [], r => by
    show [p, p * r] = [p] ++ [p * 1 * r]
    rw [Nat.mul_one]
    rfl
  | p, a :: rs, r => by
    show p :: pl (p * a) (rs ++ [r]) = p :: (pl (p * a) rs ++ [p * (a * prodL rs) * r])
    rw [pl_snoc, Nat.mul_assoc p a]
theorem pl_len : ∀ {p : Nat} {rs : List Nat}, (pl p rs).length = rs.length + 1
  | p, [] => rfl
  | p, r :: rs => congrArg Nat.succ (pl_len (p := p * r) (rs := rs))
theorem prodL_snoc : ∀ {rs : List Nat} {r : Nat}, prodL (rs ++ [r]) = prodL rs * r
  | [], r => by
    show r * 1 = 1 * r
    rw [Nat.mul_comm]
  | a :: rs, r => by
    show a * prodL (rs ++ [r]) = a * prodL rs * r
    rw [prodL_snoc, Nat.mul_assoc]
theorem prodL_lt {b : Nat} : ∀ {rs : List Nat}, (∀ r ∈ rs, r ≤ 2 ^ b) → prodL rs ≤ 2 ^ (b * rs.length)
  | [], _ => Nat.le_refl _
  | a :: rs, h => by
    have ih := prodL_lt (b := b) (rs := rs) fun r hr => h r (List.mem_cons_of_mem _ hr)
    have e : b * (rs.length + 1) = b + b * rs.length := by rw [Nat.mul_add, Nat.mul_one, Nat.add_comm]
    show a * prodL rs ≤ 2 ^ (b * (rs.length + 1))
    rw [e, Nat.pow_add]
    exact Nat.mul_le_mul (h a (List.mem_cons_self ..)) ih
theorem prodL_pos : ∀ {rs : List Nat}, (∀ r ∈ rs, 0 < r) → 0 < prodL rs
  | [], _ => Nat.one_pos
  | a :: rs, h => Nat.mul_pos (h a (List.mem_cons_self ..)) (prodL_pos fun r hr => h r (List.mem_cons_of_mem _ hr))
/-- radices a scheme takes -/
structure Rad (rs : List Nat) : Prop where
  len : rs.length ≤ 6
  lo : ∀ r ∈ rs, 2 ≤ r
  hi : ∀ r ∈ rs, r ≤ 1000000000000
theorem Rad.prod {rs : List Nat} (h : Rad rs) : prodL rs ≤ 2 ^ 240 := by
  have h1 := prodL_lt (b := 40) (rs := rs) fun r hr => Nat.le_trans (h.hi r hr) (by decide)
  have h2 : 40 * rs.length ≤ 240 := by
    have := h.len
    omega
  exact Nat.le_trans h1 (Nat.pow_le_pow_right (by decide) h2)
theorem Rad.take {rs : List Nat} (h : Rad rs) (i : Nat) : Rad (rs.take i) :=
  ⟨Nat.le_trans (List.length_take_le' i rs) h.len, fun r hr => h.lo r (List.mem_of_mem_take hr), fun r hr => h.hi r (List.mem_of_mem_take hr)⟩
theorem pl_mem : ∀ {p : Nat} {rs : List Nat} {q : Nat}, q ∈ pl p rs → ∃ i, q = p * prodL (rs.take i)
  | p, [], q, h => ⟨0, by
    rw [List.mem_singleton.mp h]
    exact (Nat.mul_one p).symm⟩
  | p, r :: rs, q, h => by
    rcases List.mem_cons.mp h with e | h
    · exact ⟨0, e.trans (Nat.mul_one p).symm⟩
    · obtain ⟨i, e⟩ := pl_mem h
      refine ⟨i + 1, ?_⟩
      rw [e]
      show p * r * prodL (rs.take i) = p * (r * prodL (rs.take i))
      rw [Nat.mul_assoc]
theorem Rad.pos {rs : List Nat} (h : Rad rs) : ∀ p ∈ pl 1 rs, 0 < p := fun p hp => by
  obtain ⟨i, rfl⟩ := pl_mem hp
  rw [Nat.one_mul]
  exact prodL_pos fun r hr => by
    have := (h.take i).lo r hr
    omega
theorem Rad.big {rs : List Nat} (h : Rad rs) : ∀ p ∈ pl 1 rs, p < 2 ^ 300 := fun p hp => by
  obtain ⟨i, rfl⟩ := pl_mem hp
  rw [Nat.one_mul]
  exact Nat.lt_of_le_of_lt (h.take i).prod (Nat.pow_lt_pow_right (by decide) (by decide))
theorem pl_one (rs : List Nat) : ∃ r, pl 1 rs = 1 :: r := by
  cases rs with
  | nil => exact ⟨[], rfl⟩
  | cons a r => exact ⟨_, rfl⟩
/-! ### a for over enumerate -/
section
variable {K : PySem.W.Frag} {σ : L2.St} {H : Hp} {D : Ends} {tu tz : TS} {ta tl : TE}
theorem s_forE {a : Addr} {xs : List V} {ts : TA} {j1 j2 : Nat} (h : EvA ts σ H [.ref a]) (hx : SqL K H a xs) (Pv : Nat → L2.St → Hp → Prop) (h0 : ∀ H1, Ex H H1 → Pv 0 σ H1) (hl : ∀ i σ' H', i ≤ xs.length → Pv i σ' H' → SqL K H' a xs)
    (hs : ∀ i x σ' H', xs[i]? = some x → Pv i σ' H' → ∀ H2, Ex H' H2 → tu { D with nx := Pv (i + 1), ct := Pv (i + 1), bk := D.nx } ((σ'.set j1 (some (.int (i : Nat)))).set j2 (some x)) H2) (hd : ∀ σ' H', Pv xs.length σ' H' → D.nx σ' H') :
    tFor (iEnum K ts) (gTup K 2 (gCons (gName j1) (gCons (gName j2) gNil))) tu D σ H := h H (Ex.refl H) _ fun H1 e1 => by
  refine ⟨a, xs, rfl, ex_l e1 hx, ?_⟩
  refine for_it (walk_enum (K := K) (a := a) (xs := xs)) Pv (h0 H1 e1) (fun i σ H hi p => hl i σ H hi p) (fun i x σ H2 H3 hi p y => ?_) hd
  obtain ⟨T, x1, x2, rfl, hT, rfl, h1, h2⟩ := y
  cases h1
  exact ⟨T, _, rfl, st_of upd_same, rfl, _, _, rfl, _, _, rfl, rfl, hs i x2 σ H2 h2 p _ (Ex.new hT)⟩
end
/-! ### making -/
def MakeOk (P : Program) (w : World) (K : PySem.W.Frag) (mg : Str → Option Value) (base : Heap) (C : Addr) (k : Nat) (ps : List Str) (sp : Sp) : Prop :=
  ∃ f fd, FnOk P w K mg base CX0 k f fd ps sp ∧ Mk K C f ∧ Binds K fd ps []
section
variable {P : Program} {w : World} {K : PySem.W.Frag} {mg : Str → Option Value} {base : Heap}
theorem make_mk {C f : Addr} {x q : Str} {st : Stmt} {N ps : List Str} {k : Nat} {sp : Sp} (F : ∃ fd, FunD K x q (defArgs st) (defBody st) (defScope st) [] [] f fd) (hm : Mk K C f) (S : FnScope N ps (defScope st))
    (hb : ∀ (kV doc pm : Value) (an : Option Addr) (cdv ct : Value) (us : List Value), us.length = ps.length → bindArgs (PySem.W.fnOf x q (defArgs st) (defBody st) (defScope st) .none kV doc pm an cdv ct) ⟨us, []⟩ = pure (ps.zip us))
    (len : ∀ vs H Q E, sp vs H Q E → vs.length = ps.length)
    (hbody : ∀ (cdv : Value) (A : Around) (outer : List Env) (s : Shared) (H : Hp) (vs : List V) (Q : VK) (E : XK), Room k (A.deeper (envOfC q (defScope st) s.heap.objs.size f cdv)) → sp vs H Q E →
      ∃ t, PSs (cxOf CX0 P w K mg base N q (defScope st) f cdv A outer s H E).nox (defBody st) t ∧ t { nx := fun _ H' => Q .non H', rt := Q } (start N vs) H) : MakeOk P w K mg base C (k + 1) ps sp := by
  obtain ⟨fd, F⟩ := F
  refine ⟨f, fd, F.ok S len fun cdv A outer s H vs Q E hr h => ?_, hm, F.bindsN hb⟩
  obtain ⟨t, h1, h2⟩ := hbody cdv A outer s H vs Q E hr h
  exact ⟨t, h1.nox, h2⟩
end
section
variable {X : Cx} {k j : Nat} {ps : List Str} {sp : Sp} {x : Str} {p pos : Pos} {e : Expr} {es : List Expr} {t : TA} {C : Addr}
theorem pk_make (G : MakeOk X.prog X.w X.K X.mg X.base C k ps sp) (hr : Room j X.A) (hk : k + 1 ≤ j) (hg : Gl X x) (hm : X.mg x = some (.ref C)) (ha : PA X (e :: es) t) (hdb : (x == ("__debug__" : Str)) = false := by decide)
    (he : starEach (e :: es) X.env = (false, eval e X.env) :: starEach es X.env := by rfl) (hpl : (backTo pos (starEach es X.env)).any (·.1) = false := by rfl) : PE X (.Call (.Name x p) (e :: es) [] pos) (tMake C sp [] E0 t) := by
  obtain ⟨f, fd, F, M, b⟩ := G
  exact pe_make M F (hr.mono hk) hg hm b .nil pass0 ha hdb he hpl
end
section
variable {P : Program} {w : World} {K : PySem.W.Frag} {mg : Str → Option Value} {base : Heap}
theorem sc_S_init : FnScope ["self", "radices", "at", "radix"] ["self", "radices"] (defScope s_S_init) := ⟨rfl, rfl, rfl, by decide +kernel, rfl, by decide +kernel, by decide +kernel⟩
def sp_S_init (K : PySem.W.Frag) : Sp := fun vs H Q _ => ∃ x dx l, ∃ rs : List Nat, vs = [.ref x, .ref l] ∧ H x = some (.ins (CS K) dx []) ∧ H l = some (.lst (nVs rs)) ∧ Rad rs ∧
  ∀ H' a b, Chg (· = x) H H' → H a = none → H b = none → a ≠ b → H' x = some (.ins (CS K) dx (scF a b)) → H' a = some (.lst (nVs rs)) → H' b = some (.lst (nVs (pl 1 rs))) → Q .non H'
theorem rc_isi_list {H : Hp} {a : Addr} {xs : List V} (h : H a = some (.lst xs)) : RC (rIsi K) [.ref a, .ty "list"] H (.bl true) := fun H1 e Q q =>
  ⟨.ref a, .ty "list", .type "list", .type "list", true, rfl, .ty _, .base (.lst (e _ _ h)), kit_ty (by decide +kernel), q H1 (Ex.refl _)⟩
theorem ok_S_init (T : TX K mg) : MakeOk P w K mg base (CS K) 3 ["self", "radices"] (sp_S_init K) := by
  have SC := sc_S_init
  refine make_mk (F_S_init T) (mk_S T) sc_S_init (fun _ _ _ _ _ _ us hl => match us, hl with | [_, _], _ => rfl) (fun vs H Q E h => ?_) (fun cdv A outer s H vs Q E hr h => ?_)
  · obtain ⟨x, dx, l, rs, rfl, _⟩ := h
    rfl
  · obtain ⟨x, dx, l, rs, rfl, hx, hl, hrad, k⟩ := h
    refine ⟨_, (pss_cons (ps_if (PW.pt (pw_or (pt_not (pt_val (pe_callB call_isi rfl (b_isinstance T) (by decide +kernel) (pa_cons (pv 1) (pa_cons (pe_bltn rfl (b_list T) (by decide +kernel) (v := .ty "list") rfl) pa_nil))))) (pw_or1 (pt_cmpR op_gt (klen (K := K) rfl (b_len T) (pa_cons (pv 1) pa_nil)) (pe_gi (i_MOST_RADICES T) rfl) (nomark _)))))
      pss_never
      pss_nil)
    (pss_cons (ps_for PassesOwn.never rfl (pi_enum rfl (b_enumerate T) (pa_cons (pv 1) pa_nil)) (ktup (K := K) 2 rfl (pgs_cons (pg_name (i := 2) SC.nd rfl (Or.inl rfl)) (pgs_cons (pg_name (i := 3) SC.nd rfl (Or.inl rfl)) pgs_nil)))
      (pss_one (ps_if (pt_not (pt_val (pg_call (ok_is_between T) hr (by decide) rfl (pa_cons (pv 3) (pa_cons pe_int (pa_cons (pe_gi (i_MOST_RADIX T) rfl) pa_nil))))))
      pss_never
      pss_nil)))
    (pss_cons (ps_fld (pv 0) (pe_callTy call_list_of rfl (b_list T) (by decide +kernel) (pa_cons (pv 1) pa_nil)) rfl)
    (pss_cons (ps_fld (pv 0) (pe_lst (pa_cons pe_int pa_nil)) rfl)
    (pss_one (ps_for PassesOwn.never rfl (pi_list (pv 1)) (pg_name (i := 3) SC.nd rfl (Or.inl rfl))
      (pss_one (ps_expr (pe_bm PySem.F.plainAttrs_list PySem.F.slot_list_append PySem.F.type_list_append mt_append (kfld (K := K) (pv 0)) (pa_cons (pe_op op_mulW (kix (K := K) (kfld (K := K) (pv 0)) (pe_un un_neg pe_int)) (pv 3)) pa_nil)))))))))), ?_⟩
    have len := hrad.len
    refine q_when (b := false) (et_is (et_or (a := false) (b := false) (et_is (et_not (a := true) (et_B (ev_cb (ea_cons (ev_var rfl) (ea_cons ev_c ea_nil)) (rc_isi_list hl)))) rfl) fun _ => et_is (et_test (ev_op (ev_len (ev_var rfl) (sq_of hl)) ev_c rv_I0)) (decide_eq_false (by rw [nVs_len]; omega))) rfl) (fun q => nomatch q) fun _ H1 e1 => ?_
    refine u_seq (s_forE (K := K) (ea_cons (ev_var rfl) ea_nil) (sq_of (e1 _ _ hl)) (fun j σ H' => ∃ y z, σ = [some (.ref x), some (.ref l), y, z] ∧ Ex H H') (fun H2 e2 => ⟨none, none, rfl, e1.trans e2⟩) (fun j σ' H' _ q => let ⟨_, _, _, e⟩ := q; sq_of (e _ _ hl)) (fun j y σ' H' hy q H3 e3 => ?_) (fun σ' H' q => ?_))
    · obtain ⟨y0, z0, rfl, e⟩ := q
      obtain ⟨hm, rfl⟩ := nVs_at hy
      have lo := hrad.lo _ hm
      have hi := hrad.hi _ hm
      refine s_when (b := false) (et_is (et_not (a := true) (et_B (ev_is (ev_call (ea_cons (ev_var rfl) (ea_cons ev_c (ea_cons ev_c ea_nil))) fun H1 e Q q E => ⟨_, _, _, rfl, q⟩) ?_))) rfl) (fun q => nomatch q) (fun _ H4 e4 => ⟨_, _, rfl, (e.trans e3).trans e4⟩)
      rw [decide_eq_true (by omega), decide_eq_true (by omega)]
      rfl
    obtain ⟨y0, z0, rfl, e2⟩ := q
    -- self.parts = list(radices)
    refine u_seq (u_fldL (el_list (ev_var rfl) (sq_of (e2 _ _ hl))) fun a H3 na e3 ha => ?_)
    have nax : a ≠ x := fun z => by
      rw [z, e2 _ _ hx] at na
      cases na
    refine ⟨_, rfl, x, CS K, dx, _, rfl, e3 _ _ (e2 _ _ hx), cls_S T, no_S_parts T, by decide, ?_⟩
    generalize hH4 : upd H3 x (.ins (CS K) dx (putF "parts" (.ref a) [])) = H4
    have c4 : Chg (· = x) H H4 := by
      rw [← hH4]
      exact (Chg.ex (e2.trans e3)).trans (Chg.upd rfl)
    have x4 : H4 x = some (.ins (CS K) dx [("parts", .ref a)]) := by
      rw [← hH4, upd_same]
      rfl
    have a4 : H4 a = some (.lst (nVs rs)) := by
      rw [← hH4, upd_ne nax]
      exact ha
    -- self.places = [1]
    refine u_seq (u_fldL (el_lst (ea_cons ev_c ea_nil) (by show 1 ≤ 100000; decide)) fun b H5 nb e5 hb => ?_)
    have nbx : b ≠ x := fun z => by
      rw [z, x4] at nb
      cases nb
    have nba : a ≠ b := fun z => by
      rw [← z, a4] at nb
      cases nb
    refine ⟨_, rfl, x, CS K, dx, _, rfl, e5 _ _ x4, cls_S T, no_S_places T, by show 1 < 1000; decide, ?_⟩
    have ex : putF "places" (.ref b) [(("parts" : Str), V.ref a)] = scF a b := by kernel_rfl
    rw [ex]
    have lx : l ≠ x := fun z => by
      rw [z, hx] at hl
      cases hl
    have lb : l ≠ b := fun z => by
      rw [← z, c4 _ _ hl lx] at nb
      cases nb
    have nb0 : H b = none := by
      cases e : H b with
      | none => rfl
      | some o =>
        rw [c4 _ _ e nbx] at nb
        cases nb
    refine s_forLn (ev_var rfl) (sq_of (by rw [upd_ne lx]; exact e5 _ _ (c4 _ _ hl lx))) (fun j σ H' => ∃ z, σ = [some (.ref x), some (.ref l), y0, z] ∧ Chg (· = x) H H' ∧ H' x = some (.ins (CS K) dx (scF a b)) ∧ H' a = some (.lst (nVs rs)) ∧ H' b = some (.lst (nVs (pl 1 (rs.take j)))))
      (fun H6 e6 => ⟨z0, rfl, ((c4.trans (Chg.ex e5)).trans (Chg.upd rfl)).trans (Chg.ex e6), e6 _ _ upd_same, e6 _ _ (by rw [upd_ne nax]; exact e5 _ _ a4), e6 _ _ (by rw [upd_ne nbx]; exact hb)⟩) (fun j σ' H' _ q => let ⟨_, _, c, _⟩ := q; sq_of (c _ _ hl lx)) (fun j y σ' H' hy q => ?_) (fun σ' H' q => ?_)
    · obtain ⟨z1, rfl, c, hx', ha', hb'⟩ := q
      obtain ⟨hm, rfl⟩ := nVs_at hy
      have hj : j < rs.length := by
        have := (List.getElem?_eq_some_iff.mp hy).1
        rw [nVs_len] at this
        exact this
      have pb := (hrad.take j).prod
      have hi := hrad.hi _ hm
      have lastv : (nVs (pl 1 (rs.take j))).getLast? = some (nV (prodL (rs.take j))) := by
        unfold nVs
        rw [List.getLast?_map, pl_last, Nat.one_mul]
        rfl
      have plc : ∀ {σ : L2.St} {H9 : Hp}, σ[0]? = some (some (.ref x)) → Ex H' H9 → Ev (tFld K (tVar 0) "places") σ H9 (.ref b) := fun s e => ev_fld (ev_var s) (e _ _ hx') (cls_S T) (no_S_places T) (sc_places a b)
      refine s_app hb' (plc rfl (Ex.refl _)) (ev_op (ev_op (plc rfl (Ex.refl _)) (ev_un ev_c ru_neg) (rv_ixL (sq_of hb') (atI_neg1 lastv))) (ev_var rfl) (rv_mulN 241 40 (Nat.lt_of_le_of_lt pb (by decide)) (Nat.lt_of_le_of_lt hi (by decide)))) (by rw [nVs_len, pl_len]; have := (hrad.take j).len; omega) fun H7 e7 => ⟨_, rfl, ?_, ?_, ?_, ?_⟩
      · intro d o hd hn
        by_cases hdb : d = b
        · rw [hdb, nb0] at hd
          cases hd
        · rw [upd_ne hdb]
          exact e7 _ _ (c _ _ hd hn)
      · rw [upd_ne (Ne.symm nbx)]
        exact e7 _ _ hx'
      · rw [upd_ne nba]
        exact e7 _ _ ha'
      · rw [upd_same, take_snoc (getD_at hj), pl_snoc, Nat.one_mul]
        unfold nVs
        rw [List.map_append]
        rfl
    · obtain ⟨z1, rfl, c, hx', ha', hb'⟩ := q
      rw [nVs_len, List.take_length] at hb'
      exact k H' a b c (fresh_back (e2) na) nb0 nba hx' ha' hb'
end
end HD
set_option Elab.async false
set_option linter.all false
set_option maxRecDepth 100000
set_option maxHeartbeats 4000000
/-! Making a heap. -/
namespace HD
open PySem PySem.Spec PyProof.Rows L2 Evl
def newS (ps : List Nat) : HS := { ps := ps, time := 0, n := 0, birth := fun _ => 0, death := fun _ => none, rank := fun _ => none, freed := fun _ => false, forced := fun _ => 0, pend := fun _ => false, tg := fun _ => [], sr := fun _ => [], roots := [], nd := 0 }
/-- while the fields come: the things so far, each once -/
structure Ini (K : PySem.W.Frag) (H0 H : Hp) (x dx : Addr) (fs : List (Str × V)) (B : List Addr) (E : List (Addr × HO)) : Prop where
  self : H x = some (.ins (CH K) dx fs)
  chg : Chg (· = x) H0 H
  nd : (x :: E.map Prod.fst).Nodup
  cn : ∀ p ∈ E, H p.1 = some p.2
  fr : ∀ p ∈ E, p.1 ∈ B ∨ H0 p.1 = none
section
variable {P : Program} {w : World} {K : PySem.W.Frag} {mg : Str → Option Value} {base : Heap}
theorem ini_put {H0 H H1 : Hp} {x dx : Addr} {fs : List (Str × V)} {B : List Addr} {E : List (Addr × HO)} {p : Addr} {o : HO} {f : Str} (I : Ini K H0 H x dx fs B E) (np : H p = none) (e : Ex H H1) (hp : H1 p = some o) : Ini K H0 (upd H1 x (.ins (CH K) dx (putF f (.ref p) fs))) x dx (putF f (.ref p) fs) B (E ++ [(p, o)]) := by
  have px : p ≠ x := fun z => by
    rw [z, I.self] at np
    cases np
  have ne : ∀ q ∈ E, q.1 ≠ p := fun q hq z => by
    have := I.cn q hq
    rw [z, np] at this
    cases this
  have nx : ∀ q ∈ E, q.1 ≠ x := fun q hq z => (List.nodup_cons.mp I.nd).1 (z ▸ List.mem_map.mpr ⟨q, hq, rfl⟩)
  have n0 : H0 p = none := by
    cases e9 : H0 p with
    | none => rfl
    | some o9 =>
      rw [I.chg _ _ e9 px] at np
      cases np
  refine ⟨upd_same, (I.chg.trans (Chg.ex e)).trans (Chg.upd rfl), ?_, fun q hq => ?_, fun q hq => (List.mem_append.mp hq).elim (I.fr q) fun z => .inr (by rw [List.mem_singleton.mp z]; exact n0)⟩
  · have : x :: (E ++ [(p, o)]).map Prod.fst = (x :: E.map Prod.fst) ++ [p] := by
      rw [List.map_append]
      rfl
    rw [this]
    refine nd_snoc I.nd fun m => ?_
    rcases List.mem_cons.mp m with z | z
    · exact px z
    · obtain ⟨q, hq, e⟩ := List.mem_map.mp z
      exact ne q hq e
  · rcases List.mem_append.mp hq with z | z
    · rw [upd_ne (nx q z)]
      exact e _ _ (I.cn q z)
    · rw [List.mem_singleton.mp z, upd_ne px]
      exact hp
theorem q_iniL (T : TX K mg) {H0 H : Hp} {x dx : Addr} {fs : List (Str × V)} {B : List Addr} {E : List (Addr × HO)} {f : Str} {σ : L2.St} {D : Ends} (I : Ini K H0 H x dx fs B E) (hs : σ[0]? = some (some (.ref x))) (hn : NoAttr K (CH K) f) (hl : fs.length < 1000) (fs' : Addr → List (Str × V)) (he : ∀ p, putF f (.ref p) fs = fs' p) (k : ∀ p H', Ini K H0 H' x dx (fs' p) B (E ++ [(p, .lst [])]) → D.nx σ H') :
    sFld K (tVar 0) (tLst tNil) f D σ H :=
  u_fldL (el_lst ea_nil (Nat.zero_le _)) fun p H1 np e hp => ⟨_, hs, x, CH K, dx, fs, rfl, e _ _ I.self, cls_H T, hn, hl, k p _ (by rw [← he p]; exact ini_put I np e hp)⟩
theorem q_iniK (T : TX K mg) {H0 H : Hp} {x dx : Addr} {fs : List (Str × V)} {B : List Addr} {E : List (Addr × HO)} {f : Str} {σ : L2.St} {D : Ends} (I : Ini K H0 H x dx fs B E) (hs : σ[0]? = some (some (.ref x))) (hn : NoAttr K (CH K) f) (hl : fs.length < 1000) (fs' : Addr → List (Str × V)) (he : ∀ p, putF f (.ref p) fs = fs' p) (k : ∀ p H', Ini K H0 H' x dx (fs' p) B (E ++ [(p, .dK [])]) → D.nx σ H') :
    sFld K (tVar 0) tDNewK f D σ H := fun p np =>
  ⟨_, hs, x, CH K, dx, fs, rfl, Ex.new np _ _ I.self, cls_H T, hn, hl, k p _ (by rw [← he p]; exact ini_put I np (Ex.new np) upd_same)⟩
theorem q_iniL1 (T : TX K mg) {H0 H : Hp} {x dx : Addr} {fs : List (Str × V)} {B : List Addr} {E : List (Addr × HO)} {f : Str} {σ : L2.St} {D : Ends} {tz : TS} (I : Ini K H0 H x dx fs B E) (hs : σ[0]? = some (some (.ref x))) (hn : NoAttr K (CH K) f) (hl : fs.length < 1000) (fs' : Addr → List (Str × V)) (he : ∀ p, putF f (.ref p) fs = fs' p) (k : ∀ p H', Ini K H0 H' x dx (fs' p) B (E ++ [(p, .lst [])]) → tz D σ H') :
    tSeq (sFld K (tVar 0) (tLst tNil) f) tz D σ H := u_seq (q_iniL T I hs hn hl fs' he k)
theorem q_iniK1 (T : TX K mg) {H0 H : Hp} {x dx : Addr} {fs : List (Str × V)} {B : List Addr} {E : List (Addr × HO)} {f : Str} {σ : L2.St} {D : Ends} {tz : TS} (I : Ini K H0 H x dx fs B E) (hs : σ[0]? = some (some (.ref x))) (hn : NoAttr K (CH K) f) (hl : fs.length < 1000) (fs' : Addr → List (Str × V)) (he : ∀ p, putF f (.ref p) fs = fs' p) (k : ∀ p H', Ini K H0 H' x dx (fs' p) B (E ++ [(p, .dK [])]) → tz D σ H') :
    tSeq (sFld K (tVar 0) tDNewK f) tz D σ H := u_seq (q_iniK T I hs hn hl fs' he k)
theorem q_fldV {σ : L2.St} {H : Hp} {ta tv : TE} {D : Ends} {tz : TS} {f : Str} {v : V} {a C dx : Addr} {fs : List (Str × V)} (h : Ev tv σ H v) (e : Ev ta σ H (.ref a)) (ho : H a = some (.ins C dx fs)) (hc : Cls K C) (hn : NoAttr K C f) (hl : fs.length < 1000) (k : ∀ H1, Ex H H1 → tz D σ (upd H1 a (.ins C dx (putF f v fs)))) : tSeq (sFld K ta tv f) tz D σ H :=
  h H (Ex.refl H) _ fun H1 e1 => e H1 e1 _ fun H2 e2 => ⟨a, C, dx, fs, rfl, e2 _ _ (e1 _ _ ho), hc, hn, hl, k H2 (e1.trans e2)⟩
theorem sc_H_init : FnScope ["self", "scheme"] ["self", "scheme"] (defScope s_H_init) := ⟨rfl, rfl, rfl, by decide +kernel, rfl, by decide +kernel, by decide +kernel⟩
def sp_H_init (K : PySem.W.Frag) : Sp := fun vs H Q _ => ∃ x dx sc sdx a b parts, ∃ ps : List Nat, vs = [.ref x, .ref sc] ∧ H x = some (.ins (CH K) dx []) ∧ H sc = some (.ins (CS K) sdx (scF a b)) ∧ H a = some (.lst parts) ∧ H b = some (.lst (nVs ps)) ∧ [x, sc, a, b].Nodup ∧ (newS ps).Wf ∧
  ∀ H' A, HeapAt K H' A (newS ps) → A.at_ .inst = x → Chg (· = x) H H' → (∀ c, Own A 0 c → c ∈ [x, sc, a, b] ∨ H c = none) → Q .non H'
/-- labels by number -/
def labN : Nat → Lab
  | 0 => .inst | 1 => .sc | 2 => .scp | 3 => .scq | 4 => .births | 5 => .deaths | 6 => .ranks | 7 => .freed | 8 => .found | 9 => .forced | 10 => .pending | 11 => .targets | 12 => .sources | 13 => .roots | _ => .done
def numL : Lab → Nat
  | .inst => 0 | .sc => 1 | .scp => 2 | .scq => 3 | .births => 4 | .deaths => 5 | .ranks => 6 | .freed => 7 | .found => 8 | .forced => 9 | .pending => 10 | .targets => 11 | .sources => 12 | .roots => 13 | .done => 14 | _ => 15
theorem labNum (l : Lab) (h : okL 0 l) : labN (numL l) = l ∧ numL l < 15 := by
  cases l <;> first | exact ⟨rfl, by decide⟩ | exact absurd h (Nat.not_lt_zero _)
theorem ok_H_init (T : TX K mg) : MakeOk P w K mg base (CH K) 1 ["self", "scheme"] (sp_H_init K) := by
  have SC := sc_H_init
  refine make_mk (F_H_init T) (mk_H T) sc_H_init (fun _ _ _ _ _ _ us hl => match us, hl with | [_, _], _ => rfl) (fun vs H Q E h => ?_) (fun cdv A outer s H vs Q E hr h => ?_)
  · obtain ⟨x, dx, sc, sdx, a, b, parts, ps, rfl, _⟩ := h
    rfl
  · obtain ⟨x, dx, sc, sdx, a, b, parts, ps, rfl, hx, hsc, ha, hb, nd, wf, k⟩ := h
    refine ⟨_, (pss_cons (ps_fld (pv 0) (pv 1) rfl)
    (pss_cons (ps_fld (pv 0) pe_int rfl)
    (pss_cons (ps_fld (pv 0) (pe_lst pa_nil) rfl)
    (pss_cons (ps_fld (pv 0) (pe_lst pa_nil) rfl)
    (pss_cons (ps_fld (pv 0) (pe_lst pa_nil) rfl)
    (pss_cons (ps_fld (pv 0) (pe_lst pa_nil) rfl)
    (pss_cons (ps_fld (pv 0) (pe_lst pa_nil) rfl)
    (pss_cons (ps_fld (pv 0) (pe_lst pa_nil) rfl)
    (pss_cons (ps_fld (pv 0) (pe_lst pa_nil) rfl)
    (pss_cons (ps_fld (pv 0) (pe_lst pa_nil) rfl)
    (pss_cons (ps_fld (pv 0) (pe_lst pa_nil) rfl)
    (pss_cons (ps_fld (pv 0) pe_dnewK rfl)
    (pss_one (ps_fld (pv 0) (pe_lst pa_nil) rfl)))))))))))))), ?_⟩
    have nx : ∀ c, c ∈ [sc, a, b] → c ≠ x := fun c hc z => (List.nodup_cons.mp nd).1 (z ▸ hc)
    refine q_fldV (ev_var rfl) (ev_var rfl) hx (cls_H T) (no_H_kept_scheme T) (by decide) fun H1 e1 => ?_
    have e0 : putF "kept_scheme" (V.ref sc) [] = [(("kept_scheme" : Str), V.ref sc)] := by kernel_rfl
    rw [e0]
    generalize hHa : upd H1 x (.ins (CH K) dx [(("kept_scheme" : Str), V.ref sc)]) = Ha
    have xa : Ha x = some (.ins (CH K) dx [(("kept_scheme" : Str), V.ref sc)]) := by
      rw [← hHa]
      exact upd_same
    have ca : Chg (· = x) H Ha := by
      rw [← hHa]
      exact (Chg.ex e1).trans (Chg.upd rfl)
    refine q_fldV (ev_c (v := .int 0)) (ev_var rfl) xa (cls_H T) (no_H_time T) (by show 1 < 1000; decide) fun H2 e2 => ?_
    have e3 : putF "time" (V.int 0) [(("kept_scheme" : Str), V.ref sc)] = [(("kept_scheme" : Str), V.ref sc), (("time" : Str), V.int 0)] := by kernel_rfl
    rw [e3]
    generalize hHb : upd H2 x (.ins (CH K) dx [(("kept_scheme" : Str), V.ref sc), (("time" : Str), V.int 0)]) = Hb
    have cb : Chg (· = x) H Hb := by
      rw [← hHb]
      exact (ca.trans (Chg.ex e2)).trans (Chg.upd rfl)
    have I0 : Ini K H Hb x dx [(("kept_scheme" : Str), V.ref sc), (("time" : Str), V.int 0)] [sc, a, b] [(sc, .ins (CS K) sdx (scF a b)), (a, .lst parts), (b, .lst (nVs ps))] := by
      refine ⟨by rw [← hHb]; exact upd_same, cb, nd, fun p hp => ?_, fun p hp => .inl (List.mem_map.mpr ⟨p, hp, rfl⟩)⟩
      simp only [List.mem_cons, List.not_mem_nil, or_false] at hp
      rcases hp with rfl | rfl | rfl
      · exact cb _ _ hsc (nx _ (by simp))
      · exact cb _ _ ha (nx _ (by simp))
      · exact cb _ _ hb (nx _ (by simp))
    refine (q_iniL1 T I0 rfl (no_H_births T) (by show 2 < 1000; decide) (fun p => [(("kept_scheme" : Str), V.ref sc), (("time" : Str), V.int 0), (("births" : Str), V.ref p)]) (fun p => by kernel_rfl) fun p1 H1 I1 => ?_)
    refine (q_iniL1 T I1 rfl (no_H_deaths T) (by show 3 < 1000; decide) (fun p => [(("kept_scheme" : Str), V.ref sc), (("time" : Str), V.int 0), (("births" : Str), V.ref p1), (("deaths" : Str), V.ref p)]) (fun p => by kernel_rfl) fun p2 H2 I2 => ?_)
    refine (q_iniL1 T I2 rfl (no_H_ranks T) (by show 4 < 1000; decide) (fun p => [(("kept_scheme" : Str), V.ref sc), (("time" : Str), V.int 0), (("births" : Str), V.ref p1), (("deaths" : Str), V.ref p2), (("ranks" : Str), V.ref p)]) (fun p => by kernel_rfl) fun p3 H3 I3 => ?_)
    refine (q_iniL1 T I3 rfl (no_H_freed T) (by show 5 < 1000; decide) (fun p => [(("kept_scheme" : Str), V.ref sc), (("time" : Str), V.int 0), (("births" : Str), V.ref p1), (("deaths" : Str), V.ref p2), (("ranks" : Str), V.ref p3), (("freed" : Str), V.ref p)]) (fun p => by kernel_rfl) fun p4 H4 I4 => ?_)
    refine (q_iniL1 T I4 rfl (no_H_found T) (by show 6 < 1000; decide) (fun p => [(("kept_scheme" : Str), V.ref sc), (("time" : Str), V.int 0), (("births" : Str), V.ref p1), (("deaths" : Str), V.ref p2), (("ranks" : Str), V.ref p3), (("freed" : Str), V.ref p4), (("found" : Str), V.ref p)]) (fun p => by kernel_rfl) fun p5 H5 I5 => ?_)
    refine (q_iniL1 T I5 rfl (no_H_forced_to T) (by show 7 < 1000; decide) (fun p => [(("kept_scheme" : Str), V.ref sc), (("time" : Str), V.int 0), (("births" : Str), V.ref p1), (("deaths" : Str), V.ref p2), (("ranks" : Str), V.ref p3), (("freed" : Str), V.ref p4), (("found" : Str), V.ref p5), (("forced_to" : Str), V.ref p)]) (fun p => by kernel_rfl) fun p6 H6 I6 => ?_)
    refine (q_iniL1 T I6 rfl (no_H_pending T) (by show 8 < 1000; decide) (fun p => [(("kept_scheme" : Str), V.ref sc), (("time" : Str), V.int 0), (("births" : Str), V.ref p1), (("deaths" : Str), V.ref p2), (("ranks" : Str), V.ref p3), (("freed" : Str), V.ref p4), (("found" : Str), V.ref p5), (("forced_to" : Str), V.ref p6), (("pending" : Str), V.ref p)]) (fun p => by kernel_rfl) fun p7 H7 I7 => ?_)
    refine (q_iniL1 T I7 rfl (no_H_targets T) (by show 9 < 1000; decide) (fun p => [(("kept_scheme" : Str), V.ref sc), (("time" : Str), V.int 0), (("births" : Str), V.ref p1), (("deaths" : Str), V.ref p2), (("ranks" : Str), V.ref p3), (("freed" : Str), V.ref p4), (("found" : Str), V.ref p5), (("forced_to" : Str), V.ref p6), (("pending" : Str), V.ref p7), (("targets" : Str), V.ref p)]) (fun p => by kernel_rfl) fun p8 H8 I8 => ?_)
    refine (q_iniL1 T I8 rfl (no_H_sources T) (by show 10 < 1000; decide) (fun p => [(("kept_scheme" : Str), V.ref sc), (("time" : Str), V.int 0), (("births" : Str), V.ref p1), (("deaths" : Str), V.ref p2), (("ranks" : Str), V.ref p3), (("freed" : Str), V.ref p4), (("found" : Str), V.ref p5), (("forced_to" : Str), V.ref p6), (("pending" : Str), V.ref p7), (("targets" : Str), V.ref p8), (("sources" : Str), V.ref p)]) (fun p => by kernel_rfl) fun p9 H9 I9 => ?_)
    refine (q_iniK1 T I9 rfl (no_H_root_set T) (by show 11 < 1000; decide) (fun p => [(("kept_scheme" : Str), V.ref sc), (("time" : Str), V.int 0), (("births" : Str), V.ref p1), (("deaths" : Str), V.ref p2), (("ranks" : Str), V.ref p3), (("freed" : Str), V.ref p4), (("found" : Str), V.ref p5), (("forced_to" : Str), V.ref p6), (("pending" : Str), V.ref p7), (("targets" : Str), V.ref p8), (("sources" : Str), V.ref p9), (("root_set" : Str), V.ref p)]) (fun p => by kernel_rfl) fun p10 H10 I10 => ?_)
    refine q_iniL T I10 rfl (no_H_done T) (by show 12 < 1000; decide) (fun p => [(("kept_scheme" : Str), V.ref sc), (("time" : Str), V.int 0), (("births" : Str), V.ref p1), (("deaths" : Str), V.ref p2), (("ranks" : Str), V.ref p3), (("freed" : Str), V.ref p4), (("found" : Str), V.ref p5), (("forced_to" : Str), V.ref p6), (("pending" : Str), V.ref p7), (("targets" : Str), V.ref p8), (("sources" : Str), V.ref p9), (("root_set" : Str), V.ref p10), (("done" : Str), V.ref p)]) (fun p => by kernel_rfl) fun p11 H11 I11 => ?_
    clear I0 I1 I2 I3 I4 I5 I6 I7 I8 I9 I10
    let A : Rep := { at_ := fun l => ([x, sc, a, b, p1, p2, p3, p4, p5, p6, p7, p8, p9, p10, p11] : List Addr).getD (numL l) x, dx := dx, sdx := sdx, fv := [], fo := [], dn := [], parts := parts }
    have I : Ini K H H11 x dx (hpF A 0) [sc, a, b] [(sc, .ins (CS K) sdx (scF a b)), (a, .lst parts), (b, .lst (nVs ps)), (p1, .lst []), (p2, .lst []), (p3, .lst []), (p4, .lst []), (p5, .lst []), (p6, .lst []), (p7, .lst []), (p8, .lst []), (p9, .lst []), (p10, .dK []), (p11, .lst [])] := by
      simp only [List.cons_append, List.nil_append] at I11
      exact I11
    have hA : HeapAt K H11 A (newS ps) := by
      refine ⟨fun l hl => ?_, fun l l' hl hl' e => ?_, wf, rfl, fun i hi => absurd hi (Nat.not_lt_zero _), rfl, rfl⟩
      · cases l with
        | inst => exact I.self
        | sc => exact I.cn (sc, .ins (CS K) sdx (scF a b)) (by simp)
        | scp => exact I.cn (a, .lst parts) (by simp)
        | scq => exact I.cn (b, .lst (nVs ps)) (by simp)
        | births => exact I.cn (p1, .lst []) (by simp)
        | deaths => exact I.cn (p2, .lst []) (by simp)
        | ranks => exact I.cn (p3, .lst []) (by simp)
        | freed => exact I.cn (p4, .lst []) (by simp)
        | found => exact I.cn (p5, .lst []) (by simp)
        | forced => exact I.cn (p6, .lst []) (by simp)
        | pending => exact I.cn (p7, .lst []) (by simp)
        | targets => exact I.cn (p8, .lst []) (by simp)
        | sources => exact I.cn (p9, .lst []) (by simp)
        | roots => exact I.cn (p10, .dK []) (by simp)
        | done => exact I.cn (p11, .lst []) (by simp)
        | tg i => exact absurd hl (Nat.not_lt_zero _)
        | sr i => exact absurd hl (Nat.not_lt_zero _)
      · have q1 := labNum l hl
        have q2 := labNum l' hl'
        have e : ([x, sc, a, b, p1, p2, p3, p4, p5, p6, p7, p8, p9, p10, p11] : List Addr).getD (numL l) x = ([x, sc, a, b, p1, p2, p3, p4, p5, p6, p7, p8, p9, p10, p11] : List Addr).getD (numL l') x := e
        have at1 : ∀ n, n < 15 → ([x, sc, a, b, p1, p2, p3, p4, p5, p6, p7, p8, p9, p10, p11] : List Addr)[n]? = some (([x, sc, a, b, p1, p2, p3, p4, p5, p6, p7, p8, p9, p10, p11] : List Addr).getD n x) := fun n hn => by
          rw [List.getD_eq_getElem?_getD, List.getElem?_eq_getElem hn]
          rfl
        have r1 := at1 _ q1.2
        rw [e] at r1
        have := nd_ix I.nd r1 (at1 _ q2.2)
        rw [← q1.1, ← q2.1, this]
    refine k H11 A hA rfl I.chg fun c hc => ?_
    obtain ⟨l, hl, e⟩ := hc
    by_cases hm : c ∈ [x, sc, a, b]
    · exact .inl hm
    have q := labNum l hl
    have hc : c ∈ (x :: ([(sc, HO.ins (CS K) sdx (scF a b)), (a, .lst parts), (b, .lst (nVs ps)), (p1, .lst []), (p2, .lst []), (p3, .lst []), (p4, .lst []), (p5, .lst []), (p6, .lst []), (p7, .lst []), (p8, .lst []), (p9, .lst []), (p10, .dK []), (p11, .lst [])] : List (Addr × HO)).map Prod.fst) := by
      rw [← e]
      show ([x, sc, a, b, p1, p2, p3, p4, p5, p6, p7, p8, p9, p10, p11] : List Addr).getD (numL l) x ∈ [x, sc, a, b, p1, p2, p3, p4, p5, p6, p7, p8, p9, p10, p11]
      rw [List.getD_eq_getElem?_getD, List.getElem?_eq_getElem q.2]
      exact List.getElem_mem _
    rcases List.mem_cons.mp hc with z | z
    · exact absurd (z ▸ List.mem_cons_self ..) hm
    · obtain ⟨p, hp, rfl⟩ := List.mem_map.mp z
      exact (I.fr p hp).elim (fun y => absurd (List.mem_cons_of_mem _ y) hm) .inr
end
end HD
set_option Elab.async false
set_option linter.all false
set_option maxRecDepth 100000
set_option maxHeartbeats 4000000
/-! Heap(Scheme(radices)). -/
namespace HD
open PySem PySem.Spec PyProof.Rows L2 Evl
theorem newS_wf {rs : List Nat} (h : Rad rs) : (newS (pl 1 rs)).Wf :=
  ⟨pl_one rs, h.pos, Nat.zero_le _, by show (pl 1 rs).length ≤ 7; rw [pl_len]; have := h.len; omega, h.big, by show 0 < 2 ^ 300; exact Nat.pos_of_ne_zero (by simp), fun i hi => absurd hi (Nat.not_lt_zero _), fun i hi => absurd hi (Nat.not_lt_zero _),
    fun i j hi => absurd hi (Nat.not_lt_zero _), fun i j hi => absurd hi (Nat.not_lt_zero _), List.nodup_nil, fun i hi => by cases hi⟩
section
variable {K : PySem.W.Frag} {mg : Str → Option Value} {H : Hp} {σ : L2.St} {ta : TE} {Q : VK} {E1 E2 : XK}
theorem u_heap (T : TX K mg) {l : Addr} {rs : List Nat} (h : Ev ta σ H (.ref l)) (hl : H l = some (.lst (nVs rs))) (hr : Rad rs) (k : ∀ H' A, HeapAt K H' A (newS (pl 1 rs)) → Ex H H' → (∀ c, Own A 0 c → H c = none) → Q (.ref (A.at_ .inst)) H') :
    tMake (CH K) (sp_H_init K) [] E1 (tCons (tMake (CS K) (sp_S_init K) [] E2 (tCons ta tNil)) tNil) σ H Q := h H (Ex.refl H) _ fun H1 e1 s sdx ns nsd nds => by
  have hl1 := e1 _ _ hl
  have ls : l ≠ s := fun z => by
    rw [z, ns] at hl1
    cases hl1
  have ld : l ≠ sdx := fun z => by
    rw [z, nsd] at hl1
    cases hl1
  have em : Ex H1 (upd (upd H1 sdx (.own s)) s (.ins (CS K) sdx [])) := (Ex.new nsd).trans (Ex.new (by rw [upd_ne (Ne.symm nds)]; exact ns))
  refine ⟨s, sdx, l, rs, rfl, upd_same, em _ _ hl1, hr, fun H2 a b c2 na nb nab h1 h2 h3 => ⟨rfl, ?_⟩⟩
  have e12 : Ex H1 H2 := fun d o hd => c2 _ _ (em _ _ hd) fun z => by
    have z : d = s := z
    rw [z, ns] at hd
    cases hd
  have nas : a ≠ s := fun z => by
    rw [z, upd_same] at na
    cases na
  have nbs : b ≠ s := fun z => by
    rw [z, upd_same] at nb
    cases nb
  have na1 : H1 a = none := fresh_back em na
  have nb1 : H1 b = none := fresh_back em nb
  intro x dx nx ndx ndxx
  have e23 : Ex H2 (upd (upd H2 dx (.own x)) x (.ins (CH K) dx [])) := (Ex.new ndx).trans (Ex.new (by rw [upd_ne (Ne.symm ndxx)]; exact nx))
  have xs : x ≠ s := fun z => by
    rw [z, h1] at nx
    cases nx
  have xa : x ≠ a := fun z => by
    rw [z, h2] at nx
    cases nx
  have xb : x ≠ b := fun z => by
    rw [z, h3] at nx
    cases nx
  refine ⟨x, dx, s, sdx, a, b, _, pl 1 rs, rfl, upd_same, e23 _ _ h1, e23 _ _ h2, e23 _ _ h3, ?_, newS_wf hr, fun H3 A hA hin c3 own => ⟨rfl, ?_⟩⟩
  · simp only [List.nodup_cons, List.mem_cons, List.not_mem_nil, or_false, not_or, List.nodup_nil, and_true, not_false_eq_true]
    exact ⟨⟨xs, xa, xb⟩, ⟨Ne.symm nas, Ne.symm nbs⟩, nab⟩
  have e13 : Ex H1 H3 := fun d o hd => c3 _ _ (e23 _ _ (e12 _ _ hd)) fun z => by
    have z : d = x := z
    have := fresh_back e12 nx
    rw [z, this] at hd
    cases hd
  rw [← hin]
  refine k H3 A hA (e1.trans e13) fun c hc => ?_
  refine fresh_back e1 ?_
  rcases own c hc with z | z
  · simp only [List.mem_cons, List.not_mem_nil, or_false] at z
    rcases z with rfl | rfl | rfl | rfl
    · exact fresh_back e12 nx
    · exact ns
    · exact na1
    · exact nb1
  · exact fresh_back e12 (fresh_back e23 z)
end
end HD
set_option Elab.async false
set_option linter.all false
/-! Plain: which collections a heap's questions visit. -/
namespace HD
/-- each place divides the next -/
def Ch (ps : List Nat) : Prop := ∀ j, j + 1 < ps.length → plc ps j ∣ plc ps (j + 1)
theorem Ch.dvd {ps : List Nat} (h : Ch ps) {j : Nat} : ∀ {k : Nat}, j ≤ k → k < ps.length → plc ps j ∣ plc ps k
  | 0, a, _ => by
    have e : j = 0 := by omega
    rw [e]
    exact Nat.dvd_refl _
  | k + 1, a, b => by
    by_cases e : j = k + 1
    · rw [e]
      exact Nat.dvd_refl _
    · exact Nat.dvd_trans (h.dvd (k := k) (by omega) (by omega)) (h k b)
theorem lvlL_ge {t : Nat} : ∀ {l : List Nat} {g : Nat}, g ≤ l.length → (∀ i, i < g → t % l.getD i 1 = 0) → g ≤ lvlL t l
  | [], g, h, _ => h
  | p :: l, 0, _, _ => Nat.zero_le _
  | p :: l, g + 1, h, k => by
    show g + 1 ≤ if t % p = 0 then 1 + lvlL t l else 0
    have k0 : t % p = 0 := k 0 (Nat.succ_pos _)
    rw [if_pos k0]
    have := lvlL_ge (l := l) (g := g) (Nat.le_of_succ_le_succ h) fun i hi => k (i + 1) (Nat.succ_lt_succ hi)
    omega
theorem lvl_ge {ps : List Nat} (h1 : ∃ r, ps = 1 :: r) (c : Ch ps) {t g : Nat} (hg : g < ps.length) (hd : t % plc ps g = 0) : g ≤ lvl ps t := by
  obtain ⟨r, rfl⟩ := h1
  refine lvlL_ge (l := r) (Nat.le_of_lt_succ hg) fun i hi => ?_
  show t % plc (1 :: r) (i + 1) = 0
  exact Nat.mod_eq_zero_of_dvd (Nat.dvd_trans (c.dvd (by omega) hg) (Nat.dvd_of_mod_eq_zero hd))
theorem nxt_mod {ps : List Nat} (t l : Nat) : nxt ps t l % plc ps l = 0 := by
  unfold nxt
  exact Nat.mul_mod_left _ _
theorem nxt_up {ps : List Nat} (t l : Nat) : nxt ps t l ≤ t + plc ps l := by
  unfold nxt
  rw [Nat.add_mul, Nat.one_mul]
  have := Nat.div_mul_le_self t (plc ps l)
  omega
theorem lvl_nxt {ps : List Nat} (h1 : ∃ r, ps = 1 :: r) (c : Ch ps) {t g : Nat} (hg : g < ps.length) : g ≤ lvl ps (nxt ps t g) := lvl_ge h1 c hg (nxt_mod t g)
/-- the collections at which a generation grows -/
def vis (ps : List Nat) : Nat → Nat → Nat → List Nat
  | 0, _, _ => []
  | f + 1, t, g => if g < lastOf ps then nxt ps t g :: vis ps f (nxt ps t g) (min (lastOf ps) (lvl ps (nxt ps t g) + 1)) else []
theorem vis_end (ps : List Nat) (f t g : Nat) (h : ¬ g < lastOf ps) : vis ps f t g = [] := by
  cases f with
  | zero => rfl
  | succ f => exact if_neg h
def endT : Nat → List Nat → Nat
  | t, [] => t
  | _, a :: r => endT a r
theorem endT_snoc : ∀ {t a : Nat} {l : List Nat}, endT t (l ++ [a]) = a
  | _, _, [] => rfl
  | _, a, b :: l => endT_snoc (t := b) (a := a) (l := l)
def cntT (f e : Nat) (vs : List Nat) : Nat := (vs.filter fun t => decide (f < t) && decide (t ≤ e)).length
theorem cntT_snoc {f e a : Nat} {vs : List Nat} : cntT f e (vs ++ [a]) = cntT f e vs + if (decide (f < a) && decide (a ≤ e)) = true then 1 else 0 := by
  unfold cntT
  rw [List.filter_append, List.length_append]
  congr 1
  by_cases h : (decide (f < a) && decide (a ≤ e)) = true
  · rw [List.filter_cons, if_pos h, if_pos h]
    rfl
  · rw [List.filter_cons, if_neg h, if_neg h]
    rfl
/-- the looks of collections behind first up to e, by the collections visited from t on -/
def lookV (ps : List Nat) (t : Nat) (vs : List Nat) (f e : Nat) : Nat :=
  cntT f e vs + if max f (endT t vs) < e then e / plc ps (lastOf ps) - max f (endT t vs) / plc ps (lastOf ps) else 0
def HS.vis (S : HS) (i : Nat) : List Nat := HD.vis S.ps S.ps.length S.time (S.gen i)
def endB (d : Option Nat) (e : Nat) : Nat := match d with
  | none => e
  | some d => min e d
noncomputable def HS.looks (S : HS) (i f e : Nat) : Nat := lookV S.ps S.time (S.vis i) f (endB (S.due i) e)
/-- the candidates of remembered_until -/
def HS.meets (S : HS) (a b : Nat) : List Nat := (S.time :: (List.range S.ps.length).map (nxt S.ps S.time)).filter fun t => decide (S.genAt a t ≤ S.genAt b t)
noncomputable def HS.ends (S : HS) (a b : Nat) : List Nat := [S.due a, S.due b].filterMap id
theorem plc_lt {ps : List Nat} (h : ∀ p ∈ ps, p < 2 ^ 300) (l : Nat) : plc ps l < 2 ^ 300 := by
  unfold plc
  rw [List.getD_eq_getElem?_getD]
  cases e : ps[l]? with
  | none => exact Nat.one_lt_two_pow (by decide)
  | some p => exact h p (List.mem_of_getElem? e)
theorem HS.Wf.fat_lt {S : HS} (w : S.Wf) (i : Nat) : S.fat i < 2 ^ 301 := by
  have h1 := nxt_up (ps := S.ps) S.time ((S.rank i).getD 0)
  have h2 := plc_lt w.psb ((S.rank i).getD 0)
  have h3 := w.tb
  have e : 2 ^ 301 = 2 ^ 300 + 2 ^ 300 := by rw [Nat.pow_succ]; omega
  rw [e]
  exact Nat.lt_of_le_of_lt h1 (Nat.add_lt_add h3 h2)
end HD
set_option Elab.async false
set_option linter.all false
set_option maxRecDepth 100000
set_option maxHeartbeats 4000000
/-! The module remembered (first part): generation_at, check_stretch, looks_at, looks, total_work, work_at. -/
namespace HD
open PySem PySem.Spec PyProof.Rows L2 Evl
section
variable {P : Program} {w : World} {K : PySem.W.Frag} {mg : Str → Option Value} {base : Heap}
theorem ev_due2 (T : TX K mg) {H : Hp} {A : Rep} {S : HS} {σ : L2.St} {ta tb : TE} {E : XK} (h : HeapAt K H A S) (g : S.Good) (e : Ev ta σ H (.ref (A.at_ .inst))) {i : Nat} (hi : i < S.n) (hf : S.freed i = false) (e2 : Ev tb σ H (nV i)) :
    Ev (tMeth (CH K) "due" (sp_H_due K) [] E ta (tCons tb tNil)) σ H (oV (S.due i)) :=
  ev_due T h g e hi hf (Nat.lt_trans (h.wf.fat_lt i) (Nat.pow_lt_pow_right (by decide) (by decide))) e2
theorem sc_generation_at : FnScope ["heap", "item", "time", "by_digits"] ["heap", "item", "time"] (defScope s_generation_at) := ⟨rfl, rfl, rfl, by decide +kernel, rfl, by decide +kernel, by decide +kernel⟩
def sp_generation_at (K : PySem.W.Frag) : Sp := fun vs H Q _ => ∃ A S i t, vs = [.ref (A.at_ .inst), nV i, nV t] ∧ HeapAt K H A S ∧ i < S.n ∧ RetV (nV (S.genAt i t)) H Q
theorem ok_generation_at (T : TX K mg) : Glob P w K mg base 3 "generation_at" ["heap", "item", "time"] (sp_generation_at K) := by
  have SC := sc_generation_at
  refine glob_mk (F_generation_at T) (g_generation_at T) sc_generation_at (fun _ _ _ _ _ _ us hl => match us, hl with | [_, _, _], _ => rfl) (fun vs H Q E h => ?_) (fun cdv A outer s H vs Q E hr h => ?_)
  · obtain ⟨A, S, i, t, rfl, _⟩ := h
    rfl
  · obtain ⟨A, S, i, t, rfl, h, hi, k⟩ := h
    refine ⟨_, (pss_cons (ps_set (i := 3) SC.nd rfl (Or.inl rfl) (pm_call (ok_S_generation_of T) (cls_S T) hr (by decide) (kfld (K := K) (pv 0)) (pa_cons (kix (K := K) (kfld (K := K) (pv 0)) (pv 1)) (pa_cons (pv 2) pa_nil))))
    (pss_one (ps_ret (pe_callB (call_min2 rfl) rfl (b_min T) (by decide +kernel) (pa_cons (pm_call0 (ok_S_last T) (cls_S T) hr (by decide) (kfld (K := K) (pv 0))) (pa_cons (pe_callB (call_max2 rfl) rfl (b_max T) (by decide +kernel) (pa_cons (pv 3) (pa_cons (kix (K := K) (kfld (K := K) (pv 0)) (pv 1)) pa_nil))) pa_nil)))))), ?_⟩
    refine q_asg (ev_dig (evf_sc T h (ev_var rfl)) h.scheme h.wf.p h.wf.psz (ea_cons (evi_births T h (ev_var rfl) hi (ev_var rfl)) (ea_cons (ev_var rfl) ea_nil))) fun H1 e1 => ?_
    have g := h.ex e1
    exact s_ret (ev_min2N (ea_cons (ev_last (evf_sc T g (ev_var rfl)) g.scheme h.wf.p.len) (ea_cons (ev_max2N (ea_cons (ev_var rfl) (ea_cons (evi_forced T g (ev_var rfl) hi (ev_var rfl)) ea_nil))) ea_nil))) fun H2 e2 => k H2 (e1.trans e2)
theorem sc_check_stretch : FnScope ["heap", "first", "last"] ["heap", "first", "last"] (defScope s_check_stretch) := ⟨rfl, rfl, rfl, by decide +kernel, rfl, by decide +kernel, by decide +kernel⟩
/-- a stretch of times from the present one on -/
def HS.Str (S : HS) (f e : Nat) : Prop := S.time ≤ f ∧ f ≤ e ∧ e ≤ 10000000000000000000000000000000000000000
def sp_check_stretch (K : PySem.W.Frag) : Sp := fun vs H Q _ => ∃ A S f e, vs = [.ref (A.at_ .inst), nV f, nV e] ∧ HeapAt K H A S ∧ S.Str f e ∧ RetV .non H Q
theorem ok_check_stretch (T : TX K mg) : Glob P w K mg base 4 "check_stretch" ["heap", "first", "last"] (sp_check_stretch K) := by
  have SC := sc_check_stretch
  refine glob_mk (F_check_stretch T) (g_check_stretch T) sc_check_stretch (fun _ _ _ _ _ _ us hl => match us, hl with | [_, _, _], _ => rfl) (fun vs H Q E h => ?_) (fun cdv A outer s H vs Q E hr h => ?_)
  · obtain ⟨A, S, f, e, rfl, _⟩ := h
    rfl
  · obtain ⟨A, S, f, e, rfl, h, ⟨s1, s2, s3⟩, k⟩ := h
    refine ⟨_, (pss_cons (ps_expr (pg_call (ok_check_time T) hr (by decide) rfl (pa_cons (pv 1) (pa_cons (kfld (K := K) (pv 0)) pa_nil))))
    (pss_one (ps_expr (pg_call (ok_check_time T) hr (by decide) rfl (pa_cons (pv 2) (pa_cons (pv 1) pa_nil)))))), ?_⟩
    refine q_drop (ev_call (ea_cons (ev_var rfl) (ea_cons (evf_time T h (ev_var rfl)) ea_nil)) fun H1 e Q q E => ⟨_, _, rfl, by omega, by omega, q⟩) fun H1 e1 => ?_
    exact s_drop (ev_call (ea_cons (ev_var rfl) (ea_cons (ev_var rfl) ea_nil)) fun H1 e Q q E => ⟨_, _, rfl, by omega, by omega, q⟩) fun H2 e2 => k H2 (e1.trans e2)
theorem sc_looks_at : FnScope ["heap", "item", "first", "last", "scheme", "due", "end", "time", "generation", "total", "begin"] ["heap", "item", "first", "last"] (defScope s_looks_at) := ⟨rfl, rfl, rfl, by decide +kernel, rfl, by decide +kernel, by decide +kernel⟩
/-- what the questions ask of a heap -/
structure HS.Fit (S : HS) : Prop where
  good : S.Good
  ch : Ch S.ps
def sp_looks_at (K : PySem.W.Frag) : Sp := fun vs H Q _ => ∃ A S i f e, vs = [.ref (A.at_ .inst), nV i, nV f, nV e] ∧ HeapAt K H A S ∧ S.Fit ∧ i < S.n ∧ S.freed i = false ∧ RetV (nV (S.looks i f e)) H Q
theorem ok_looks_at (T : TX K mg) : Glob P w K mg base 6 "looks_at" ["heap", "item", "first", "last"] (sp_looks_at K) := by
  have SC := sc_looks_at
  refine glob_mk (F_looks_at T) (g_looks_at T) sc_looks_at (fun _ _ _ _ _ _ us hl => match us, hl with | [_, _, _, _], _ => rfl) (fun vs H Q E h => ?_) (fun cdv A outer s H vs Q E hr h => ?_)
  · obtain ⟨A, S, i, f, e, rfl, _⟩ := h
    rfl
  · obtain ⟨A, S, i, f, e, rfl, h, ⟨g, ch⟩, hi, hf, k⟩ := h
    refine ⟨_, (pss_cons (ps_set (i := 4) SC.nd rfl (Or.inl rfl) (kfld (K := K) (pv 0)))
    (pss_cons (ps_set (i := 5) SC.nd rfl (Or.inl rfl) (pm_call (ok_H_due T) (cls_H T) hr (by decide) (pv 0) (pa_cons (pv 1) pa_nil)))
    (pss_cons (ps_set (i := 6) SC.nd rfl (Or.inl rfl) (pe_ifExp (pt_cmp (pc_isN (pv 5))) (pv 3) (pe_callB (call_min2 rfl) rfl (b_min T) (by decide +kernel) (pa_cons (pv 3) (pa_cons (pv 5) pa_nil)))))
    (pss_cons (ps_par (i := 7) (j := 8) (by rfl) SC.nd rfl rfl (by decide) rfl rfl (pa_cons (kfld (K := K) (pv 0)) (pa_cons (pm_call (ok_H_generation_of T) (cls_H T) hr (by decide) (pv 0) (pa_cons (pv 1) pa_nil)) pa_nil)) (by rfl))
    (pss_cons (ps_set (i := 9) SC.nd rfl (Or.inl rfl) pe_int)
    (pss_cons (ps_while PassesOwn.never (pt_cmpR op_lt (pv 8) (pm_call0 (ok_S_last T) (cls_S T) hr (by decide) (pv 4)) (nomark _))
      (pss_cons (ps_set (i := 7) SC.nd rfl (Or.inl rfl) (pm_call (ok_S_next_of T) (cls_S T) hr (by decide) (pv 4) (pa_cons (pv 7) (pa_cons (pv 8) pa_nil))))
    (pss_cons (ps_aug (i := 9) SC.nd rfl (Or.inl rfl) (pe_callTy call_int1 rfl (b_int T) (by decide +kernel) (pa_cons (pe_chain op_lt op_le (pv 2) (pv 7) (pv 6)) pa_nil)) ip_add)
    (pss_one (ps_set (i := 8) SC.nd rfl (Or.inl rfl) (pe_callB (call_min2 rfl) rfl (b_min T) (by decide +kernel) (pa_cons (pm_call0 (ok_S_last T) (cls_S T) hr (by decide) (pv 4)) (pa_cons (pe_op op_add (pm_call (ok_S_level_of T) (cls_S T) hr (by decide) (pv 4) (pa_cons (pv 7) pa_nil)) pe_int) pa_nil))))))))
    (pss_cons (ps_set (i := 10) SC.nd rfl (Or.inl rfl) (pe_callB (call_max2 rfl) rfl (b_max T) (by decide +kernel) (pa_cons (pv 2) (pa_cons (pv 7) pa_nil))))
    (pss_one (ps_ret (pe_op op_add (pv 9) (pe_ifExp (pt_cmpR op_lt (pv 10) (pv 6) (nomark _)) (pm_call (ok_S_multiples T) (cls_S T) hr (by decide) (pv 4) (pa_cons (pm_call0 (ok_S_last T) (cls_S T) hr (by decide) (pv 4)) (pa_cons (pv 10) (pa_cons (pv 6) pa_nil)))) pe_int))))))))))), ?_⟩
    have hp := h.wf.p
    have lastlt := lastOf_lt hp
    refine q_asg (evf_sc T h (ev_var rfl)) fun H1 e1 => ?_
    have h1 := h.ex e1
    refine q_asg (ev_due2 T h1 g (ev_var rfl) hi hf (ev_var rfl)) fun H2 e2 => ?_
    have h2 := h1.ex e2
    refine q_asg (v := nV (endB (S.due i) e)) (ev_if (b := (S.due i).isNone) (et_B (ev_is (ev_isN (ev_var rfl)) (congrArg V.bl oV_dec))) (fun hb => ?_) (fun hb => ?_)) fun H3 e3 => ?_
    · rw [Option.isNone_iff_eq_none.mp hb]
      exact ev_var rfl
    · cases hd : S.due i with
      | none =>
        rw [hd] at hb
        cases hb
      | some d => exact ev_min2N (ea_cons (ev_var rfl) (ea_cons (ev_var rfl) ea_nil))
    have h3 := h2.ex e3
    unfold HS.looks at k
    generalize endB (S.due i) e = en at k ⊢
    refine u_seq ((ea_cons (evf_time T h3 (ev_var rfl)) (ea_cons (ev_gen T h3 (ev_var rfl) hi (ev_var rfl)) ea_nil)) H3 (Ex.refl H3) _ fun H4 e4 => ⟨_, _, rfl, ?_⟩)
    have h4 := h3.ex e4
    refine q_asg (v := nV 0) ev_c fun H5 e5 => ?_
    have e05 := (((e1.trans e2).trans e3).trans e4).trans e5
    generalize hdv : oV (S.due i) = dv
    refine q_while (fun m σ H' => ∃ t gn, ∃ vs : List Nat, σ = [some (.ref (A.at_ .inst)), some (nV i), some (nV f), some (nV e), some (.ref (A.at_ .sc)), some dv, some (nV en), some (nV t), some (nV gn), some (nV (cntT f en vs)), none] ∧ Ex H H' ∧
      ∃ fu, S.vis i = vs ++ HD.vis S.ps fu t gn ∧ lastOf S.ps - gn ≤ fu ∧ endT S.time vs = t ∧ gn ≤ lastOf S.ps ∧ t < (gn + 1) * 2 ^ 300 ∧ m = lastOf S.ps - gn) (lastOf S.ps - S.gen i) ⟨S.time, S.gen i, [], rfl, e05, S.ps.length, rfl, by omega, rfl, S.gen_le i, Nat.lt_of_lt_of_le h.wf.tb (by rw [Nat.add_mul, Nat.one_mul]; exact Nat.le_add_left _ _), rfl⟩ ?_
    rintro m σ H6 ⟨t, gn, vs, rfl, e6, fu, v1, v2, v3, v4, v5, rfl⟩
    have h6 := h.ex e6
    have s6 := h6.scheme
    refine ⟨decide (gn < lastOf S.ps), et_test (ev_op (ev_var rfl) (ev_last (ev_var rfl) s6 hp.len) rv_ltN), fun hb H7 e7 => ?_, fun hb H7 e7 => ?_⟩
    · have hlt : gn < lastOf S.ps := of_decide_eq_true hb
      have psn := h.wf.psn
      have ht : t < 2 ^ 700 := by
        have a1 : (gn + 1) * 2 ^ 300 ≤ 8 * 2 ^ 300 := Nat.mul_le_mul (by omega) (Nat.le_refl _)
        have a2 : 8 * 2 ^ 300 = 2 ^ 303 := by
          have : (8 : Nat) = 2 ^ 3 := by decide
          rw [this, ← Nat.pow_add]
        rw [a2] at a1
        exact Nat.lt_of_lt_of_le v5 (Nat.le_trans a1 (Nat.pow_le_pow_right (by decide) (by decide)))
      refine ⟨fun σ H' => ∃ m', m' < lastOf S.ps - gn ∧ ∃ t gn, ∃ vs : List Nat, σ = [some (.ref (A.at_ .inst)), some (nV i), some (nV f), some (nV e), some (.ref (A.at_ .sc)), some dv, some (nV en), some (nV t), some (nV gn), some (nV (cntT f en vs)), none] ∧ Ex H H' ∧
        ∃ fu, S.vis i = vs ++ HD.vis S.ps fu t gn ∧ lastOf S.ps - gn ≤ fu ∧ endT S.time vs = t ∧ gn ≤ lastOf S.ps ∧ t < (gn + 1) * 2 ^ 300 ∧ m' = lastOf S.ps - gn, fun _ _ z => z, ?_⟩
      have h7 := h6.ex e7
      refine q_asg (ev_next (ev_var rfl) h7.scheme hp (ea_cons (ev_var rfl) (ea_cons (ev_var rfl) ea_nil)) ht (by omega)) fun H8 e8 => ?_
      have h8 := h7.ex e8
      refine q_aug (a := ((cntT f en vs : Nat) : Int)) rfl (ev_intb (ea_cons (ev_chain (ev_var rfl) (ev_var rfl) rv_ltN fun _ => ⟨ev_var rfl, rv_leN⟩) ea_nil)) fun H9 e9 => ?_
      have h9 := h8.ex e9
      refine s_asg (ev_min2N (ea_cons (ev_last (ev_var rfl) h9.scheme hp.len) (ea_cons (ev_op (ev_level (ev_var rfl) h9.scheme hp (ea_cons (ev_var rfl) ea_nil)) ev_c rv_add1) ea_nil))) fun H10 e10 => ?_
      have lv := lvl_nxt h.wf.ps1 ch (t := t) (g := gn) (by omega)
      generalize hg : min (lastOf S.ps) (lvl S.ps (nxt S.ps t gn) + 1) = gn2
      have hg1 : gn + 1 ≤ gn2 := by
        rw [← hg]
        exact Nat.le_min.mpr ⟨by omega, by omega⟩
      have hg2 : gn2 ≤ lastOf S.ps := by
        rw [← hg]
        exact Nat.min_le_left _ _
      refine ⟨lastOf S.ps - gn2, by omega, nxt S.ps t gn, gn2, vs ++ [nxt S.ps t gn], ?_, (((e6.trans e7).trans e8).trans e9).trans e10, fu - 1, ?_, by omega, endT_snoc, hg2, ?_, rfl⟩
      · rw [cntT_snoc]
        show [_, _, _, _, _, _, _, _, _, _, _] = [_, _, _, _, _, _, _, _, _, _, _]
        congr 10
        refine congrArg (fun z => some (V.int z)) ?_
        by_cases q : (decide (f < nxt S.ps t gn) && decide (nxt S.ps t gn ≤ en)) = true
        · rw [if_pos q, if_pos q]
          rfl
        · rw [if_neg q, if_neg q]
          rfl
      · rw [v1]
        cases fu with
        | zero => omega
        | succ fu =>
          show vs ++ (if gn < lastOf S.ps then nxt S.ps t gn :: HD.vis S.ps fu (nxt S.ps t gn) (min (lastOf S.ps) (lvl S.ps (nxt S.ps t gn) + 1)) else []) = _
          rw [if_pos hlt, hg, List.append_assoc]
          rfl
      · have a1 := nxt_up (ps := S.ps) t gn
        have a2 := plc_lt h.wf.psb gn
        have a3 : (gn + 2) * 2 ^ 300 ≤ (gn2 + 1) * 2 ^ 300 := Nat.mul_le_mul (by omega) (Nat.le_refl _)
        have a4 : (gn + 2) * 2 ^ 300 = (gn + 1) * 2 ^ 300 + 2 ^ 300 := by rw [Nat.add_mul, Nat.add_mul]; omega
        rw [a4] at a3
        exact Nat.lt_of_le_of_lt a1 (Nat.lt_of_lt_of_le (Nat.add_lt_add v5 a2) a3)
    · have hlt : ¬ gn < lastOf S.ps := of_decide_eq_false hb
      rw [vis_end _ _ _ _ hlt, List.append_nil] at v1
      have h7 := h6.ex e7
      refine q_asg (ev_max2N (ea_cons (ev_var rfl) (ea_cons (ev_var rfl) ea_nil))) fun H8 e8 => ?_
      have h8 := h7.ex e8
      have e08 := (e6.trans e7).trans e8
      have hval : lookV S.ps S.time (S.vis i) f en = cntT f en vs + if max f t < en then en / plc S.ps (lastOf S.ps) - max f t / plc S.ps (lastOf S.ps) else 0 := by
        rw [v1]
        unfold lookV
        rw [v3]
      rw [hval] at k
      refine s_ret (ev_op (y := nV (if max f t < en then en / plc S.ps (lastOf S.ps) - max f t / plc S.ps (lastOf S.ps) else 0)) (ev_var rfl) (ev_if (b := decide (max f t < en)) (et_test (ev_op (ev_var rfl) (ev_var rfl) rv_ltN)) (fun hb => ?_) (fun hb => ?_)) rv_addN) fun H9 e9 => k H9 (e08.trans e9)
      · have hb := of_decide_eq_true hb
        rw [if_pos hb]
        obtain ⟨dx, a, b, s1, s2⟩ := id h8.scheme
        exact ev_meth (ev_var rfl) s1 (by kernel_rfl) (ea_cons (ev_last (ev_var rfl) h8.scheme hp.len) (ea_cons (ev_var rfl) (ea_cons (ev_var rfl) ea_nil))) fun H9 e9 Q q E => ⟨_, S.ps, lastOf S.ps, max f t, en, rfl, h8.scheme.ex e9, hp, by omega, lastlt, q⟩
      · rw [if_neg (of_decide_eq_false hb)]
        exact ev_c
end
end HD
set_option Elab.async false
set_option linter.all false
set_option maxRecDepth 100000
set_option maxHeartbeats 4000000
/-! The module remembered (second part): looks, total_work, work_at, remembered_until. -/
namespace HD
open PySem PySem.Spec PyProof.Rows L2 Evl
section
variable {K : PySem.W.Frag} {σ : L2.St} {H : Hp} {ta tb te tl : TE} {t : TT}
theorem el_cat {xs ys : List V} (ha : EvL ta σ H xs) (hb : EvL tb σ H ys) (hz : xs.length + ys.length ≤ 100000) : EvL (tOp rCat ta tb) σ H (xs ++ ys) := fun H1 e Q k =>
  ha H1 e _ fun p H2 np e2 hp => hb H2 (e.trans e2) _ fun q H3 nq e3 hq => ⟨p, q, xs, ys, rfl, rfl, e3 _ _ hp, hq, sz_of hz, fun r nr => k r _ (fresh_back (e2.trans e3) nr) ((e2.trans e3).trans (Ex.new nr)) upd_same⟩
/-- the second a list that stands -/
theorem el_cat2 {xs ys : List V} {b : Addr} (ha : EvL ta σ H xs) (hb : Ev tb σ H (.ref b)) (h : H b = some (.lst ys)) (hz : xs.length + ys.length ≤ 100000) : EvL (tOp rCat ta tb) σ H (xs ++ ys) := fun H1 e Q k =>
  ha H1 e _ fun p H2 np e2 hp => hb H2 (e.trans e2) _ fun H3 e3 => ⟨p, b, xs, ys, rfl, rfl, e3 _ _ hp, e3 _ _ (e2 _ _ (e _ _ h)), sz_of hz, fun r nr => k r _ (fresh_back (e2.trans e3) nr) ((e2.trans e3).trans (Ex.new nr)) upd_same⟩
theorem el_cat3 {xs ys : List V} {a b : Addr} (ha : Ev ta σ H (.ref a)) (h1 : H a = some (.lst xs)) (hb : Ev tb σ H (.ref b)) (h : H b = some (.lst ys)) (hz : xs.length + ys.length ≤ 100000) : EvL (tOp rCat ta tb) σ H (xs ++ ys) := fun H1 e Q k =>
  ha H1 e _ fun H2 e2 => hb H2 (e.trans e2) _ fun H3 e3 => ⟨a, b, xs, ys, rfl, rfl, e3 _ _ (e2 _ _ (e _ _ h1)), e3 _ _ (e2 _ _ (e _ _ h)), sz_of hz, fun r nr => k r _ (fresh_back (e2.trans e3) nr) ((e2.trans e3).trans (Ex.new nr)) upd_same⟩
/-- over a new tuple -/
theorem el_lcNU {xs : List V} {j : Nat} {vs : List Nat} (f : Nat → Bool) (v : Nat → V) (h : EvU tl σ H xs) (hz : xs.length ≤ 40000) (hw : ∀ x, wipe ((wipe σ vs).set j (some x)) vs = wipe σ vs)
    (ht : ∀ (i : Nat) (x : V) H1, Ex H H1 → xs[i]? = some x → EvT t ((wipe σ vs).set j (some x)) H1 (f i)) (he : ∀ (i : Nat) (x : V) H1, Ex H H1 → xs[i]? = some x → f i = true → Ev te ((wipe σ vs).set j (some x)) H1 (v i)) :
    EvL (tLc (iTup K tl) (gName j) t te vs) σ H (given xs.length f v) := fun H0 e Q q => h H0 e _ fun a H1 ha e1 hx => ⟨a, rfl, ⟨xs, st_of hx⟩, fun Dl hD =>
  lc_it (walk_tup (K := K) (a := a) (xs := xs)) (Cw H1 f v Dl) ⟨hD, Ex.new hD, upd_same⟩ (fun i H' _ p => st_of (p.2.1 a _ hx)) (fun i x H' H'' hi p y => by
    obtain ⟨rfl, hy⟩ := y
    exact ⟨hw x, cw_turn p (by omega) (ht i x H1 (e.trans e1) hy) (fun hf => he i x H1 (e.trans e1) hy hf)⟩)
    (fun H' p => q Dl H' (fresh_back e1 p.1) (e1.trans p.2.1) p.2.2)⟩
end
theorem sum_ints (l : List Nat) : (l.map fun (i : Nat) => (i : Int)).sum = ((l.sum : Nat) : Int) := by
  induction l with
  | nil => rfl
  | cons a r ih =>
    rw [List.map_cons, List.sum_cons, List.sum_cons, ih]
    omega
/-- the looks of a stretch at all objects -/
noncomputable def HS.work (S : HS) (f e : Nat) : Nat := ((S.live ++ S.dead).map fun i => S.looks i f e).sum
theorem mem_live {S : HS} {i : Nat} : i ∈ S.live ↔ i < S.n ∧ S.death i = none := by
  unfold HS.live
  rw [mem_sel, Option.isNone_iff_eq_none]
theorem HS.Good.liveF {S : HS} (g : S.Good) {i : Nat} (hi : i < S.n) (h : S.death i = none) : S.freed i = false := by
  cases e : S.freed i with
  | false => rfl
  | true => exact absurd h (g.fd i hi e)
section
variable {P : Program} {w : World} {K : PySem.W.Frag} {mg : Str → Option Value} {base : Heap}
theorem ev_looks_at {H : Hp} {A : Rep} {S : HS} {σ : L2.St} {ts : TA} {E : XK} (h : HeapAt K H A S) (g : S.Fit) {i f e : Nat} (hi : i < S.n) (hf : S.freed i = false) (e2 : EvA ts σ H [.ref (A.at_ .inst), nV i, nV f, nV e]) : Ev (tCall (sp_looks_at K) [] E ts) σ H (nV (S.looks i f e)) :=
  ev_call e2 fun H1 e1 Q q E => ⟨A, S, i, f, e, rfl, h.ex e1, g, hi, hf, q⟩
theorem ev_stretch {H : Hp} {A : Rep} {S : HS} {σ : L2.St} {ts : TA} {E : XK} (h : HeapAt K H A S) {f e : Nat} (hs : S.Str f e) (e2 : EvA ts σ H [.ref (A.at_ .inst), nV f, nV e]) : Ev (tCall (sp_check_stretch K) [] E ts) σ H .non :=
  ev_call e2 fun H1 e1 Q q E => ⟨A, S, f, e, rfl, h.ex e1, hs, q⟩
theorem sc_looks : FnScope ["heap", "item", "first", "last"] ["heap", "item", "first", "last"] (defScope s_looks) := ⟨rfl, rfl, rfl, by decide +kernel, rfl, by decide +kernel, by decide +kernel⟩
def sp_looks (K : PySem.W.Frag) : Sp := fun vs H Q _ => ∃ A S i f e, vs = [.ref (A.at_ .inst), nV i, nV f, nV e] ∧ HeapAt K H A S ∧ S.Fit ∧ i < S.n ∧ S.freed i = false ∧ S.Str f e ∧ RetV (nV (S.looks i f e)) H Q
theorem ok_looks (T : TX K mg) : Glob P w K mg base 7 "looks" ["heap", "item", "first", "last"] (sp_looks K) := by
  have SC := sc_looks
  refine glob_mk (F_looks T) (g_looks T) sc_looks (fun _ _ _ _ _ _ us hl => match us, hl with | [_, _, _, _], _ => rfl) (fun vs H Q E h => ?_) (fun cdv A outer s H vs Q E hr h => ?_)
  · obtain ⟨A, S, i, f, e, rfl, _⟩ := h
    rfl
  · obtain ⟨A, S, i, f, e, rfl, h, g, hi, hf, hs, k⟩ := h
    refine ⟨_, (pss_cons (ps_expr (pm_call (ok_H_check_kept T) (cls_H T) hr (by decide) (pv 0) (pa_cons (pv 1) pa_nil)))
    (pss_cons (ps_expr (pg_call (ok_check_stretch T) hr (by decide) rfl (pa_cons (pv 0) (pa_cons (pv 2) (pa_cons (pv 3) pa_nil)))))
    (pss_one (ps_ret (pg_call (ok_looks_at T) hr (by decide) rfl (pa_cons (pv 0) (pa_cons (pv 1) (pa_cons (pv 2) (pa_cons (pv 3) pa_nil))))))))), ?_⟩
    refine q_drop (ev_check_kept T h (ev_var rfl) hi hf (ev_var rfl)) fun H1 e1 => ?_
    have h1 := h.ex e1
    refine q_drop (ev_stretch h1 hs (ea_cons (ev_var rfl) (ea_cons (ev_var rfl) (ea_cons (ev_var rfl) ea_nil)))) fun H2 e2 => ?_
    have h2 := h1.ex e2
    exact s_ret (ev_looks_at h2 g hi hf (ea_cons (ev_var rfl) (ea_cons (ev_var rfl) (ea_cons (ev_var rfl) (ea_cons (ev_var rfl) ea_nil))))) fun H3 e3 => k H3 ((e1.trans e2).trans e3)
theorem sc_total_work : FnScope ["heap", "first", "last", "item"] ["heap", "first", "last"] (defScope s_total_work) := ⟨rfl, rfl, rfl, by decide +kernel, rfl, by decide +kernel, by decide +kernel⟩
def sp_total_work (K : PySem.W.Frag) : Sp := fun vs H Q _ => ∃ A S f e, vs = [.ref (A.at_ .inst), nV f, nV e] ∧ HeapAt K H A S ∧ S.Fit ∧ S.Str f e ∧ RetV (nV (S.work f e)) H Q
theorem ok_total_work (T : TX K mg) : Glob P w K mg base 7 "total_work" ["heap", "first", "last"] (sp_total_work K) := by
  have SC := sc_total_work
  refine glob_mk (F_total_work T) (g_total_work T) sc_total_work (fun _ _ _ _ _ _ us hl => match us, hl with | [_, _, _], _ => rfl) (fun vs H Q E h => ?_) (fun cdv A outer s H vs Q E hr h => ?_)
  · obtain ⟨A, S, f, e, rfl, _⟩ := h
    rfl
  · obtain ⟨A, S, f, e, rfl, h, g, hs, k⟩ := h
    refine ⟨_, (pss_cons (ps_expr (pg_call (ok_check_stretch T) hr (by decide) rfl (pa_cons (pv 0) (pa_cons (pv 1) (pa_cons (pv 2) pa_nil)))))
    (pss_one (ps_ret (pe_callB (cr_sum rfl) rfl (b_sum T) (by decide +kernel) (pa_cons (pe_lc (own := [("item", 3)]) rfl SC.nd (pi_list (pe_op op_cat (pm_call0 (ok_H_live T) (cls_H T) hr (by decide) (pv 0)) (pm_call0 (ok_H_dead T) (cls_H T) hr (by decide) (pv 0)))) (blkOk_by (own := [("item", 3)]) (N := ["heap", "first", "last", "item"]) (sc := defScope s_total_work) (by decide +kernel)) (fun _ _ _ _ _ => (pg_name (i := 3) SC.nd rfl (Or.inl rfl))) (fun _ _ _ _ _ => pts_nil) (fun _ _ _ _ _ => (pg_call (ok_looks_at T) hr (by decide) rfl (pa_cons (pv 0) (pa_cons (pv 3) (pa_cons (pv 1) (pa_cons (pv 2) pa_nil))))))) pa_nil))))), ?_⟩
    refine q_drop (ev_stretch h hs (ea_cons (ev_var rfl) (ea_cons (ev_var rfl) (ea_cons (ev_var rfl) ea_nil)))) fun H1 e1 => ?_
    have h1 := h.ex e1
    have n60 := h.wf.n60
    have l1 : S.live.length ≤ S.n := len_sel _ _
    have l2 : S.dead.length ≤ S.n := len_sel _ _
    have ea : nVs S.live ++ nVs S.dead = nVs (S.live ++ S.dead) := by
      unfold nVs
      rw [List.map_append]
    have lal : (S.live ++ S.dead).length ≤ 120 := by
      rw [List.length_append]
      omega
    have cat := el_cat (σ := [some (.ref (A.at_ .inst)), some (nV f), some (nV e), none]) (el_live T h1 (ta := tVar 0) (E := E0) (ev_var rfl)) (el_dead T h1 (ta := tVar 0) (E := E0) (ev_var rfl)) (by rw [nVs_len, nVs_len]; omega)
    rw [ea] at cat
    refine u_ret (u_cbL (el_lcNL (fun _ => true) (fun j => nV (S.looks ((S.live ++ S.dead).getD j 0) f e)) cat (by rw [nVs_len]; omega) (fun _ => rfl) (fun j x H2 e2 hx => EvT.yes (fun H Q q => q) H2) (fun j x H2 e2 hx _ => ?_)) fun p H2 np e2 hp => ?_)
    · obtain ⟨hj, rfl⟩ := nVs_at hx
      have hj2 : (S.live ++ S.dead).getD j 0 < S.n ∧ S.freed ((S.live ++ S.dead).getD j 0) = false := by
        rcases List.mem_append.mp hj with q | q
        · obtain ⟨a, b⟩ := mem_live.mp q
          exact ⟨a, g.good.liveF a b⟩
        · obtain ⟨a, _, b⟩ := mem_dead.mp q
          exact ⟨a, b⟩
      exact ev_looks_at (h1.ex e2) g hj2.1 hj2.2 (ea_cons (ev_var rfl) (ea_cons (ev_var rfl) (ea_cons (ev_var rfl) (ea_cons (ev_var rfl) ea_nil))))
    · rw [nVs_len, map_at (S.live ++ S.dead) (fun i => S.looks i f e)] at hp
      refine ⟨p, ((S.live ++ S.dead).map fun i => S.looks i f e).map fun (i : Nat) => (i : Int), rfl, sq_of (by rw [hp]; unfold nVs; rw [List.map_map, List.map_map, List.map_map]; rfl), ?_⟩
      rw [sum_ints]
      exact k H2 (e1.trans e2)
theorem sc_work_at : FnScope ["heap", "collection"] ["heap", "collection"] (defScope s_work_at) := ⟨rfl, rfl, rfl, by decide +kernel, rfl, by decide +kernel, by decide +kernel⟩
def sp_work_at (K : PySem.W.Frag) : Sp := fun vs H Q _ => ∃ A S c, vs = [.ref (A.at_ .inst), nV c] ∧ HeapAt K H A S ∧ S.Fit ∧ S.time + 1 ≤ c ∧ c ≤ 10000000000000000000000000000000000000000 ∧ RetV (nV (S.work (c - 1) c)) H Q
theorem ok_work_at (T : TX K mg) : Glob P w K mg base 8 "work_at" ["heap", "collection"] (sp_work_at K) := by
  have SC := sc_work_at
  refine glob_mk (F_work_at T) (g_work_at T) sc_work_at (fun _ _ _ _ _ _ us hl => match us, hl with | [_, _], _ => rfl) (fun vs H Q E h => ?_) (fun cdv A outer s H vs Q E hr h => ?_)
  · obtain ⟨A, S, c, rfl, _⟩ := h
    rfl
  · obtain ⟨A, S, c, rfl, h, g, c1, c2, k⟩ := h
    refine ⟨_, (pss_cons (ps_expr (pg_call (ok_check_time T) hr (by decide) rfl (pa_cons (pv 1) (pa_cons (pe_op op_add (kfld (K := K) (pv 0)) pe_int) pa_nil))))
    (pss_one (ps_ret (pg_call (ok_total_work T) hr (by decide) rfl (pa_cons (pv 0) (pa_cons (pe_op op_sub (pv 1) pe_int) (pa_cons (pv 1) pa_nil))))))), ?_⟩
    refine q_drop (ev_call (ea_cons (ev_var rfl) (ea_cons (ev_op (evf_time T h (ev_var rfl)) ev_c rv_add1) ea_nil)) fun H1 e Q q E => ⟨_, _, rfl, by omega, by omega, q⟩) fun H1 e1 => ?_
    have h1 := h.ex e1
    exact s_ret (ev_call (ea_cons (ev_var rfl) (ea_cons (ev_op (ev_var rfl) ev_c (rv_sub1 (by omega))) (ea_cons (ev_var rfl) ea_nil))) fun H2 e2 Q q E => ⟨A, S, c - 1, c, rfl, h1.ex e2, g, ⟨by omega, by omega, c2⟩, q⟩) fun H3 e3 => k H3 (e1.trans e3)
theorem sc_remembered_until : FnScope ["heap", "source", "target", "scheme", "ends", "times", "one", "time", "level"] ["heap", "source", "target"] (defScope s_remembered_until) := ⟨rfl, rfl, rfl, by decide +kernel, rfl, by decide +kernel, by decide +kernel⟩
/-- the least of some numbers -/
def RetMin (l : List Nat) (H : Hp) (Q : VK) : Prop := ∀ m ∈ l, (∀ y ∈ l, m ≤ y) → RetV (nV m) H Q
def sp_remembered_until (K : PySem.W.Frag) : Sp := fun vs H Q _ => ∃ A S a b, vs = [.ref (A.at_ .inst), nV a, nV b] ∧ HeapAt K H A S ∧ S.Fit ∧ a < S.n ∧ b < S.n ∧ b ∈ S.tg a ∧ S.meets a b ++ S.ends a b ≠ [] ∧ RetMin (S.meets a b ++ S.ends a b) H Q
theorem ok_remembered_until (T : TX K mg) : Glob P w K mg base 6 "remembered_until" ["heap", "source", "target"] (sp_remembered_until K) := by
  have SC := sc_remembered_until
  refine glob_mk (F_remembered_until T) (g_remembered_until T) sc_remembered_until (fun _ _ _ _ _ _ us hl => match us, hl with | [_, _, _], _ => rfl) (fun vs H Q E h => ?_) (fun cdv A outer s H vs Q E hr h => ?_)
  · obtain ⟨A, S, a, b, rfl, _⟩ := h
    rfl
  · obtain ⟨A, S, a, b, rfl, h, g, ha, hb, m1, ne, k⟩ := h
    have hu := hu_of hr
    refine ⟨_, (pss_cons (ps_expr (pm_call (ok_H_check_object T) (cls_H T) hr (by decide) (pv 0) (pa_cons (pv 1) pa_nil)))
    (pss_cons (ps_expr (pm_call (ok_H_check_object T) (cls_H T) hr (by decide) (pv 0) (pa_cons (pv 2) pa_nil)))
    (pss_cons (ps_if (pt_cmp (pc_dnotin hu (pv 2) (kix (K := K) (kfld (K := K) (pv 0)) (pv 1))) rfl)
      pss_never
      pss_nil)
    (pss_cons (ps_set (i := 3) SC.nd rfl (Or.inr rfl) (kfld (K := K) (pv 0)))
    (pss_cons (ps_setLc (i := 4) (own := [("one", 6)]) rfl SC.nd rfl rfl (sw_true rfl rfl rfl (by decide +kernel)) (pi_tup (pe_tup (pa_cons (pm_call (ok_H_due T) (cls_H T) hr (by decide) (pv 0) (pa_cons (pv 1) pa_nil)) (pa_cons (pm_call (ok_H_due T) (cls_H T) hr (by decide) (pv 0) (pa_cons (pv 2) pa_nil)) pa_nil)))) (blkOk_by (own := [("one", 6)]) (N := ["heap", "source", "target", "scheme", "ends", "times", "one", "time", "level"]) (sc := defScope s_remembered_until) (by decide +kernel)) (fun _ _ _ _ _ => (pg_name (i := 6) SC.nd rfl (Or.inl rfl))) (fun _ _ _ _ _ => pts_one (pt_cmp (pc_notN (pv 6)))) (fun _ _ _ _ _ => (pv 6)))
    (pss_cons (ps_set (i := 5) SC.nd rfl (Or.inl rfl) (pe_op op_cat (pe_lst (pa_cons (kfld (K := K) (pv 0)) pa_nil)) (pe_lc (own := [("level", 8)]) rfl SC.nd (pi_range1 rfl (b_range T) (pa_cons (pm_call0 (ok_S_generations T) (cls_S T) hr (by decide) (pv 3)) pa_nil)) (blkOk_by (own := [("level", 8)]) (N := ["heap", "source", "target", "scheme", "ends", "times", "one", "time", "level"]) (sc := defScope s_remembered_until) (by decide +kernel)) (fun _ _ _ _ _ => (pg_name (i := 8) SC.nd rfl (Or.inl rfl))) (fun _ _ _ _ _ => pts_nil) (fun _ _ _ _ _ => (pm_call (ok_S_next_of T) (cls_S T) hr (by decide) (pv 3) (pa_cons (kfld (K := K) (pv 0)) (pa_cons (pv 8) pa_nil)))))))
    (pss_cons (ps_setLc (i := 5) (own := [("time", 7)]) rfl SC.nd rfl rfl (sw_true rfl rfl rfl (by decide +kernel)) (pi_list (pv 5)) (blkOk_by (own := [("time", 7)]) (N := ["heap", "source", "target", "scheme", "ends", "times", "one", "time", "level"]) (sc := defScope s_remembered_until) (by decide +kernel)) (fun _ _ _ _ _ => (pg_name (i := 7) SC.nd rfl (Or.inl rfl))) (fun _ _ _ _ _ => pts_one (pt_cmpR op_le (pg_call (ok_generation_at T) hr (by decide) rfl (pa_cons (pv 0) (pa_cons (pv 1) (pa_cons (pv 7) pa_nil)))) (pg_call (ok_generation_at T) hr (by decide) rfl (pa_cons (pv 0) (pa_cons (pv 2) (pa_cons (pv 7) pa_nil)))) (nomark _))) (fun _ _ _ _ _ => (pv 7)))
    (pss_one (ps_ret (pe_callB (cr_min rfl) rfl (b_min T) (by decide +kernel) (pa_cons (pe_op op_cat (pv 5) (pv 4)) pa_nil))))))))))), ?_⟩
    have fr : ∀ {x}, x < S.n → (S.tg x ≠ [] ∨ S.sr x ≠ []) → S.freed x = false := fun {x} hx hne => by
      cases q : S.freed x with
      | false => rfl
      | true =>
        have := g.good.fr x hx q
        rcases hne with z | z
        · exact absurd this.1 z
        · exact absurd this.2 z
    have fa : S.freed a = false := fr ha (.inl (List.ne_nil_of_mem m1))
    have fb : S.freed b = false := fr hb (.inr (List.ne_nil_of_mem ((g.good.ts a b ha hb).mp m1)))
    have psn := h.wf.psn
    have hp := h.wf.p
    refine q_drop (ev_check_object T h (ev_var rfl) ha (ev_var rfl)) fun H1 e1 => ?_
    have h1 := h.ex e1
    refine q_drop (ev_check_object T h1 (ev_var rfl) hb (ev_var rfl)) fun H2 e2 => ?_
    have h2 := h1.ex e2
    refine q_when (b := false) (et_B (ev_is (ev_kNotIn (ev_var rfl) (evi_targets T h2 (ev_var rfl) ha (ev_var rfl)) (h2.ob (.tg a) ha)) (by rw [decide_eq_true m1]; rfl))) (fun q => nomatch q) fun _ H3 e3 => ?_
    have h3 := h2.ex e3
    refine q_asg (evf_sc T h3 (ev_var rfl)) fun H4 e4 => ?_
    have h4 := h3.ex e4
    -- ends
    refine q_asgL (el_lcNU (fun j => (([S.due a, S.due b] : List (Option Nat)).getD j none).isSome) (fun j => oV (([S.due a, S.due b] : List (Option Nat)).getD j none)) (eu_tup (ea_cons (ev_due2 T h4 g.good (ev_var rfl) ha fa (ev_var rfl)) (ea_cons (ev_due2 T h4 g.good (ev_var rfl) hb fb (ev_var rfl)) ea_nil)) (by show 2 ≤ 100000; decide)) (by show 2 ≤ 40000; decide) (fun _ => rfl) (fun j x H5 e5 hx => ?_) (fun j x H5 e5 hx _ => ?_)) fun p H5 np e5 hp5 => ?_
    · have hx2 : x = oV (([S.due a, S.due b] : List (Option Nat)).getD j none) := by
        rcases j with _ | _ | j
        · exact (Option.some.inj hx).symm
        · exact (Option.some.inj hx).symm
        · cases hx
      rw [hx2]
      exact et_B (ev_is (ev_notN (ev_var rfl)) (congrArg V.bl oV_notN))
    · have hx2 : x = oV (([S.due a, S.due b] : List (Option Nat)).getD j none) := by
        rcases j with _ | _ | j
        · exact (Option.some.inj hx).symm
        · exact (Option.some.inj hx).symm
        · cases hx
      rw [hx2]
      exact ev_var rfl
    have hends : H5 p = some (.lst (nVs (S.ends a b))) := by
      rw [hp5]
      unfold HS.ends
      cases S.due a <;> cases S.due b <;> rfl
    clear hp5
    have h5 := h4.ex e5
    have el : (S.ends a b).length ≤ 2 := by
      unfold HS.ends
      exact List.length_filterMap_le _ _
    -- times
    obtain ⟨dx, sa, sb, s1, s2⟩ := id h5.scheme
    have gens : Ev (tMeth (CS K) "generations" (sp_S_generations K) [] E0 (tVar 3) tNil) [some (.ref (A.at_ .inst)), some (nV a), some (nV b), some (.ref (A.at_ .sc)), some (.ref p), none, none, none, none] H5 (nV S.ps.length) :=
      ev_meth (ev_var rfl) s1 (by kernel_rfl) ea_nil fun H9 e9 Q q E => ⟨_, S.ps, rfl, h5.scheme.ex e9, q⟩
    refine q_asgL (el_cat (el_lst (ea_cons (evf_time T h5 (ev_var rfl)) ea_nil) (by show 1 ≤ 100000; decide)) (el_lcR1 (fun _ => true) (fun j => nV (nxt S.ps S.time j)) (ea_cons gens ea_nil) (by omega) (fun _ => rfl) (fun j H6 e6 hj => EvT.yes (fun H Q q => q) H6) (fun j H6 e6 hj _ => ?_)) ?_) fun q H6 nq e6 hq => ?_
    · have h6 := h5.ex e6
      exact ev_next (ev_var rfl) h6.scheme hp (ea_cons (evf_time T h6 (ev_var rfl)) (ea_cons (ev_var rfl) ea_nil)) (t300 h.wf.tb) (by omega)
    · rw [given_all, vl_len]
      show 1 + ((S.ps.length : Nat) : Int).toNat ≤ 100000
      rw [Int.toNat_natCast]
      omega
    have htimes : H6 q = some (.lst (nVs (S.time :: (List.range S.ps.length).map (nxt S.ps S.time)))) := by
      rw [hq, given_all, Int.toNat_natCast]
      unfold vl nVs
      rw [List.map_cons, List.map_map]
      rfl
    clear hq
    have h6 := h5.ex e6
    generalize htl : S.time :: (List.range S.ps.length).map (nxt S.ps S.time) = tl at htimes
    have tll : tl.length ≤ 8 := by
      rw [← htl, List.length_cons, List.length_map, List.length_range]
      omega
    refine q_asgL (el_lcL (fun j => decide (S.genAt a (tl.getD j 0) ≤ S.genAt b (tl.getD j 0))) (fun j => nV (tl.getD j 0)) (ev_var rfl) (sq_of htimes) (by rw [nVs_len]; omega) (fun _ => rfl) (fun j x H7 e7 hx => ?_) (fun j x H7 e7 hx _ => ?_)) fun r H7 nr e7 hr7 => ?_
    · obtain ⟨hj, rfl⟩ := nVs_at hx
      have h7 := h6.ex e7
      exact et_test (ev_op (ev_call (ea_cons (ev_var rfl) (ea_cons (ev_var rfl) (ea_cons (ev_var rfl) ea_nil))) fun H8 e8 Q q E => ⟨A, S, a, _, rfl, h7.ex e8, ha, q⟩) (ev_call (ea_cons (ev_var rfl) (ea_cons (ev_var rfl) (ea_cons (ev_var rfl) ea_nil))) fun H8 e8 Q q E => ⟨A, S, b, _, rfl, h7.ex e8, hb, q⟩) rv_leN)
    · obtain ⟨hj, rfl⟩ := nVs_at hx
      exact ev_var rfl
    rw [nVs_len, filter_at tl (fun t => decide (S.genAt a t ≤ S.genAt b t)), ← htl] at hr7
    have hmeets : H7 r = some (.lst (nVs (S.meets a b))) := hr7
    have ml : (S.meets a b).length ≤ 8 := by
      unfold HS.meets
      rw [htl]
      exact Nat.le_trans (List.length_filter_le _ _) tll
    have e07 : Ex H H7 := (((((e1.trans e2).trans e3).trans e4).trans e5).trans e6).trans e7
    refine u_ret (u_cbL (el_cat3 (ev_var rfl) hmeets (ev_var rfl) (e7 _ _ (e6 _ _ hends)) (by rw [nVs_len, nVs_len]; omega)) fun u H8 nu e8 hu8 => ?_)
    have ea : nVs (S.meets a b) ++ nVs (S.ends a b) = nVs (S.meets a b ++ S.ends a b) := by
      unfold nVs
      rw [List.map_append]
    rw [ea] at hu8
    refine ⟨u, (S.meets a b ++ S.ends a b).map fun (i : Nat) => (i : Int), rfl, sq_of (by rw [hu8]; unfold nVs; rw [List.map_map]; rfl), ?_, fun m hm hle => ?_⟩
    · rw [List.length_map]
      exact List.length_pos_iff.mpr ne
    · obtain ⟨y, hy, rfl⟩ := List.mem_map.mp hm
      exact k y hy (fun z hz => by
        have := hle (z : Int) (List.mem_map.mpr ⟨z, hz, rfl⟩)
        omega) H8 (e07.trans e8)
end
end HD
set_option Elab.async false
set_option linter.all false
set_option maxRecDepth 100000
set_option maxHeartbeats 4000000
/-! Two rules of mine over dicts whose keys are tuples: sorted(d), d.pop(k). -/
namespace HD
open PySem PySem.Spec PyProof.Rows L2 Evl
section
variable {X : Cx}
/-- sorted(d), the keys pairs of ints: a new list of the keys' own tuples in some order -/
def rSortDT : List V → Hp → VK → Prop := fun xs H Q => ∃ d kvs, xs = [V.ref d] ∧ Rd H d (.dT kvs) ∧ (∀ kv ∈ kvs, ∃ i j : Int, kv.1 = [Sum.inl i, Sum.inl j]) ∧
  ∀ p bs ys, H p = none → IsKeys H kvs bs → ys.Perm (bs.map V.ref) → Q (.ref p) (upd H p (.lst ys))
theorem isKeys_mem {H : Hp} {kvs : List (List Key × V)} {bs : List Addr} (r : IsKeys H kvs bs) : ∀ b ∈ bs, ∃ kv ∈ kvs, H b = some (.tup (kv.1.map kV)) := by
  unfold IsKeys at r
  induction r with
  | nil => exact fun b hb => by cases hb
  | @cons p b ps bs h t ih =>
    intro c hc
    rcases List.mem_cons.mp hc with z | z
    · rw [z]
      exact ⟨p, List.mem_cons_self .., h⟩
    · obtain ⟨kv, h1, h2⟩ := ih c z
      exact ⟨kv, List.mem_cons_of_mem _ h1, h2⟩
theorem call_sortedDT (hc : X.calm = true) : CallR X (.builtin "sorted") rSortDT := by
  intro pins s σ H xs us Q I r h
  obtain ⟨d, kvs, rfl, hd, hkk, q⟩ := h
  obtain ⟨u, rfl, rx⟩ := r.one
  cases rx
  obtain ⟨z, hs, ks, pr, o, es, ep, ho, hx, hdt, he, hn⟩ := (show ObjOk X.prog X.w H s.heap d (.dT kvs) from hd.ok I.hok)
  have l1 : es.size = ks.length := size_of_entries he
  have l2 : kvs.length = ks.length := Paired.length pr
  refine Calls.call_function_entry PyProof.Rows.kind_sorted PyProof.Rows.plain_sorted PyProof.Rows.entry_sorted (PyProof.Rows.args_sorted1 _) ?_
  unfold Builtin.«sorted»
  refine wpAny_bind (m := checkCount "sorted" 1 1 _) (wpAny_pure ?_)
  refine wpAny_bind (PySem.W.kdu_collect (A := X.A.in1) (kdl_raw hs hx hdt) (I.ok.hd hc) ho (by omega) fun h' tk acc kp it => ?_)
  have ea : acc.toList = ks.map fun x => Value.ref x.2.1 := by
    have hl : acc.toList.length = ks.length := by rw [Array.length_toList, it.1]; exact l1
    apply List.ext_getElem?
    intro j
    rw [List.getElem?_map]
    cases hj : acc.toList[j]? with
    | none =>
      have h1 := List.getElem?_eq_none_iff.mp hj
      rw [List.getElem?_eq_none (by omega)]
      all_goals rfl
    | some v =>
      obtain ⟨en, hen, hv⟩ := it.2 j v (by rw [← Array.getElem?_toList]; exact hj)
      have qe := entry_at he j
      rw [hen] at qe
      cases hb : ks[j]? with
      | none =>
        rw [hb] at qe
        exact nomatch (show some en = none from qe)
      | some b =>
        rw [hb] at qe
        have e2 : en = entryOfKey (tupleKind (mixKind X.prog X.w)) b := Option.some.inj qe
        rw [hv, e2]
        all_goals rfl
  have eb : acc.toList = (ks.map fun x => x.2.1).map Value.ref := by rw [ea, List.map_map]; all_goals rfl
  have keysOf := isKeys_of pr
  have hz : acc.toList.length ≤ sizeLine := by rw [ea, List.length_map]; omega
  have I1 : Inv X pins σ H { s with heap := h', toks := tk } := I.kept kp
  have prs : ∀ v ∈ acc.toList, ∃ x y, Srt.IsPair h' v x y := fun v hv => by
    rw [eb] at hv
    obtain ⟨b, hb, rfl⟩ := List.mem_map.mp hv
    obtain ⟨kv, hkv, ht⟩ := isKeys_mem keysOf b hb
    obtain ⟨i, j, ek⟩ := hkk kv hkv
    rw [ek] at ht
    obtain ⟨_, its2, r2, o2, ho2, hc2, n2, hd2⟩ := I.hok _ _ ht
    obtain ⟨u1, u2, rfl, ri, rj⟩ := vals2 r2
    obtain ⟨t1, rfl⟩ := ri
    obtain ⟨t2, rfl⟩ := rj
    exact ⟨i, j, b, o2, t1, t2, n2, rfl, kp _ _ ho2, hc2, hd2⟩
  refine wpAny_bind (wpAny_newList ?_ hz)
  have hoL : (h'.push (seqObj "list" acc.toList.toArray 0)).get? h'.objs.size = some (seqObj "list" acc.toList.toArray 0) := Heap.get?_push_size _ rfl
  show wpAny _ _ _ _ _ { s with heap := h'.push (seqObj "list" acc.toList.toArray 0), toks := tk }
  refine wpAny_bind (wpAny_holding (wpAny_call_entry PyProof.Rows.slot_list_sort ⟨_, hoL, rfl⟩ PyProof.Rows.entry_list_sort
    (Srt.list_sort_any (s := { s with heap := h'.push (seqObj "list" acc.toList.toArray 0), toks := tk }) hoL hz (fun h2 => Srt.pairs_sortable (by omega) (fun v hv => ?_) fun o9 e9 => ?_) fun out hp => ⟨_, rfl, ?_⟩) (PyProof.Rows.args_list_sort _)))
  · obtain ⟨x, y, p⟩ := prs v hv
    exact ⟨x, y, p.keeps fun b o e _ => Heap.get?_push_of_some _ e⟩
  · have e9' : some o9 = some (seqObj "list" acc.toList.toArray 0) := e9.symm.trans hoL
    cases e9'
    intro c
    exact absurd (Value.type.inj c) (by decide)
  obtain ⟨e', he'⟩ := PyProof.Rows.sortedHeap_at (vs := acc.toList) (out := out.toArray) hoL
  have hout : ∀ u ∈ out, ∃ a, u = Value.ref a := fun u hu => by
    have := hp.mem_iff.mp hu
    rw [eb] at this
    obtain ⟨b, _, e⟩ := List.mem_map.mp this
    exact ⟨b, e.symm⟩
  have hlen : (out.map backV).length ≤ sizeLine := by
    rw [List.length_map, hp.length_eq]
    exact hz
  have hperm : (out.map backV).Perm ((ks.map fun x => x.2.1).map V.ref) := by
    have := hp.map backV
    rw [eb, List.map_map] at this
    exact this
  refine wpAny_pure ⟨_, rfl, .ref h'.objs.size, upd H h'.objs.size (.lst (out.map backV)), I1.laid (t' := tk) (fun b u e => ?_) (Nat.le_refl _)
    (show ObjOk X.prog X.w _ _ _ (.lst (out.map backV)) from ⟨hlen, out, e', vals_back hout, he'⟩), rfl, q _ _ _ (I1.hok.fresh (Nat.le_refl _)) keysOf hperm⟩
  have hb : b < h'.objs.size := Heap.lt_size e
  rw [PyProof.Rows.sortedHeap_old (Nat.ne_of_lt hb) (by rw [size_push']; exact Nat.lt_succ_of_lt hb)]
  exact Heap.get?_push_of_some _ e
end
section
variable {K : Type} [DecidableEq K] {prog : Program} {w : World} {knd : HeapKind prog w K}
theorem meetsPop1 {d b : Addr} {k : K} :
    MeetsIn prog w (Builtin.«dict.pop» ⟨[.ref d, .ref b], []⟩) (fun A R s => ∃ xs, knd.room A.in1 ∧ knd.is s.heap k b ∧ s.heap.DictOfH knd d xs ∧ xs.length ≤ sizeLine ∧
      ∃ p, atKey xs k = some p ∧ ∀ h' tk, h'.DictOfH knd d (DT.dropH xs k) → Heap.SameBut d s.heap h' → R (.ok (.ret p.2)) { s with heap := h', toks := tk }) :=
  .of_wp fun A R s ⟨xs, hu, hkey, hm, hsz, p0, hp0, hsome⟩ => by
    obtain ⟨o, es, ep, ho, hc, hdat, he, his, hn⟩ := id hm
    have hes : es.size = xs.length := size_of_entries he
    have hpart : (keyPart (Value.ref b)).isSome = false := rfl
    unfold Builtin.«dict.pop»
    refine wpAny_bind ?_
    unfold Builtin.Dict.keyAndDefault
    refine wpAny_bind (wpAny_notOrdered_dict hm.typeIs ?_)
    show wpAny _ _ (pure (d, Value.ref b, none)) _ _ s
    refine wpAny_pure ?_
    simp only [hpart, Bool.false_eq_true, if_false]
    refine wpAny_bind (wpAny_dictEntries ho hdat (wpAny_bind (wpAny_pure ?_)))
    cases hem : es.isEmpty with
    | true =>
      have h0 : xs = [] := by
        have z : es.size = 0 := by simpa using hem
        exact List.length_eq_zero_iff.mp (by omega)
      rw [h0] at hp0
      cases hp0
    | false =>
      simp only [Bool.false_eq_true, if_false]
      refine wpAny_bind (DT.takeH hu hkey hm hsz (fun hno => ?_) fun p e hp hev h' hm' hs' => ?_)
      · rw [hp0] at hno
        cases hno
      · simp only [Option.isNone_some, Bool.false_eq_true, if_false]
        rw [hp0] at hp
        cases hp
        exact wpAny_bind (wpAny_letGo (wpAny_pure ⟨e.val, rfl, by rw [hev]; exact hsome h' _ hm' hs'⟩))
end
def tDPopT (td ty : TE) : TE := fun σ H Q => td σ H fun x H1 => ∃ a, x = .ref a ∧ IsD H1 a ∧ ty σ H1 fun y H2 => ∃ (kvs : List (List Key × V)) (k : List Key) (b : Addr) (v : V), H2 a = some (.dT kvs) ∧ y = .ref b ∧ H2 b = some (.tup (k.map kV)) ∧ valV kvs k = some v ∧ Q v (upd H2 a (.dT (dropK kvs k)))
section
variable {X : Cx} {o e : Expr} {apos cpos : Pos} {td ty : TE}
theorem pe_dpopT (hu : X.A.units + 1 < cLine) (ho : PE X o td) (he : PE X e ty) (m : M1 X o "pop" apos e cpos) : PE X (.Call (.Attribute o "pop" apos) [e] [] cpos) (tDPopT td ty) := by
  refine ⟨fun pins s σ H Q I h => ?_⟩
  refine wpAny_Call_method m.base m.few m.line PySem.F.plainAttrs_dict PySem.F.slot_dict_pop PySem.F.type_dict_pop (thn (ho.run pins s σ H _ I h) fun u s1 ⟨x, H1, I1, rx, a, ex, d, q1⟩ => ?_)
  subst ex
  obtain rfl : u = Value.ref a := rx
  obtain ⟨t1, t2, _⟩ := isD_at I1 d
  refine ⟨t1, t2, ?_⟩
  rw [m.trees]
  refine Calls.callWith_builtin rfl (Calls.evalArgs_plain (Calls.spliced_cons (thn (he.run pins s1 σ H1 _ I1 q1) fun iv s2 ⟨y, H2, I2, ry, kvs, k, b, v, ea, ey, hb, hv, q2⟩ => Calls.spliced_nil ?_)))
  subst ey
  obtain rfl : iv = Value.ref b := ry
  obtain ⟨z, hd, xs', rel, dd⟩ := dt_of I2.hok ea
  have hz : xs'.length ≤ sizeLine := by rw [← Paired.length rel]; exact z
  obtain ⟨p, hp, rp⟩ : ∃ p, atKey xs' k = some p ∧ RelV v p.2 := by
    have r := rel.val k
    rw [hv] at r
    cases e9 : atKey xs' k with
    | none =>
      rw [e9] at r
      exact (show False from r).elim
    | some p =>
      rw [e9] at r
      exact ⟨p, rfl, r⟩
  refine call_meetsIn PySem.F.slot_dict_pop dd.typeIs PySem.F.entry_dict_pop (PySem.F.args_dict_pop_2 _ _) (meetsPop1 (knd := tupleKind (mixKind X.prog X.w)) (k := k))
    ⟨xs', tupleKind_room_in1 hu, key_of I2.hok hb, dd, hz, p, hp, fun h' tk dd' hs => ?_⟩
  obtain ⟨o, es, ep, hq, h2, h3, h4, _, h5⟩ := dd'
  have I3 : Inv X pins σ (upd H2 a (.dT (dropK kvs k))) { s2 with heap := h', toks := tk } :=
    d_write I2 (by rw [ea]; exact True.intro) hs ⟨o, hq⟩ ⟨Nat.le_trans (dropK_le kvs k) z, hd, _, (L2.DX.KT_drop k rel).keeps (fun c ys ec => (by rw [upd_ne (ne_of ec ea (fun z => nomatch z))]; exact ec)), o, es, ep, hq, h2, h3, h4, h5⟩
  exact ⟨v, _, I3, rp, q2⟩
end
end HD
set_option Elab.async false
set_option linter.all false
set_option maxRecDepth 100000
set_option maxHeartbeats 4000000
/-! How the law's world lies in memory. -/
namespace HD
open PySem PySem.Spec PyProof.Rows L2 Evl
structure WS where
  ps : List Nat
  time : Nat
  n : Nat
  birth : Nat → Nat
  death : Nat → Option Nat
  gen : Nat → Nat
  gone : Nat → Bool
  will : Nat → Bool
  prs : List (Nat × Nat)
  roots : List Nat
structure WS.Wf (W : WS) : Prop where
  p : Ps W.ps
  psn : W.ps.length ≤ 7
  n60 : W.n ≤ 60
  pn : W.prs.Nodup
  pl : ∀ q ∈ W.prs, q.1 < W.n ∧ q.2 < W.n
  rn : W.roots.Nodup
  rl : ∀ i ∈ W.roots, i < W.n
  tb : W.time < 2 ^ 300
inductive WLab where
  | dict | places | pairs | roots | births | deaths | gens | gone | wills
  deriving DecidableEq
structure WRep where
  at_ : WLab → Addr
  gv : List V
def wD (B : WRep) (t : Nat) : List (Key × V) := [(.inr "places", .ref (B.at_ .places)), (.inr "time", nV t), (.inr "pairs", .ref (B.at_ .pairs)), (.inr "roots", .ref (B.at_ .roots)), (.inr "births", .ref (B.at_ .births)), (.inr "deaths", .ref (B.at_ .deaths)), (.inr "gens", .ref (B.at_ .gens)),
  (.inr "gone", .ref (B.at_ .gone)), (.inr "wills", .ref (B.at_ .wills))]
/-- a key of two numbers -/
abbrev kP (q : Nat × Nat) : List Key := [Sum.inl (q.1 : Int), Sum.inl (q.2 : Int)]
def pT (l : List (Nat × Nat)) : List (List Key × V) := l.map fun q => (kP q, V.bl true)
theorem kP_inj {a b : Nat × Nat} : kP a = kP b ↔ a = b := by
  constructor
  · intro h
    injection h with h1 h2
    injection h2 with h2 _
    injection h1 with h1
    injection h2 with h2
    exact Prod.ext (by omega) (by omega)
  · intro h
    rw [h]
theorem pT_len {l : List (Nat × Nat)} : (pT l).length = l.length := by unfold pT; rw [List.length_map]
theorem pT_val : ∀ {l : List (Nat × Nat)} {k : Nat × Nat}, valV (pT l) (kP k) = if k ∈ l then some (.bl true) else none
  | [], k => by rw [if_neg (by simp)]; rfl
  | a :: r, k => by
    show valV ((kP a, V.bl true) :: pT r) (kP k) = _
    by_cases e : a = k
    · subst e
      rw [valV_pos rfl, if_pos (List.mem_cons_self ..)]
    · rw [valV_neg (fun q => e (kP_inj.mp q)), pT_val]
      by_cases m : k ∈ r
      · rw [if_pos m, if_pos (List.mem_cons_of_mem _ m)]
      · rw [if_neg m, if_neg (fun q => by
          rcases List.mem_cons.mp q with z | z
          · exact e z.symm
          · exact m z)]
def addP (l : List (Nat × Nat)) (k : Nat × Nat) : List (Nat × Nat) := if k ∈ l then l else l ++ [k]
def delP (l : List (Nat × Nat)) (k : Nat × Nat) : List (Nat × Nat) := l.filter fun j => decide (j ≠ k)
theorem pT_put {l : List (Nat × Nat)} {k : Nat × Nat} : putK (pT l) (kP k) (.bl true) = pT (addP l k) := by
  unfold addP
  by_cases m : k ∈ l
  · rw [if_pos m]
    unfold putK
    have e1 : (some (V.bl true)).isSome = true := rfl
    rw [valV_any, pT_val, if_pos m, if_pos e1]
    unfold pT
    rw [List.map_map]
    refine List.map_congr_left fun a _ => ?_
    show (if kP a = kP k then (kP a, V.bl true) else (kP a, V.bl true)) = (kP a, V.bl true)
    split <;> rfl
  · rw [if_neg m, putK_new _ (by rw [pT_val, if_neg m])]
    unfold pT
    rw [List.map_append]
    rfl
theorem pT_drop {l : List (Nat × Nat)} {k : Nat × Nat} : dropK (pT l) (kP k) = pT (delP l k) := by
  unfold dropK pT delP
  rw [List.filter_map]
  refine congrArg _ (List.filter_congr fun a _ => ?_)
  show decide (kP a ≠ kP k) = decide (a ≠ k)
  rw [decide_eq_decide]
  exact not_congr kP_inj
theorem mem_addP {l : List (Nat × Nat)} {k x : Nat × Nat} : x ∈ addP l k ↔ x ∈ l ∨ x = k := by
  unfold addP
  split
  · rename_i m
    exact ⟨.inl, fun h => h.elim id fun e => e ▸ m⟩
  · rw [List.mem_append, List.mem_singleton]
theorem nd_addP {l : List (Nat × Nat)} {k : Nat × Nat} (h : l.Nodup) : (addP l k).Nodup := by
  unfold addP
  split
  · exact h
  · rename_i m
    exact nd_snoc h m
theorem mem_delP {l : List (Nat × Nat)} {k x : Nat × Nat} : x ∈ delP l k ↔ x ∈ l ∧ x ≠ k := by
  unfold delP
  rw [List.mem_filter, decide_eq_true_eq]
theorem nd_delP {l : List (Nat × Nat)} {k : Nat × Nat} (h : l.Nodup) : (delP l k).Nodup := h.filter _
/-- distinct pairs of numbers below n: at most n * n -/
theorem ndP_len {n : Nat} {l : List (Nat × Nat)} (hn : l.Nodup) (h : ∀ q ∈ l, q.1 < n ∧ q.2 < n) : l.length ≤ n * n := by
  have e : (l.map fun q => q.1 * n + q.2).Nodup := by
    refine List.pairwise_map.mpr (hn.imp_of_mem fun {a b} ha hb hab he => hab ?_)
    have h1 := h a ha
    have h2 := h b hb
    have he : a.1 * n + a.2 = b.1 * n + b.2 := he
    have h0 : 0 < n := by omega
    have d1 : (a.1 * n + a.2) / n = a.1 := by
      rw [Nat.mul_comm, Nat.mul_add_div h0, Nat.div_eq_of_lt h1.2, Nat.add_zero]
    have d2 : (b.1 * n + b.2) / n = b.1 := by
      rw [Nat.mul_comm, Nat.mul_add_div h0, Nat.div_eq_of_lt h2.2, Nat.add_zero]
    have e1 : a.1 = b.1 := by rw [← d1, he, d2]
    rw [e1] at he
    exact Prod.ext e1 (by omega)
  have := nd_len (n := n * n) e fun i hi => by
    obtain ⟨q, hq, rfl⟩ := List.mem_map.mp hi
    have h1 := h q hq
    have : q.1 * n + n ≤ n * n := by
      have := Nat.mul_le_mul (show q.1 + 1 ≤ n by omega) (Nat.le_refl n)
      rw [Nat.add_mul, Nat.one_mul] at this
      exact this
    omega
  rw [List.length_map] at this
  exact this
def wobj (B : WRep) (W : WS) : WLab → HO
  | .dict => .dK (wD B W.time)
  | .places => .lst (W.ps.map fun p => nV p)
  | .pairs => .dT (pT W.prs)
  | .roots => .dK (kD W.roots)
  | .births => .lst (vl W.n fun i => nV (W.birth i))
  | .deaths => .lst (vl W.n fun i => oV (W.death i))
  | .gens => .lst (vl W.n fun i => nV (W.gen i))
  | .gone => .lst B.gv
  | .wills => .lst (vl W.n fun i => .bl (W.will i))
structure WorldAt (H : Hp) (B : WRep) (W : WS) : Prop where
  ob : ∀ l, H (B.at_ l) = some (wobj B W l)
  inj : ∀ l l', B.at_ l = B.at_ l' → l = l'
  wf : W.Wf
  gvl : B.gv.length = W.n
  gvn : ∀ i, i < W.n → ∃ v, B.gv[i]? = some v ∧ (v = .non ↔ W.gone i = false)
def WOwn (B : WRep) (b : Addr) : Prop := ∃ l, B.at_ l = b
theorem WorldAt.ex {H H' : Hp} {B : WRep} {W : WS} (h : WorldAt H B W) (e : Ex H H') : WorldAt H' B W := ⟨fun l => e _ _ (h.ob l), h.inj, h.wf, h.gvl, h.gvn⟩
theorem WorldAt.frame {H H' : Hp} {B : WRep} {W : WS} {F : Addr → Prop} (h : WorldAt H B W) (e : Chg F H H') (d : ∀ b, F b → ¬ WOwn B b) : WorldAt H' B W :=
  ⟨fun l => e _ _ (h.ob l) fun f => d _ f ⟨l, rfl⟩, h.inj, h.wf, h.gvl, h.gvn⟩
theorem WorldAt.notOwn {H : Hp} {B : WRep} {W : WS} (h : WorldAt H B W) {p : Addr} (np : H p = none) : ¬ WOwn B p := fun o => by
  obtain ⟨l, e⟩ := o
  have := h.ob l
  rw [e, np] at this
  cases this
structure WStep (H H' : Hp) (B B' : WRep) (W W' : WS) : Prop where
  ha : WorldAt H' B' W'
  chg : Chg (WOwn B) H H'
  own : ∀ b, WOwn B' b → WOwn B b ∨ H b = none
  inst : B'.at_ .dict = B.at_ .dict
theorem WStep.ex {H H' : Hp} {B : WRep} {W : WS} (h : WorldAt H B W) (e : Ex H H') : WStep H H' B B W W := ⟨h.ex e, Chg.ex e, fun b o => .inl o, rfl⟩
theorem WStep.trans {H H1 H2 : Hp} {B B1 B2 : WRep} {W W1 W2 : WS} (a : WStep H H1 B B1 W W1) (b : WStep H1 H2 B1 B2 W1 W2) : WStep H H2 B B2 W W2 := by
  refine ⟨b.ha, fun c o e f => ?_, fun c o => ?_, b.inst.trans a.inst⟩
  · refine b.chg c o (a.chg c o e f) fun z => ?_
    rcases a.own c z with q | q
    · exact f q
    · rw [e] at q
      cases q
  · rcases b.own c o with q | q
    · exact a.own c q
    · cases e : H c with
      | none => exact .inr rfl
      | some u =>
        by_cases f : WOwn B c
        · exact .inl f
        · rw [a.chg c u e f] at q
          cases q
theorem WStep.to {H H1 H2 : Hp} {B B1 : WRep} {W W1 : WS} (a : WStep H H1 B B1 W W1) (e : Ex H1 H2) : WStep H H2 B B1 W W1 := a.trans (WStep.ex a.ha e)
/-- another thing stands at a label -/
theorem WorldAt.put {H : Hp} {B B' : WRep} {W W' : WS} (h : WorldAt H B W) (l : WLab) {o : HO} (ho : o = wobj B' W' l) (ha : B'.at_ = B.at_) (hob : ∀ l', l' ≠ l → wobj B' W' l' = wobj B W l') (wf : W'.Wf)
    (f1 : B'.gv.length = W'.n) (f2 : ∀ i, i < W'.n → ∃ v, B'.gv[i]? = some v ∧ (v = .non ↔ W'.gone i = false)) : WStep H (upd H (B.at_ l) o) B B' W W' := by
  refine ⟨⟨fun l' => ?_, fun l1 l2 e => ?_, wf, f1, f2⟩, fun b u e f => ?_, fun b o => ?_, by rw [ha]⟩
  · rw [ha]
    by_cases e : l' = l
    · rw [e, upd_same, ho]
    · rw [upd_ne (fun z => e (h.inj _ _ z)), h.ob l', hob l' e]
  · rw [ha] at e
    exact h.inj l1 l2 e
  · rw [upd_ne (fun z => f ⟨l, z.symm⟩)]
    exact e
  · obtain ⟨l', h2⟩ := o
    rw [ha] at h2
    exact .inl ⟨l', h2⟩
/-- a new thing stands behind a key of the world's dict -/
def WRep.moved (B : WRep) (l : WLab) (p : Addr) : WRep := { B with at_ := fun l' => if l' = l then p else B.at_ l' }
theorem WorldAt.move {H H1 : Hp} {B : WRep} {W W' : WS} (h : WorldAt H B W) (e : Ex H H1) (l : WLab) (hl : l ≠ .dict) {p : Addr} (np : H p = none) (hp : H1 p = some (wobj B W' l)) (ho : ∀ l', l' ≠ l → wobj B W' l' = wobj B W l') (ht : W'.time = W.time) (wf : W'.Wf) (hn : W'.n = W.n) (hg : W'.gone = W.gone) :
    WStep H (upd H1 (B.at_ .dict) (.dK (wD (B.moved l p) W.time))) B (B.moved l p) W W' := by
  have npx : ∀ l', B.at_ l' ≠ p := fun l' z => by
    have := h.ob l'
    rw [z, np] at this
    cases this
  have at1 : ∀ l', l' ≠ l → (B.moved l p).at_ l' = B.at_ l' := fun l' hl' => if_neg hl'
  have at2 : (B.moved l p).at_ l = p := by
    show (if l = l then p else B.at_ l) = p
    exact if_pos rfl
  have same : ∀ l', l' ≠ .dict → wobj (B.moved l p) W' l' = wobj B W' l' := fun l' hl' => by
    cases l' <;> first | rfl | exact absurd rfl hl'
  refine ⟨⟨fun l' => ?_, fun l1 l2 q => ?_, wf, by rw [hn]; exact h.gvl, fun i hi => by rw [hg]; exact h.gvn i (hn ▸ hi)⟩, fun b u eu f => ?_, fun b o => ?_, at1 _ (Ne.symm hl)⟩
  · by_cases e1 : l' = l
    · rw [e1, at2, upd_ne (fun z => npx .dict z.symm), hp, same l hl]
    · rw [at1 l' e1]
      by_cases e2 : l' = .dict
      · rw [e2, upd_same]
        show _ = some (HO.dK (wD (B.moved l p) W'.time))
        rw [ht]
      · rw [upd_ne (fun z => e2 (h.inj _ _ z)), e _ _ (h.ob l'), same l' e2, ho l' e1]
  · by_cases e1 : l1 = l
    · by_cases e2 : l2 = l
      · rw [e1, e2]
      · rw [e1, at2, at1 l2 e2] at q
        exact absurd q.symm (npx l2)
    · by_cases e2 : l2 = l
      · rw [e2, at2, at1 l1 e1] at q
        exact absurd q (npx l1)
      · rw [at1 l1 e1, at1 l2 e2] at q
        exact h.inj _ _ q
  · rw [upd_ne (fun z => f ⟨.dict, z.symm⟩)]
    exact e _ _ eu
  · obtain ⟨l', e1⟩ := o
    by_cases e2 : l' = l
    · rw [e2, at2] at e1
      exact .inr (e1 ▸ np)
    · rw [at1 l' e2] at e1
      exact .inl ⟨l', e1⟩
/-! ### what the keys hold -/
theorem wv_places (B : WRep) (t : Nat) : valV (wD B t) (.inr "places") = some (.ref (B.at_ .places)) := by kernel_rfl
theorem wv_time (B : WRep) (t : Nat) : valV (wD B t) (.inr "time") = some (nV t) := by kernel_rfl
theorem wv_pairs (B : WRep) (t : Nat) : valV (wD B t) (.inr "pairs") = some (.ref (B.at_ .pairs)) := by kernel_rfl
theorem wv_roots (B : WRep) (t : Nat) : valV (wD B t) (.inr "roots") = some (.ref (B.at_ .roots)) := by kernel_rfl
theorem wv_births (B : WRep) (t : Nat) : valV (wD B t) (.inr "births") = some (.ref (B.at_ .births)) := by kernel_rfl
theorem wv_deaths (B : WRep) (t : Nat) : valV (wD B t) (.inr "deaths") = some (.ref (B.at_ .deaths)) := by kernel_rfl
theorem wv_gens (B : WRep) (t : Nat) : valV (wD B t) (.inr "gens") = some (.ref (B.at_ .gens)) := by kernel_rfl
theorem wv_gone (B : WRep) (t : Nat) : valV (wD B t) (.inr "gone") = some (.ref (B.at_ .gone)) := by kernel_rfl
theorem wv_wills (B : WRep) (t : Nat) : valV (wD B t) (.inr "wills") = some (.ref (B.at_ .wills)) := by kernel_rfl
theorem wp_time (B : WRep) (t u : Nat) : putK (wD B t) (.inr "time") (nV u) = wD B u := by kernel_rfl
theorem wp_pairs (B : WRep) (t : Nat) (p : Addr) : putK (wD B t) (.inr "pairs") (.ref p) = wD (B.moved .pairs p) t := by kernel_rfl
theorem wp_gens (B : WRep) (t : Nat) (p : Addr) : putK (wD B t) (.inr "gens") (.ref p) = wD (B.moved .gens p) t := by kernel_rfl
theorem wD_len (B : WRep) (t : Nat) : (wD B t).length = 9 := rfl
section
variable {K : PySem.W.Frag} {H : Hp} {B : WRep} {W : WS} {σ : L2.St} {ta tb tv : TE} {D : Ends}
theorem ew_key (h : WorldAt H B W) (e : Ev ta σ H (.ref (B.at_ .dict))) {k : Str} {v : V} (hv : valV (wD B W.time) (.inr k) = some v) : Ev (tDGet ta (tC (.str k))) σ H v :=
  ev_dget e (ev_c (v := .str k)) (by rw [← hv]; exact DGet.k (k := Sum.inr k) (h.ob .dict))
theorem ew_places (h : WorldAt H B W) (e : Ev ta σ H (.ref (B.at_ .dict))) : Ev (tDGet ta (tC (.str "places"))) σ H (.ref (B.at_ .places)) := ew_key h e (wv_places _ _)
theorem ew_time (h : WorldAt H B W) (e : Ev ta σ H (.ref (B.at_ .dict))) : Ev (tDGet ta (tC (.str "time"))) σ H (nV W.time) := ew_key h e (wv_time _ _)
theorem ew_pairs (h : WorldAt H B W) (e : Ev ta σ H (.ref (B.at_ .dict))) : Ev (tDGet ta (tC (.str "pairs"))) σ H (.ref (B.at_ .pairs)) := ew_key h e (wv_pairs _ _)
theorem ew_roots (h : WorldAt H B W) (e : Ev ta σ H (.ref (B.at_ .dict))) : Ev (tDGet ta (tC (.str "roots"))) σ H (.ref (B.at_ .roots)) := ew_key h e (wv_roots _ _)
theorem ew_births (h : WorldAt H B W) (e : Ev ta σ H (.ref (B.at_ .dict))) : Ev (tDGet ta (tC (.str "births"))) σ H (.ref (B.at_ .births)) := ew_key h e (wv_births _ _)
theorem ew_deaths (h : WorldAt H B W) (e : Ev ta σ H (.ref (B.at_ .dict))) : Ev (tDGet ta (tC (.str "deaths"))) σ H (.ref (B.at_ .deaths)) := ew_key h e (wv_deaths _ _)
theorem ew_gens (h : WorldAt H B W) (e : Ev ta σ H (.ref (B.at_ .dict))) : Ev (tDGet ta (tC (.str "gens"))) σ H (.ref (B.at_ .gens)) := ew_key h e (wv_gens _ _)
theorem ew_gone (h : WorldAt H B W) (e : Ev ta σ H (.ref (B.at_ .dict))) : Ev (tDGet ta (tC (.str "gone"))) σ H (.ref (B.at_ .gone)) := ew_key h e (wv_gone _ _)
theorem ew_wills (h : WorldAt H B W) (e : Ev ta σ H (.ref (B.at_ .dict))) : Ev (tDGet ta (tC (.str "wills"))) σ H (.ref (B.at_ .wills)) := ew_key h e (wv_wills _ _)
theorem ewi_deaths (h : WorldAt H B W) (e : Ev ta σ H (.ref (B.at_ .dict))) {i : Nat} (hi : i < W.n) (e2 : Ev tb σ H (nV i)) : Ev (tOp (rIxL K) (tDGet ta (tC (.str "deaths"))) tb) σ H (oV (W.death i)) := ev_op (ew_deaths h e) e2 (rv_ixL (sq_of (h.ob .deaths)) (atI_nat (vl_get hi)))
theorem ewi_wills (h : WorldAt H B W) (e : Ev ta σ H (.ref (B.at_ .dict))) {i : Nat} (hi : i < W.n) (e2 : Ev tb σ H (nV i)) : Ev (tOp (rIxL K) (tDGet ta (tC (.str "wills"))) tb) σ H (.bl (W.will i)) := ev_op (ew_wills h e) e2 (rv_ixL (sq_of (h.ob .wills)) (atI_nat (vl_get hi)))
/-- gens[i], gens a name -/
theorem evi_gens (h : WorldAt H B W) (e : Ev ta σ H (.ref (B.at_ .gens))) {i : Nat} (hi : i < W.n) (e2 : Ev tb σ H (nV i)) : Ev (tOp (rIxL K) ta tb) σ H (nV (W.gen i)) := ev_op e e2 (rv_ixL (sq_of (h.ob .gens)) (atI_nat (vl_get hi)))
theorem ewi_goneN (h : WorldAt H B W) (e : Ev ta σ H (.ref (B.at_ .dict))) {i : Nat} (hi : i < W.n) (e2 : Ev tb σ H (nV i)) : Ev (tIsN (tOp (rIxL K) (tDGet ta (tC (.str "gone"))) tb)) σ H (.bl (!W.gone i)) := by
  obtain ⟨v, hv, hw⟩ := h.gvn i hi
  refine ev_is (ev_isN (ev_op (ew_gone h e) e2 (rv_ixL (sq_of (h.ob .gone)) (atI_nat hv)))) (congrArg V.bl ?_)
  cases e3 : W.gone i with
  | false => exact decide_eq_true (hw.mpr e3)
  | true => exact decide_eq_false (fun z => (by have := hw.mp z; rw [e3] at this; cases this))
end
/-! ### stores -/
section
variable {H : Hp} {B : WRep} {W : WS}
theorem WorldAt.putDeath (h : WorldAt H B W) {i : Nat} {x : Option Nat} : WStep H (upd H (B.at_ .deaths) (.lst ((vl W.n fun j => oV (W.death j)).set i (oV x)))) B B W { W with death := fset W.death i x } := by
  refine h.put .deaths ?_ rfl (fun l' hl' => ?_) ⟨h.wf.p, h.wf.psn, h.wf.n60, h.wf.pn, h.wf.pl, h.wf.rn, h.wf.rl, h.wf.tb⟩ h.gvl h.gvn
  · show HO.lst _ = HO.lst (vl W.n fun j => oV (fset W.death i x j))
    rw [vl_set, fset_map]
  · cases l' <;> first | rfl | exact absurd rfl hl'
theorem WorldAt.putGen (h : WorldAt H B W) {i x : Nat} : WStep H (upd H (B.at_ .gens) (.lst ((vl W.n fun j => nV (W.gen j)).set i (nV x)))) B B W { W with gen := fset W.gen i x } := by
  refine h.put .gens ?_ rfl (fun l' hl' => ?_) ⟨h.wf.p, h.wf.psn, h.wf.n60, h.wf.pn, h.wf.pl, h.wf.rn, h.wf.rl, h.wf.tb⟩ h.gvl h.gvn
  · show HO.lst _ = HO.lst (vl W.n fun j => nV (fset W.gen i x j))
    rw [vl_set, fset_map (fun b => nV b)]
  · cases l' <;> first | rfl | exact absurd rfl hl'
theorem WorldAt.putWill (h : WorldAt H B W) {i : Nat} {x : Bool} : WStep H (upd H (B.at_ .wills) (.lst ((vl W.n fun j => V.bl (W.will j)).set i (.bl x)))) B B W { W with will := fset W.will i x } := by
  refine h.put .wills ?_ rfl (fun l' hl' => ?_) ⟨h.wf.p, h.wf.psn, h.wf.n60, h.wf.pn, h.wf.pl, h.wf.rn, h.wf.rl, h.wf.tb⟩ h.gvl h.gvn
  · show HO.lst _ = HO.lst (vl W.n fun j => V.bl (fset W.will i x j))
    rw [vl_set, fset_map]
  · cases l' <;> first | rfl | exact absurd rfl hl'
theorem WorldAt.putGone (h : WorldAt H B W) {i : Nat} {p : Addr} (hi : i < W.n) : WStep H (upd H (B.at_ .gone) (.lst (B.gv.set i (.ref p)))) B { B with gv := B.gv.set i (.ref p) } W { W with gone := fset W.gone i true } := by
  refine h.put (B' := { B with gv := B.gv.set i (.ref p) }) (W' := { W with gone := fset W.gone i true }) .gone rfl rfl (fun l' hl' => ?_) ⟨h.wf.p, h.wf.psn, h.wf.n60, h.wf.pn, h.wf.pl, h.wf.rn, h.wf.rl, h.wf.tb⟩ ?_ (fun j hj => ?_)
  · cases l' <;> first | rfl | exact absurd rfl hl'
  · show (B.gv.set i (.ref p)).length = W.n
    rw [List.length_set]
    exact h.gvl
  · show ∃ v, (B.gv.set i (.ref p))[j]? = some v ∧ (v = .non ↔ fset W.gone i true j = false)
    by_cases e : j = i
    · subst e
      exact ⟨_, List.getElem?_set_self (by rw [h.gvl]; exact hj), ⟨fun z => (by cases z), fun z => (by rw [fset_same] at z; cases z)⟩⟩
    · rw [List.getElem?_set_ne (Ne.symm e), fset_ne _ _ e]
      exact h.gvn j hj
theorem WorldAt.putTime (h : WorldAt H B W) {t : Nat} (ht : t < 2 ^ 300) : WStep H (upd H (B.at_ .dict) (.dK (wD B t))) B B W { W with time := t } := by
  refine h.put .dict rfl rfl (fun l' hl' => ?_) ⟨h.wf.p, h.wf.psn, h.wf.n60, h.wf.pn, h.wf.pl, h.wf.rn, h.wf.rl, ht⟩ h.gvl h.gvn
  cases l' <;> first | rfl | exact absurd rfl hl'
theorem WorldAt.putRoots (h : WorldAt H B W) {l : List Nat} (h1 : l.Nodup) (h2 : ∀ i ∈ l, i < W.n) : WStep H (upd H (B.at_ .roots) (.dK (kD l))) B B W { W with roots := l } := by
  refine h.put .roots rfl rfl (fun l' hl' => ?_) ⟨h.wf.p, h.wf.psn, h.wf.n60, h.wf.pn, h.wf.pl, h1, h2, h.wf.tb⟩ h.gvl h.gvn
  cases l' <;> first | rfl | exact absurd rfl hl'
theorem WorldAt.putPairs (h : WorldAt H B W) {l : List (Nat × Nat)} (h1 : l.Nodup) (h2 : ∀ q ∈ l, q.1 < W.n ∧ q.2 < W.n) : WStep H (upd H (B.at_ .pairs) (.dT (pT l))) B B W { W with prs := l } := by
  refine h.put .pairs rfl rfl (fun l' hl' => ?_) ⟨h.wf.p, h.wf.psn, h.wf.n60, h1, h2, h.wf.rn, h.wf.rl, h.wf.tb⟩ h.gvl h.gvn
  cases l' <;> first | rfl | exact absurd rfl hl'
end
end HD
set_option Elab.async false
set_option linter.all false
set_option maxRecDepth 100000
set_option maxHeartbeats 4000000
/-! The law's small functions: cell, digits, ten, places, level, kept. -/
namespace HD
open PySem PySem.Spec PyProof.Rows L2 Evl
section
variable {P : Program} {w : World} {K : PySem.W.Frag} {mg : Str → Option Value} {base : Heap}
theorem sc_Lcell : FnScope ["_law_script", "_law_k"] ["_law_script", "_law_k"] (defScope s_Lcell) := ⟨rfl, rfl, rfl, by decide +kernel, rfl, by decide +kernel, by decide +kernel⟩
def sp_Lcell (K : PySem.W.Frag) : Sp := fun vs H Q _ => ∃ (l : Addr) (ns : List Int) (k : Nat), vs = [.ref l, nV k] ∧ SqL K H l (ns.map V.int) ∧ ∀ z : Int, RetV (.int z) H Q
theorem ok_Lcell (T : TX K mg) : Glob P w K mg base 1 "_law_cell" ["_law_script", "_law_k"] (sp_Lcell K) := by
  have SC := sc_Lcell
  refine glob_mk (F_Lcell T) (g_Lcell T) sc_Lcell (fun _ _ _ _ _ _ us hl => match us, hl with | [_, _], _ => rfl) (fun vs H Q E h => ?_) (fun cdv A outer s H vs Q E hr h => ?_)
  · obtain ⟨l, ns, k, rfl, _⟩ := h
    rfl
  · obtain ⟨l, ns, j, rfl, hl, k⟩ := h
    refine ⟨_, (pss_cons (ps_if (pt_cmpR op_lt (pv 1) (klen (K := K) rfl (b_len T) (pa_cons (pv 0) pa_nil)) (nomark _))
      (pss_one (ps_ret (kix (K := K) (pv 0) (pv 1))))
      pss_nil)
    (pss_one (ps_ret (pe_op op_add (pv 1) pe_int)))), ?_⟩
    refine q_when (b := decide (j < (ns.map V.int).length)) (et_test (ev_op (ev_var rfl) (ev_len (ev_var rfl) hl) rv_ltN)) (fun hb H1 e1 => ?_) (fun hb H1 e1 => ?_)
    · have hj : j < ns.length := by
        have := of_decide_eq_true hb
        rw [List.length_map] at this
        exact this
      exact s_ret (ev_op (ev_var rfl) (ev_var rfl) (rv_ixL (ex_l e1 hl) (atI_nat (v := .int ns[j]) (by rw [List.getElem?_map, List.getElem?_eq_getElem hj]; rfl)))) fun H2 e2 => k _ H2 (e1.trans e2)
    · exact s_ret (ev_op (ev_var rfl) ev_c rv_I0) fun H2 e2 => k _ H2 (e1.trans e2)
theorem sc_Lten : FnScope ["_law_many", "_law_power", "_law_turn"] ["_law_many"] (defScope s_Lten) := ⟨rfl, rfl, rfl, by decide +kernel, rfl, by decide +kernel, by decide +kernel⟩
def sp_Lten (K : PySem.W.Frag) : Sp := fun vs H Q _ => ∃ m, vs = [nV m] ∧ m ≤ 40 ∧ RetV (nV (10 ^ m)) H Q
theorem ok_Lten (T : TX K mg) : Glob P w K mg base 1 "_law_ten" ["_law_many"] (sp_Lten K) := by
  have SC := sc_Lten
  refine glob_mk (F_Lten T) (g_Lten T) sc_Lten (fun _ _ _ _ _ _ us hl => match us, hl with | [_], _ => rfl) (fun vs H Q E h => ?_) (fun cdv A outer s H vs Q E hr h => ?_)
  · obtain ⟨m, rfl, _⟩ := h
    rfl
  · obtain ⟨m, rfl, hm, k⟩ := h
    refine ⟨_, (pss_cons (ps_set (i := 1) SC.nd rfl (Or.inl rfl) pe_int)
    (pss_cons (ps_for PassesOwn.never rfl (pi_range1 rfl (b_range T) (pa_cons (pv 0) pa_nil)) (pg_name (i := 2) SC.nd rfl (Or.inl rfl))
      (pss_one (ps_set (i := 1) SC.nd rfl (Or.inl rfl) (pe_op op_mulW (pv 1) pe_int))))
    (pss_one (ps_ret (pv 1))))), ?_⟩
    refine q_asg (v := nV 1) ev_c fun H1 e1 => ?_
    refine u_seq (s_forR1 (ea_cons (ev_var rfl) ea_nil) (by omega) (fun j σ H' => ∃ x, σ = [some (nV m), some (nV (10 ^ j)), x] ∧ Ex H H') (fun H2 e2 => ⟨none, rfl, e1.trans e2⟩) (fun j σ' H' hj q => ?_) (fun σ' H' q => ?_))
    · obtain ⟨x, rfl, e⟩ := q
      have hb : 10 ^ j < 2 ^ 160 := by
        have h1 : 10 ^ j ≤ 10 ^ 40 := Nat.pow_le_pow_right (by decide) (by omega)
        exact Nat.lt_of_le_of_lt h1 (by decide)
      refine s_asg (v := nV (10 ^ (j + 1))) (ev_is (ev_op (ev_var rfl) (ev_c (v := nV 10)) (rv_mulN 160 4 hb (by decide))) (by rw [Nat.pow_succ])) fun H2 e2 => ⟨_, rfl, e.trans e2⟩
    · obtain ⟨x, rfl, e⟩ := q
      rw [Int.toNat_natCast]
      exact s_ret (ev_var rfl) fun H2 e2 => k H2 (e.trans e2)
theorem sc_Lplaces : FnScope ["_law_radices_here", "_law_places_here", "_law_radix"] ["_law_radices_here"] (defScope s_Lplaces) := ⟨rfl, rfl, rfl, by decide +kernel, rfl, by decide +kernel, by decide +kernel⟩
def sp_Lplaces (K : PySem.W.Frag) : Sp := fun vs H Q _ => ∃ (l : Addr) (rs : List Nat), vs = [.ref l] ∧ SqL K H l (nVs rs) ∧ Rad rs ∧ RetL (nVs (pl 1 rs)) H Q
theorem ok_Lplaces (T : TX K mg) : Glob P w K mg base 1 "_law_places" ["_law_radices_here"] (sp_Lplaces K) := by
  have SC := sc_Lplaces
  refine glob_mk (F_Lplaces T) (g_Lplaces T) sc_Lplaces (fun _ _ _ _ _ _ us hl => match us, hl with | [_], _ => rfl) (fun vs H Q E h => ?_) (fun cdv A outer s H vs Q E hr h => ?_)
  · obtain ⟨l, rs, rfl, _⟩ := h
    rfl
  · obtain ⟨l, rs, rfl, hl, hrad, k⟩ := h
    refine ⟨_, (pss_cons (ps_set (i := 1) SC.nd rfl (Or.inl rfl) (pe_lst (pa_cons pe_int pa_nil)))
    (pss_cons (ps_for PassesOwn.never rfl (pi_list (pv 0)) (pg_name (i := 2) SC.nd rfl (Or.inl rfl))
      (pss_one (ps_expr (pe_bm PySem.F.plainAttrs_list PySem.F.slot_list_append PySem.F.type_list_append mt_append (pv 1) (pa_cons (pe_op op_mulW (kix (K := K) (pv 1) (pe_un un_neg pe_int)) (pv 2)) pa_nil)))))
    (pss_one (ps_ret (pv 1))))), ?_⟩
    refine q_asgL (el_lst (ea_cons ev_c ea_nil) (by show 1 ≤ 100000; decide)) fun p H1 np e1 hp => ?_
    refine q_forLn (ev_var rfl) (ex_l e1 hl) (fun j σ H' => ∃ x, σ = [some (.ref l), some (.ref p), x] ∧ Ex H H' ∧ H' p = some (.lst (nVs (pl 1 (rs.take j))))) (fun H2 e2 => ⟨none, rfl, e1.trans e2, e2 _ _ hp⟩) (fun j σ' H' _ q => let ⟨_, _, e, _⟩ := q; ex_l e hl) (fun j y σ' H' hy q => ?_) (fun σ' H' q => ?_)
    · obtain ⟨z1, rfl, e, hb'⟩ := q
      obtain ⟨hm, rfl⟩ := nVs_at hy
      have hj : j < rs.length := by
        have := (List.getElem?_eq_some_iff.mp hy).1
        rw [nVs_len] at this
        exact this
      have pb := (hrad.take j).prod
      have hi := hrad.hi _ hm
      have lastv : (nVs (pl 1 (rs.take j))).getLast? = some (nV (prodL (rs.take j))) := by
        unfold nVs
        rw [List.getLast?_map, pl_last, Nat.one_mul]
        rfl
      refine s_app hb' (ev_var rfl) (ev_op (ev_op (ev_var rfl) (ev_un ev_c ru_neg) (rv_ixL (sq_of hb') (atI_neg1 lastv))) (ev_var rfl) (rv_mulN 241 40 (Nat.lt_of_le_of_lt pb (by decide)) (Nat.lt_of_le_of_lt hi (by decide)))) (by rw [nVs_len, pl_len]; have := (hrad.take j).len; omega) fun H7 e7 => ⟨_, rfl, Ex.mut (e.trans e7) np, ?_⟩
      rw [upd_same, take_snoc (getD_at hj), pl_snoc, Nat.one_mul]
      unfold nVs
      rw [List.map_append]
      rfl
    · obtain ⟨z1, rfl, e, hb'⟩ := q
      rw [nVs_len, List.take_length] at hb'
      exact s_ret (ev_var rfl) fun H2 e2 => k p H2 np (e.trans e2) (e2 _ _ hb')
theorem last_filter {p : Nat → Bool} {m : Nat} : ∀ {n : Nat}, m < n → p m = true → (∀ k, m < k → k < n → p k = false) → ((List.range n).filter p).getLast? = some m
  | 0, h, _, _ => absurd h (Nat.not_lt_zero _)
  | n + 1, h, hp, hn => by
    rw [List.range_succ, List.filter_append]
    by_cases e : m = n
    · subst e
      rw [List.filter_cons, if_pos hp]
      exact List.getLast?_concat
    · have := hn n (by omega) (by omega)
      rw [List.filter_cons, if_neg (by rw [this]; decide), List.filter_nil, List.append_nil]
      exact last_filter (by omega) hp fun k a b => hn k a (by omega)
theorem sc_Llevel : FnScope ["_law_places_here", "_law_number", "_law_k", "_law_place"] ["_law_places_here", "_law_number"] (defScope s_Llevel) := ⟨rfl, rfl, rfl, by decide +kernel, rfl, by decide +kernel, by decide +kernel⟩
def sp_Llevel (K : PySem.W.Frag) : Sp := fun vs H Q _ => ∃ (l : Addr) (ps : List Nat) (t : Nat), vs = [.ref l, nV t] ∧ SqL K H l (nVs ps) ∧ Ps ps ∧ Ch ps ∧ ps.length ≤ 1000 ∧ RetV (nV (lvl ps t)) H Q
theorem ok_Llevel (T : TX K mg) : Glob P w K mg base 1 "_law_level" ["_law_places_here", "_law_number"] (sp_Llevel K) := by
  have SC := sc_Llevel
  refine glob_mk (F_Llevel T) (g_Llevel T) sc_Llevel (fun _ _ _ _ _ _ us hl => match us, hl with | [_, _], _ => rfl) (fun vs H Q E h => ?_) (fun cdv A outer s H vs Q E hr h => ?_)
  · obtain ⟨l, ps, t, rfl, _⟩ := h
    rfl
  · obtain ⟨l, ps, t, rfl, hl, hp, ch, hz, k⟩ := h
    refine ⟨_, (pss_one (ps_ret (kix (K := K) (pe_lc (own := [("_law_k", 2), ("_law_place", 3)]) rfl SC.nd (pi_enum rfl (b_enumerate T) (pa_cons (pv 0) pa_nil)) (blkOk_by (own := [("_law_k", 2), ("_law_place", 3)]) (N := ["_law_places_here", "_law_number", "_law_k", "_law_place"]) (sc := defScope s_Llevel) (by decide +kernel)) (fun _ _ _ _ _ => (ktup (K := K) 2 rfl (pgs_cons (pg_name (i := 2) SC.nd rfl (Or.inl rfl)) (pgs_cons (pg_name (i := 3) SC.nd rfl (Or.inl rfl)) pgs_nil)))) (fun _ _ _ _ _ => pts_one (pt_cmpR op_eq (pe_op op_mod (pv 1) (pv 3)) pe_int (nomark _))) (fun _ _ _ _ _ => (pv 2))) (pe_un un_neg pe_int)))), ?_⟩
    have lastv : ((List.range ps.length).filter fun k => decide (t % ps.getD k 0 = 0)).getLast? = some (lvl ps t) := by
      have lt := lvl_le ps t
      have l0 := hp.last
      refine last_filter (by omega) (decide_eq_true ?_) fun j h1 h2 => decide_eq_false fun z => ?_
      · have := lvl_dvd hp.one (Nat.le_refl (lvl ps t))
        unfold plc at this
        rw [List.getD_eq_getElem?_getD, List.getElem?_eq_getElem (show lvl ps t < ps.length by omega)] at this ⊢
        exact this
      · have := lvl_ge hp.one ch (t := t) h2 (by
          unfold plc
          rw [List.getD_eq_getElem?_getD, List.getElem?_eq_getElem h2] at z ⊢
          exact z)
        omega
    refine s_ret (ev_opL1 (el_lcE (fun k => decide (t % ps.getD k 0 = 0)) (fun k => nV k) (ea_cons (ev_var rfl) ea_nil) hl (by rw [nVs_len]; omega) (fun _ _ => rfl) (fun j x H1 e hx => ?_) (fun j x H1 e hx _ => ev_var rfl)) (fun H1 e1 => ev_un ev_c ru_neg) (fun p H1 hp1 e1 => rv_ixL (sq_of hp1) (atI_neg1 ?_))) k
    · obtain ⟨hm, rfl⟩ := nVs_at hx
      exact et_test (ev_op (ev_op (ev_var rfl) (ev_var rfl) (rv_modN (hp.pos _ hm))) ev_c rv_eq0)
    · rw [nVs_len]
      unfold given
      rw [List.getLast?_map, lastv]
      rfl
theorem sc_Lkept : FnScope ["_law_world_here", "_law_k"] ["_law_world_here"] (defScope s_Lkept) := ⟨rfl, rfl, rfl, by decide +kernel, rfl, by decide +kernel, by decide +kernel⟩
def WS.kept (W : WS) : List Nat := sel W.n fun i => !W.gone i
theorem WS.mem_kept {W : WS} {i : Nat} : i ∈ W.kept ↔ i < W.n ∧ W.gone i = false := by
  unfold WS.kept
  rw [mem_sel, Bool.not_eq_true']
def sp_Lkept : Sp := fun vs H Q _ => ∃ B W, vs = [.ref (B.at_ .dict)] ∧ WorldAt H B W ∧ RetL (nVs W.kept) H Q
theorem ok_Lkept (T : TX K mg) : Glob P w K mg base 1 "_law_kept" ["_law_world_here"] sp_Lkept := by
  have SC := sc_Lkept
  refine glob_mk (F_Lkept T) (g_Lkept T) sc_Lkept (fun _ _ _ _ _ _ us hl => match us, hl with | [_], _ => rfl) (fun vs H Q E h => ?_) (fun cdv A outer s H vs Q E hr h => ?_)
  · obtain ⟨B, W, rfl, _⟩ := h
    rfl
  · obtain ⟨B, W, rfl, h, k⟩ := h
    have hu := hu_of hr
    refine ⟨_, (pss_one (ps_ret (pe_lc (own := [("_law_k", 1)]) rfl SC.nd (pi_range1 rfl (b_range T) (pa_cons (klen (K := K) rfl (b_len T) (pa_cons (pe_dget hu (pv 0) pe_str (fun _ _ => rfl)) pa_nil)) pa_nil)) (blkOk_by (own := [("_law_k", 1)]) (N := ["_law_world_here", "_law_k"]) (sc := defScope s_Lkept) (by decide +kernel)) (fun _ _ _ _ _ => (pg_name (i := 1) SC.nd rfl (Or.inl rfl))) (fun _ _ _ _ _ => pts_one (pt_cmp (pc_isN (kix (K := K) (pe_dget hu (pv 0) pe_str (fun _ _ => rfl)) (pv 1))))) (fun _ _ _ _ _ => (pv 1))))), ?_⟩
    have n60 := h.wf.n60
    refine s_retL (el_lcR1 (n := ((W.n : Nat) : Int)) (fun i => !W.gone i) (fun i => nV i) (ea_cons (ev_is (ev_len (ew_births h (ev_var rfl)) (sq_of (h.ob .births))) (by rw [vl_len])) ea_nil) (by omega) (fun _ => rfl) (fun i H1 e hi => ?_) (fun i H1 e hi _ => ev_var rfl)) fun p H1 np e hp => ?_
    · exact et_B (ewi_goneN (h.ex e) (ev_var rfl) (by omega) (ev_var rfl))
    · rw [Int.toNat_natCast] at hp
      exact k p H1 np e hp
/-- _law_kept(world) -/
theorem el_Lkept {H : Hp} {B : WRep} {W : WS} {σ : L2.St} {ts : TA} {E : XK} (h : WorldAt H B W) (e2 : EvA ts σ H [.ref (B.at_ .dict)]) : EvL (tCall sp_Lkept [] E ts) σ H (nVs W.kept) :=
  el_call e2 fun H1 e1 Q q E => ⟨B, W, rfl, h.ex e1, q⟩
end
end HD
set_option Elab.async false
set_option linter.all false
set_option maxRecDepth 100000
set_option maxHeartbeats 4000000
/-! The law's marked and reach. -/
namespace HD
open PySem PySem.Spec PyProof.Rows L2 Evl
/-- a list of references to the pairs, in order -/
def PrsAt (H : Hp) (xs : List V) (ps : List (Nat × Nat)) : Prop := xs.length = ps.length ∧ ∀ (i : Nat) (q : Nat × Nat), ps[i]? = some q → ∃ T, xs[i]? = some (V.ref T) ∧ H T = some (.tup [nV q.1, nV q.2])
theorem PrsAt.ex {H H' : Hp} {xs : List V} {ps : List (Nat × Nat)} (h : PrsAt H xs ps) (e : Ex H H') : PrsAt H' xs ps := ⟨h.1, fun i q hq => let ⟨T, a, b⟩ := h.2 i q hq; ⟨T, a, e _ _ b⟩⟩
def RetM (ss : List Nat) (H : Hp) (Q : VK) : Prop := ∀ p H2, H p = none → Ex H H2 → H2 p = some (.dK (kD (addAll [] ss))) → Q (.ref p) H2
def RetMP (ps : List (Nat × Nat)) (H : Hp) (Q : VK) : Prop := ∀ p H2, H p = none → Ex H H2 → H2 p = some (.dT (pT ps)) → Q (.ref p) H2
section
variable {P : Program} {w : World} {K : PySem.W.Frag} {mg : Str → Option Value} {base : Heap}
theorem sc_Lmarked : FnScope ["_law_some", "_law_marks", "_law_one"] ["_law_some"] (defScope s_Lmarked) := ⟨rfl, rfl, rfl, by decide +kernel, rfl, by decide +kernel, by decide +kernel⟩
def sp_Lmarked (K : PySem.W.Frag) : Sp := fun vs H Q _ => ∃ a, vs = [.ref a] ∧ ((∃ ss : List Nat, SqL K H a (nVs ss) ∧ ss.length ≤ 1000 ∧ RetM ss H Q) ∨ (∃ ss : List Nat, H a = some (.dK (kD ss)) ∧ ss.length ≤ 1000 ∧ RetM ss H Q) ∨
  ∃ xs ps, SqL K H a xs ∧ ps.Nodup ∧ ps.length ≤ 40000 ∧ PrsAt H xs ps ∧ RetMP ps H Q)
theorem addAll_len : ∀ {ss l : List Nat}, (addAll l ss).length ≤ l.length + ss.length
  | [], l => Nat.le_refl _
  | a :: r, l => by
    have h := addAll_len (ss := r) (l := addK l a)
    have h2 := len_addK (l := l) (k := a)
    show (addAll (addK l a) r).length ≤ _
    rw [List.length_cons]
    omega
theorem addAll_take (ss : List Nat) (j : Nat) : (addAll [] (ss.take j)).length ≤ ss.length := by
  have h1 := addAll_len (ss := ss.take j) (l := [])
  have h2 := List.length_take_le' j ss
  rw [List.length_nil, Nat.zero_add] at h1
  exact Nat.le_trans h1 h2
theorem ok_Lmarked (T : TX K mg) : Glob P w K mg base 1 "_law_marked" ["_law_some"] (sp_Lmarked K) := by
  have SC := sc_Lmarked
  refine glob_mk (F_Lmarked T) (g_Lmarked T) sc_Lmarked (fun _ _ _ _ _ _ us hl => match us, hl with | [_], _ => rfl) (fun vs H Q E h => ?_) (fun cdv A outer s H vs Q E hr h => ?_)
  · obtain ⟨a, rfl, _⟩ := h
    rfl
  · obtain ⟨a, rfl, h⟩ := h
    have hu := hu_of hr
    rcases h with ⟨ss, ha, hz, k⟩ | ⟨ss, ha, hz, k⟩ | ⟨xs, ps, ha, nd, hz, hp, k⟩
    · refine ⟨_, (pss_cons (ps_set (i := 1) SC.nd rfl (Or.inl rfl) pe_dnewK)
      (pss_cons (ps_for PassesOwn.never rfl (pi_list (pv 0)) (pg_name (i := 2) SC.nd rfl (Or.inl rfl))
        (pss_one (ps_dput hu (pv 1) (pv 2) pe_bl rfl)))
      (pss_one (ps_ret (pv 1))))), ?_⟩
      refine fun F nF => ?_
      refine q_forLn (ev_var (i := 0) rfl) (ex_l (Ex.new nF) ha) (fun j σ H' => ∃ x, σ = [some (.ref a), some (.ref F), x] ∧ Ex H H' ∧ H' F = some (.dK (kD (addAll [] (ss.take j))))) (fun H2 e2 => ⟨none, rfl, (Ex.new nF).trans e2, e2 _ _ upd_same⟩) (fun j σ' H' _ q => let ⟨_, _, e, _⟩ := q; ex_l e ha) (fun j y σ' H' hy q => ?_) (fun σ' H' q => ?_)
      · obtain ⟨x, rfl, e, hF⟩ := q
        obtain ⟨hm, rfl⟩ := nVs_at hy
        have hj : j < ss.length := by
          have := (List.getElem?_eq_some_iff.mp hy).1
          rw [nVs_len] at this
          exact this
        refine q_put (k := Sum.inl ((ss.getD j 0 : Nat) : Int)) ev_c (ev_var rfl) hF (ev_var rfl) (by rw [kD_len]; have := addAll_take ss j; omega) fun H3 e3 => ⟨_, rfl, Ex.mut (e.trans e3) nF, ?_⟩
        rw [upd_same, kD_put, take_snoc (getD_at hj), addAll_snoc]
      · obtain ⟨x, rfl, e, hF⟩ := q
        rw [nVs_len, List.take_length] at hF
        exact s_ret (ev_var rfl) fun H3 e3 => k F H3 nF (e.trans e3) (e3 _ _ hF)
    · refine ⟨_, (pss_cons (ps_set (i := 1) SC.nd rfl (Or.inl rfl) pe_dnewK)
      (pss_cons (ps_lock (ps_for PassesOwn.never rfl (pi_keys (pv 0)) (pg_name (i := 2) SC.nd rfl (Or.inl rfl))
        (pss_one (ps_dput hu (pv 1) (pv 2) pe_bl rfl))))
      (pss_one (ps_ret (pv 1))))), ?_⟩
      refine fun F nF => ?_
      have naF : a ≠ F := ne_of_none ha nF
      refine ⟨a, _, Ex.new nF _ _ ha, trivial, fun od => ⟨_, rfl, a, od, rfl, .inl ⟨kD ss, upd_same, ?_⟩⟩⟩
      refine for_it (walk_keys (d := a) (o := od) (kvs := kD ss)) (fun j σ H' => ∃ x, σ = [some (.ref a), some (.ref F), x] ∧ H' a = some (.frz od (.dK (kD ss))) ∧ (∀ b o, b ≠ a → H b = some o → H' b = some o) ∧ H' F = some (.dK (kD (addAll [] (ss.take j))))) ⟨none, rfl, upd_same, fun b o hb hbo => ?_, ?_⟩ (fun j σ' H' _ q => let ⟨_, _, z, _⟩ := q; z) (fun j y σ' H' H'' hj q hy => ?_) (fun σ' H' q => ?_)
      · rw [upd_ne hb]
        exact Ex.new nF _ _ hbo
      · rw [upd_ne naF.symm]
        exact upd_same
      · obtain ⟨x, rfl, hfa, ho, hF⟩ := q
        obtain ⟨rfl, kk, vv, hk, rfl⟩ := hy
        obtain ⟨b, hb, rfl⟩ := kD_at hk
        refine q_put (k := Sum.inl ((b : Nat) : Int)) (tv := tC (.bl true)) (td := tVar 1) (ty := tVar 2) (σ := [some (.ref a), some (.ref F), some (nV b)]) ev_c (ev_var rfl) hF (ev_var rfl) (by rw [kD_len]; have := addAll_take ss j; omega) fun H3 e3 => ⟨_, rfl, ?_, fun c o hc hco => ?_, ?_⟩
        · rw [upd_ne naF]
          exact e3 _ _ hfa
        · rw [upd_ne (ne_of_none hco nF)]
          exact e3 _ _ (ho c o hc hco)
        · rw [upd_same, kD_put, take_snoc hb, addAll_snoc]
      · obtain ⟨x, rfl, hfa, ho, hF⟩ := q
        rw [kD_len, List.take_length] at hF
        refine ⟨hfa, ?_⟩
        have hF2 : upd H' a (.dK (kD ss)) F = some (.dK (kD (addAll [] ss))) := by
          rw [upd_ne naF.symm]
          exact hF
        refine s_ret (ev_var (i := 1) rfl) fun H3 e3 => k F H3 nF (fun b o hbo => e3 _ _ ?_) (e3 _ _ hF2)
        by_cases hba : b = a
        · rw [hba, upd_same]
          rw [hba, ha] at hbo
          exact hbo
        · rw [upd_ne hba]
          exact ho b o hba hbo
    · refine ⟨_, (pss_cons (ps_set (i := 1) SC.nd rfl (Or.inl rfl) pe_dnewT)
      (pss_cons (ps_for PassesOwn.never rfl (pi_list (pv 0)) (pg_name (i := 2) SC.nd rfl (Or.inl rfl))
        (pss_one (ps_dput hu (pv 1) (pv 2) pe_bl rfl)))
      (pss_one (ps_ret (pv 1))))), ?_⟩
      refine fun F nF => ?_
      refine q_forLn (ev_var (i := 0) rfl) (ex_l (Ex.new nF) ha) (fun j σ H' => ∃ x, σ = [some (.ref a), some (.ref F), x] ∧ Ex H H' ∧ H' F = some (.dT (pT (ps.take j)))) (fun H2 e2 => ⟨none, rfl, (Ex.new nF).trans e2, e2 _ _ upd_same⟩) (fun j σ' H' _ q => let ⟨_, _, e, _⟩ := q; ex_l e ha) (fun j y σ' H' hy q => ?_) (fun σ' H' q => ?_)
      · obtain ⟨x, rfl, e, hF⟩ := q
        have hj : j < ps.length := by
          have := (List.getElem?_eq_some_iff.mp hy).1
          rw [hp.1] at this
          exact this
        obtain ⟨T, h1, h2⟩ := hp.2 j _ (List.getElem?_eq_getElem hj)
        rw [hy] at h1
        cases h1
        have hnot : ¬ ps[j] ∈ ps.take j := fun z => by
          obtain ⟨n, hn, e⟩ := List.getElem_of_mem z
          rw [List.length_take] at hn
          have e2 : ps[n]? = some ps[j] := by
            rw [← e, List.getElem_take, List.getElem?_eq_getElem]
          have := nd_ix nd e2 (List.getElem?_eq_getElem hj)
          omega
        have hlen : (pT (ps.take j)).length < 100000 := by
          rw [pT_len, List.length_take]
          omega
        refine ⟨_, rfl, _, rfl, F, _, rfl, .inr ⟨pT (ps.take j), kP ps[j], T, hF, rfl, e _ _ h2, sz_lt hlen, rfl⟩, ⟨_, rfl, Ex.mut e nF, ?_⟩⟩
        rw [upd_same, pT_put, take_snoc (List.getElem?_eq_getElem hj)]
        unfold addP
        rw [if_neg hnot]
      · obtain ⟨x, rfl, e, hF⟩ := q
        rw [hp.1, List.take_length] at hF
        exact s_ret (ev_var rfl) fun H3 e3 => k F H3 nF (e.trans e3) (e3 _ _ hF)
/-- where a number leads by some pairs -/
def stepP (l : List (Nat × Nat)) (x : Nat) : List Nat := (l.filter fun q => decide (q.1 = x)).map (·.2)
theorem mem_stepP {l : List (Nat × Nat)} {x y : Nat} : y ∈ stepP l x ↔ (x, y) ∈ l := by
  unfold stepP
  rw [List.mem_map]
  constructor
  · rintro ⟨q, hq, rfl⟩
    obtain ⟨h1, h2⟩ := List.mem_filter.mp hq
    rw [← of_decide_eq_true h2]
    exact h1
  · intro h
    exact ⟨(x, y), List.mem_filter.mpr ⟨h, decide_eq_true rfl⟩, rfl⟩
theorem stepP_yes {l : List (Nat × Nat)} {i x y : Nat} (h : l[i]? = some (x, y)) : (stepP l x)[(stepP (l.take i) x).length]? = some y ∧ (stepP (l.take (i + 1)) x).length = (stepP (l.take i) x).length + 1 := by
  have e : l = l.take i ++ (x, y) :: l.drop (i + 1) := by
    have hi := (List.getElem?_eq_some_iff.mp h).1
    conv => lhs; rw [← List.take_append_drop i l]
    rw [List.drop_eq_getElem_cons hi]
    rw [List.getElem?_eq_getElem hi] at h
    rw [Option.some.inj h]
  have sp : ∀ (a b : List (Nat × Nat)), stepP (a ++ b) x = stepP a x ++ stepP b x := fun a b => by
    unfold stepP
    rw [List.filter_append, List.map_append]
  have sc : ∀ b : List (Nat × Nat), stepP ((x, y) :: b) x = y :: stepP b x := fun b => by
    unfold stepP
    rw [List.filter_cons, if_pos (decide_eq_true rfl)]
    rfl
  constructor
  · conv => lhs; rw [e]
    rw [sp, sc, List.getElem?_append_right (by rw [← e]; exact Nat.le_refl _), ← e, Nat.sub_self]
    rfl
  · rw [take_snoc h, sp, sc, List.length_append]
    rfl
theorem stepP_no {l : List (Nat × Nat)} {i x z y : Nat} (h : l[i]? = some (z, y)) (hz : z ≠ x) : stepP (l.take (i + 1)) x = stepP (l.take i) x := by
  rw [take_snoc h]
  unfold stepP
  rw [List.filter_append, List.filter_cons, if_neg (by simpa using hz), List.filter_nil, List.append_nil]
theorem sc_Lreach : FnScope ["_law_starts", "_law_pairs", "_law_seen", "_law_rest", "_law_here", "_law_one", "_law_other"] ["_law_starts", "_law_pairs"] (defScope s_Lreach) := ⟨rfl, rfl, rfl, by decide +kernel, rfl, by decide +kernel, by decide +kernel⟩
def sp_Lreach (K : PySem.W.Frag) : Sp := fun vs H Q _ => ∃ (a st : Addr) (n : Nat) (l : List (Nat × Nat)) (ss : List Nat), vs = [.ref a, .ref st] ∧ H st = some (.dT (pT l)) ∧ n ≤ 1000 ∧ ss.length ≤ 1000 ∧ (∀ q ∈ l, q.1 < n ∧ q.2 < n) ∧ (∀ i ∈ ss, i < n) ∧ (SqL K H a (nVs ss) ∨ H a = some (.dK (kD ss))) ∧ RetR (stepP l) (· ∈ ss) H Q
theorem pT_at {l : List (Nat × Nat)} {i : Nat} {k : List Key} {v : V} (h : (pT l)[i]? = some (k, v)) : ∃ q, l[i]? = some q ∧ k = kP q := by
  unfold pT at h
  rw [List.getElem?_map] at h
  cases e : l[i]? with
  | none =>
    rw [e] at h
    cases h
  | some q =>
    rw [e] at h
    injection h with h
    injection h with h1 h2
    exact ⟨q, rfl, h1.symm⟩
theorem ok_Lreach (T : TX K mg) : Glob P w K mg base 2 "_law_reach" ["_law_starts", "_law_pairs"] (sp_Lreach K) := by
  have SC := sc_Lreach
  refine glob_mk (F_Lreach T) (g_Lreach T) sc_Lreach (fun _ _ _ _ _ _ us hl => match us, hl with | [_, _], _ => rfl) (fun vs H Q E h => ?_) (fun cdv A outer s H vs Q E hr h => ?_)
  · obtain ⟨a, st, n, l, ss, rfl, _⟩ := h
    rfl
  · obtain ⟨a, st, n, l, ss, rfl, hst, hn, hss, hg, hs, ha, k⟩ := h
    have hu := hu_of hr
    refine ⟨_, (pss_cons (ps_set (i := 2) SC.nd rfl (Or.inl rfl) (pg_call (ok_Lmarked T) hr (by decide) rfl (pa_cons (pv 0) pa_nil)))
    (pss_cons (ps_set (i := 3) SC.nd rfl (Or.inl rfl) (pe_callTy (call_list_dK rfl) rfl (b_list T) (by decide +kernel) (pa_cons (pv 2) pa_nil)))
    (pss_cons (ps_while PassesOwn.never (pt_cmpR (op_neD hr.units) (pv 3) (pe_lst pa_nil) (nomark _))
      (pss_cons (ps_set (i := 4) SC.nd rfl (Or.inl rfl) (pe_bm0 PySem.F.plainAttrs_list PySem.F.slot_list_pop PySem.F.type_list_pop mt_pop (pv 3)))
    (pss_one (ps_lock (ps_for PassesOwn.never rfl (pi_keys (pv 1)) (ktup (K := K) 2 rfl (pgs_cons (pg_name (i := 5) SC.nd rfl (Or.inl rfl)) (pgs_cons (pg_name (i := 6) SC.nd rfl (Or.inl rfl)) pgs_nil)))
      (pss_one (ps_if (PW.pt (pw_and (pt_cmpR op_eq (pv 5) (pv 4) (nomark _)) (pw_and1 (pt_cmp (pc_dnotin hu (pv 6) (pv 2)) rfl))))
      (pss_cons (ps_dput hu (pv 2) (pv 6) pe_bl rfl)
    (pss_one (ps_expr (pe_bm PySem.F.plainAttrs_list PySem.F.slot_list_append PySem.F.type_list_append mt_append (pv 3) (pa_cons (pv 6) pa_nil)))))
      pss_nil)))))))
    (pss_one (ps_ret (pv 2)))))), ?_⟩
    have first : ∀ D : Ends, (∀ F H1, H F = none → Ex H H1 → H1 F = some (.dK (kD (addAll [] ss))) → D.nx [some (.ref a), some (.ref st), some (.ref F), none, none, none, none] H1) → tAsg (tCall (sp_Lmarked K) [] E0 (tCons (tVar 0) tNil)) (gName 2) D [some (.ref a), some (.ref st), none, none, none, none, none] H := fun D kk => by
      have ev : EvA (tCons (tVar 0) tNil) [some (.ref a), some (.ref st), none, none, none, none, none] H [.ref a] := ea_cons (ev_var rfl) ea_nil
      refine u_asg (ev H (Ex.refl H) _ fun H1 e1 => ?_)
      refine ⟨a, rfl, ?_⟩
      rcases ha with ha | ha
      · exact .inl ⟨ss, ex_l e1 ha, hss, fun F H2 nF e2 hF => kk F H2 (fresh_back e1 nF) (e1.trans e2) hF⟩
      · exact .inr (.inl ⟨ss, e1 _ _ ha, hss, fun F H2 nF e2 hF => kk F H2 (fresh_back e1 nF) (e1.trans e2) hF⟩)
    refine first _ fun F H1 nF e1 hF => ?_
    refine ⟨_, rfl, F, _, rfl, hF, fun Wt hW => ?_⟩
    rw [kD_keys]
    have nW : H Wt = none := fresh_back e1 hW
    have nFW : F ≠ Wt := ne_of_none hF hW
    have nSF : st ≠ F := ne_of_none hst nF
    have nSW : st ≠ Wt := ne_of_none hst nW
    have hgl : ∀ {i : Nat} {q : Nat × Nat}, l[i]? = some q → q.1 < n ∧ q.2 < n := fun h => hg _ (List.mem_of_getElem? h)
    -- the loop
    refine ⟨fun m σ H' => ∃ (ks wt : List Nat) (v1 v2 v3 : Option V), σ = [some (.ref a), some (.ref st), some (.ref F), some (.ref Wt), v1, v2, v3] ∧ Ex H H' ∧ H' F = some (.dK (kD ks)) ∧ H' Wt = some (.lst (nVs wt)) ∧ wt.length ≤ n ∧ wt.Nodup ∧ RInv (stepP l) ss n ks wt ∧ m = 2 * (n - ks.length) + wt.length,
      ⟨_, addAll [] ss, addAll [] ss, _, _, _, rfl, fun b o hb => ?_, ?_, upd_same, ?_, nd_addAll List.nodup_nil, ⟨nd_addAll List.nodup_nil, fun _ m => m, fun x m => mem_addAll.mpr (.inr m), fun x m => ?_, fun x m => ?_, fun x m => .inl m⟩, rfl⟩, ?_⟩
    · rw [upd_ne (ne_of_none hb nW)]
      exact e1 _ _ hb
    · rw [upd_ne nFW]
      exact hF
    · refine nd_len (nd_addAll List.nodup_nil) fun i m => ?_
      rcases mem_addAll.mp m with q | q
      · cases q
      · exact hs i q
    · rcases mem_addAll.mp m with q | q
      · cases q
      · exact .start q
    · rcases mem_addAll.mp m with q | q
      · cases q
      · exact hs x q
    rintro m σ H2 ⟨ks, wt, v1, v2, v3, rfl, e2, hF2, hW2, hwl, hwn, I, rfl⟩
    refine et_test (ev_neNil (K := K) (ev_var rfl) (sq_of hW2) fun x hx => ?_) H2 (Ex.refl H2) _ fun H3 e3 => ?_
    · obtain ⟨i, _, rfl⟩ := List.mem_map.mp hx
      exact ⟨_, .int _⟩
    have hF3 := e3 _ _ hF2
    have hW3 := e3 _ _ hW2
    have e23 := e2.trans e3
    rcases List.eq_nil_or_concat wt with rfl | ⟨wt', x, rfl⟩
    · refine iteF ?_
      exact ⟨_, rfl, k ks F H3 I.nd (fun x => I.done x) nF e23 hF3⟩
    · rw [List.concat_eq_append] at *
      have eb : (!(nVs (wt' ++ [x])).isEmpty) = true := by
        rw [nVs_app]
        cases wt' <;> rfl
      rw [eb]
      refine iteT ?_
      have hxk : x ∈ ks := I.wk x (List.mem_append_right _ (List.mem_singleton.mpr rfl))
      have hxn : x < n := I.lt x hxk
      have hwl' : wt'.length + 1 ≤ n := by
        rw [List.length_append] at hwl
        exact hwl
      -- behind the inner walk
      refine ⟨fun σ' H' => ∃ (ks2 wt2 : List Nat) (v1 v2 v3 : Option V), σ' = [some (.ref a), some (.ref st), some (.ref F), some (.ref Wt), v1, v2, v3] ∧ Ex H H' ∧ H' F = some (.dK (kD ks2)) ∧ H' Wt = some (.lst (nVs wt2)) ∧ wt2.length ≤ n ∧ wt2.Nodup ∧ RInv (stepP l) ss n ks2 wt2 ∧ 2 * (n - ks2.length) + wt2.length < 2 * (n - ks.length) + (wt' ++ [x]).length,
        fun σ' H' q => ?_, ?_⟩
      · obtain ⟨ks2, wt2, v1, v2, v3, rfl, q1, q2, q3, q4, q5, q6, q7⟩ := q
        exact ⟨_, q7, ks2, wt2, v1, v2, v3, rfl, q1, q2, q3, q4, q5, q6, rfl⟩
      -- here = rest.pop()
      refine ⟨_, rfl, .inl ⟨rfl, _, sq_of hW3⟩, Wt, _, nV x, rfl, rfl, hW3, ?_, ?_⟩
      · rw [nVs_app, List.length_append]
        show (nVs wt' ++ [nV x])[(nVs wt').length + 1 - 1]? = some (nV x)
        rw [Nat.add_sub_cancel, List.getElem?_append_right (Nat.le_refl _), Nat.sub_self]
        rfl
      have hdl : (nVs (wt' ++ [x])).dropLast = nVs wt' := by
        rw [nVs_app]
        exact List.dropLast_concat
      rw [hdl]
      have hst4 : upd H3 Wt (.lst (nVs wt')) st = some (.dT (pT l)) := by
        rw [upd_ne nSW]
        exact e23 _ _ hst
      refine ⟨st, _, hst4, trivial, fun od => ?_⟩
      refine ⟨_, rfl, st, od, rfl, .inr ⟨pT l, upd_same, ?_⟩⟩
      -- for one, other in pairs
      refine for_it (walk_keysT (d := st) (o := od) (kvs := pT l)) (fun i σ' H' => ∃ (ks2 wt2 : List Nat) (v2 v3 : Option V), σ' = [some (.ref a), some (.ref st), some (.ref F), some (.ref Wt), some (nV x), v2, v3] ∧ H' st = some (.frz od (.dT (pT l))) ∧ (∀ b o, b ≠ st → H b = some o → H' b = some o) ∧
        H' F = some (.dK (kD ks2)) ∧ H' Wt = some (.lst (nVs wt2)) ∧ wt2.Nodup ∧ RIn (stepP l) ss n x (stepP (l.take i) x).length wt' ks2 wt2 ∧ ks2.length + wt'.length = ks.length + wt2.length ∧ ks.length ≤ ks2.length) ?_ ?_ ?_ ?_
      · refine ⟨ks, wt', _, _, rfl, upd_same, fun b o hb1 hb => ?_, ?_, ?_, ?_, I.pop, rfl, Nat.le_refl _⟩
        · rw [upd_ne hb1, upd_ne (ne_of_none hb nW)]
          exact e23 _ _ hb
        · rw [upd_ne nSF.symm, upd_ne nFW]
          exact hF3
        · rw [upd_ne nSW.symm]
          exact upd_same
        · exact (List.nodup_append.mp hwn).1
      · rintro i σ' H' _ ⟨ks2, wt2, v2, v3, rfl, q, _⟩
        exact q
      · rintro i y σ' H' H'' hi ⟨ks2, wt2, v2, v3, rfl, q1, q2, q3, q4, q5, q6, q7, q8⟩ ⟨rfl, kk, vv, T9, hk, rfl, hT⟩
        obtain ⟨⟨z, j⟩, hj, rfl⟩ := pT_at hk
        have hT : H'' T9 = some (.tup [nV z, nV j]) := hT
        have hjn := (hgl hj).2
        refine ⟨T9, _, rfl, st_of hT, rfl, _, _, rfl, _, _, rfl, rfl, ?_⟩
        show tIfS _ _ _ _ [some (.ref a), some (.ref st), some (.ref F), some (.ref Wt), some (nV x), some (nV z), some (nV j)] H''
        have adv : ∀ {H9 : Hp}, z ≠ x ∨ (z = x ∧ j ∈ ks2) → Ex H'' H9 → ∃ (ks2 wt2 : List Nat) (v2' v3' : Option V), ([some (.ref a), some (.ref st), some (.ref F), some (.ref Wt), some (nV x), some (nV z), some (nV j)] : L2.St) = [some (.ref a), some (.ref st), some (.ref F), some (.ref Wt), some (nV x), v2', v3'] ∧ H9 st = some (.frz od (.dT (pT l))) ∧ (∀ b o, b ≠ st → H b = some o → H9 b = some o) ∧
            H9 F = some (.dK (kD ks2)) ∧ H9 Wt = some (.lst (nVs wt2)) ∧ wt2.Nodup ∧ RIn (stepP l) ss n x (stepP (l.take (i + 1)) x).length wt' ks2 wt2 ∧ ks2.length + wt'.length = ks.length + wt2.length ∧ ks.length ≤ ks2.length := fun {H9} hc e9 => by
          refine ⟨ks2, wt2, _, _, rfl, e9 _ _ q1, fun b o h1 h2 => e9 _ _ (q2 b o h1 h2), e9 _ _ q3, e9 _ _ q4, q5, ?_, q7, q8⟩
          rcases hc with hc | ⟨rfl, hc⟩
          · rw [stepP_no hj hc]
            exact q6
          · obtain ⟨s1, s2⟩ := stepP_yes hj
            rw [s2]
            exact q6.old s1 hc
        refine s_when (b := decide (z = x) && !decide (j ∈ ks2)) (et_and (et_test (ev_op (ev_var rfl) (ev_var rfl) rv_eqN)) (fun _ => et_B (ev_kNotIn (ev_var rfl) (ev_var rfl) q3))) (fun hb H9 e9 => ?_) (fun hb H9 e9 => adv ?_ e9)
        · rw [Bool.and_eq_true, decide_eq_true_eq, Bool.not_eq_true', decide_eq_false_iff_not] at hb
          obtain ⟨rfl, hm⟩ := hb
          obtain ⟨s1, s2⟩ := stepP_yes hj
          have hjw : ¬ j ∈ wt2 := fun z => hm (q6.wk j z)
          have hkl : ks2.length ≤ n := nd_len q6.nd q6.lt
          have hwl2 : wt2.length ≤ n := nd_len q5 fun y m => q6.lt y (q6.wk y m)
          refine u_seq (q_put (k := Sum.inl ((j : Nat) : Int)) ev_c (ev_var rfl) (e9 _ _ q3) (ev_var rfl) (by rw [kD_len]; omega) fun H10 e10 => ?_)
          have q4' : upd H10 F (.dK (putK (kD ks2) (Sum.inl (j : Int)) (.bl true))) Wt = some (.lst (nVs wt2)) := by
            rw [upd_ne nFW.symm]
            exact e10 _ _ (e9 _ _ q4)
          refine s_app q4' (ev_var rfl) (ev_var rfl) (by rw [nVs_len]; omega) fun H11 e11 => ?_
          refine ⟨ks2 ++ [j], wt2 ++ [j], _, _, rfl, ?_, fun b o hb1 hb => ?_, ?_, ?_, nd_snoc q5 hjw, ?_, ?_, ?_⟩
          · rw [upd_ne nSW]
            refine e11 _ _ ?_
            rw [upd_ne nSF]
            exact e10 _ _ (e9 _ _ q1)
          · rw [upd_ne (ne_of_none hb nW)]
            refine e11 _ _ ?_
            rw [upd_ne (ne_of_none hb nF)]
            exact e10 _ _ (e9 _ _ (q2 b o hb1 hb))
          · rw [upd_ne nFW]
            refine e11 _ _ ?_
            rw [upd_same, kD_put]
            unfold addK
            rw [if_neg hm]
          · rw [upd_same, nVs_app]
          · rw [s2]
            exact q6.new s1 hm hjn
          · rw [List.length_append, List.length_append, List.length_singleton]
            omega
          · rw [List.length_append]
            omega
        · by_cases hz : z = x
          · rw [decide_eq_true hz, Bool.true_and, Bool.not_eq_false', decide_eq_true_eq] at hb
            exact .inr ⟨hz, hb⟩
          · exact .inl hz
      · rintro σ' H' ⟨ks2, wt2, v2, v3, rfl, q1, q2, q3, q4, q5, q6, q7, q8⟩
        have I2 := q6.out (by rw [pT_len, List.take_length]; exact Nat.le_refl _)
        have hkl : ks2.length ≤ n := nd_len q6.nd q6.lt
        have hkl0 : ks.length ≤ n := nd_len I.nd I.lt
        have hwl2 : wt2.length ≤ n := nd_len q5 fun y m => q6.lt y (q6.wk y m)
        refine ⟨q1, ks2, wt2, _, _, _, rfl, fun b o hb => ?_, ?_, ?_, hwl2, q5, I2, ?_⟩
        · by_cases hbd : b = st
          · rw [hbd, upd_same]
            rw [hbd, hst] at hb
            exact hb
          · rw [upd_ne hbd]
            exact q2 b o hbd hb
        · rw [upd_ne nSF.symm]
          exact q3
        · rw [upd_ne nSW.symm]
          exact q4
        · rw [List.length_append, List.length_singleton]
          omega
end
end HD
set_option Elab.async false
set_option linter.all false
set_option maxRecDepth 100000
set_option maxHeartbeats 4000000
/-! The law's settle, create. -/
namespace HD
open PySem PySem.Spec PyProof.Rows L2 Evl
theorem ifc {c c' : Prop} [Decidable c] [Decidable c'] {α : Type} {a b : α} (h : c ↔ c') : (if c then a else b) = if c' then a else b := by
  by_cases q : c
  · rw [if_pos q, if_pos (h.mp q)]
  · rw [if_neg q, if_neg fun z => q (h.mpr z)]
def WS.fresh (W : WS) (i : Nat) : Prop := i < W.n ∧ W.gone i = false ∧ W.death i = none ∧ ¬ Reach (stepP W.prs) (· ∈ W.roots) i
structure WSettled (W : WS) (d : Nat → Option Nat) : Prop where
  new : ∀ i, W.fresh i → d i = some W.time
  old : ∀ i, ¬ W.fresh i → d i = W.death i
section
variable {K : PySem.W.Frag} {H : Hp} {B : WRep} {W : WS}
/-- a call of reach over the world's pairs -/
theorem u_reach {σ : L2.St} {ts : TA} {E : XK} {Q : VK} (h : WorldAt H B W) {a : Addr} {ss : List Nat} (e : EvA ts σ H [.ref a, .ref (B.at_ .pairs)]) (ha : SqL K H a (nVs ss) ∨ H a = some (.dK (kD ss))) (hz : ss.length ≤ 1000) (hs : ∀ i ∈ ss, i < W.n)
    (k : ∀ ks p H1, ks.Nodup → (∀ x, x ∈ ks ↔ Reach (stepP W.prs) (· ∈ ss) x) → H p = none → Ex H H1 → H1 p = some (.dK (kD ks)) → Q (.ref p) H1) : tCall (sp_Lreach K) [] E ts σ H Q :=
  e H (Ex.refl H) _ fun H1 e1 => ⟨a, B.at_ .pairs, W.n, W.prs, ss, rfl, e1 _ _ (h.ob .pairs), by have := h.wf.n60; omega, hz, h.wf.pl, hs, ha.imp (ex_l e1) (e1 _ _), fun ks p H2 nd hm np e2 hp => k ks p H2 nd hm (fresh_back e1 np) (e1.trans e2) hp⟩
end
section
variable {P : Program} {w : World} {K : PySem.W.Frag} {mg : Str → Option Value} {base : Heap}
theorem sc_Lsettle : FnScope ["_law_world_here", "_law_alive", "_law_k"] ["_law_world_here"] (defScope s_Lsettle) := ⟨rfl, rfl, rfl, by decide +kernel, rfl, by decide +kernel, by decide +kernel⟩
def sp_Lsettle : Sp := fun vs H Q _ => ∃ B W, vs = [.ref (B.at_ .dict)] ∧ WorldAt H B W ∧ ∀ H' d, WStep H H' B B W { W with death := d } → WSettled W d → Q .non H'
theorem ok_Lsettle (T : TX K mg) : Glob P w K mg base 3 "_law_settle" ["_law_world_here"] sp_Lsettle := by
  have SC := sc_Lsettle
  refine glob_mk (F_Lsettle T) (g_Lsettle T) sc_Lsettle (fun _ _ _ _ _ _ us hl => match us, hl with | [_], _ => rfl) (fun vs H Q E h => ?_) (fun cdv A outer s H vs Q E hr h => ?_)
  · obtain ⟨B, W, rfl, _⟩ := h
    rfl
  · obtain ⟨B, W, rfl, h, k⟩ := h
    have hu := hu_of hr
    refine ⟨_, (pss_cons (ps_set (i := 1) SC.nd rfl (Or.inl rfl) (pg_call (ok_Lreach T) hr (by decide) rfl (pa_cons (pe_dget hu (pv 0) pe_str (fun _ _ => rfl)) (pa_cons (pe_dget hu (pv 0) pe_str (fun _ _ => rfl)) pa_nil))))
    (pss_one (ps_for PassesOwn.never rfl (pi_list (pg_call (ok_Lkept T) hr (by decide) rfl (pa_cons (pv 0) pa_nil))) (pg_name (i := 2) SC.nd rfl (Or.inl rfl))
      (pss_one (ps_if (PW.pt (pw_and (pt_cmp (pc_dnotin hu (pv 2) (pv 1)) rfl) (pw_and1 (pt_cmp (pc_isN (kix (K := K) (pe_dget hu (pv 0) pe_str (fun _ _ => rfl)) (pv 2)))))))
      (pss_one (ps_asg (pe_dget hu (pv 0) pe_str (fun _ _ => rfl)) (pg_sub (pe_dget hu (pv 0) pe_str (fun _ _ => rfl)) (pv 2) set_list)))
      pss_nil))))), ?_⟩
    have n60 := h.wf.n60
    have rlen : W.roots.length ≤ W.n := nd_len h.wf.rn h.wf.rl
    refine u_seq (u_asg (u_reach h (ea_cons (ew_roots h (ev_var rfl)) (ea_cons (ew_pairs h (ev_var rfl)) ea_nil)) (.inr (h.ob .roots)) (by omega) h.wf.rl fun ks p H1 nd hm np e1 hp => ?_))
    have h1 := h.ex e1
    have nop := h.notOwn np
    have knd : W.kept.Nodup := nd_sel _ _
    refine s_forNL (el_Lkept h1 (ea_cons (ev_var rfl) ea_nil)) (fun l j σ H' => ∃ x, σ = [some (.ref (B.at_ .dict)), some (.ref p), x] ∧ ¬ WOwn B l ∧ H' l = some (.lst (nVs W.kept)) ∧ H' p = some (.dK (kD ks)) ∧ WStep H H' B B W { W with death := fun i => if i ∈ W.kept.take j ∧ ¬ i ∈ ks ∧ W.death i = none then some W.time else W.death i })
      (fun l H2 nl e2 hl => ⟨none, rfl, h1.notOwn nl, hl, e2 _ _ hp, ?_⟩) (fun l j σ' H' _ q => let ⟨_, _, _, z, _⟩ := q; sq_of z) (fun l j x σ' H' hx q => ?_) (fun l σ' H' q => ?_)
    · have e : ({ W with death := fun i => if i ∈ W.kept.take 0 ∧ ¬ i ∈ ks ∧ W.death i = none then some W.time else W.death i } : WS) = W := by
        have : (fun i => if i ∈ W.kept.take 0 ∧ ¬ i ∈ ks ∧ W.death i = none then some W.time else W.death i) = W.death := by
          funext i
          rw [List.take_zero, if_neg fun z => by cases z.1]
        rw [this]
      rw [e]
      exact WStep.ex h (e1.trans e2)
    · obtain ⟨x0, rfl, nl, hl, hp', st⟩ := q
      obtain ⟨hj, rfl⟩ := nVs_at hx
      have hjl : j < W.kept.length := by
        have := (List.getElem?_eq_some_iff.mp hx).1
        rw [nVs_len] at this
        exact this
      have hi := (WS.mem_kept.mp hj).1
      have tk := take_snoc (getD_at hjl)
      have ntk := take_not knd hjl
      generalize W.kept.getD j 0 = i at hj hi tk ntk
      have h2 := st.ha
      have hdi : (if i ∈ W.kept.take j ∧ ¬ i ∈ ks ∧ W.death i = none then some W.time else W.death i) = W.death i := if_neg fun z => ntk z.1
      have ed := ewi_deaths (K := K) h2 (σ := [some (.ref (B.at_ .dict)), some (.ref p), some (nV i)]) (ta := tVar 0) (tb := tVar 2) (ev_var rfl) hi (ev_var rfl)
      have ed : Ev (tOp (rIxL K) (tDGet (tVar 0) (tC (.str "deaths"))) (tVar 2)) [some (.ref (B.at_ .dict)), some (.ref p), some (nV i)] H' (oV (W.death i)) := by
        rw [← hdi]
        exact ed
      refine s_when (b := !decide (i ∈ ks) && (W.death i).isNone) (et_and (et_B (ev_kNotIn (ev_var rfl) (ev_var rfl) hp')) (fun _ => et_B (ev_is (ev_isN ed) (congrArg V.bl oV_dec)))) (fun hb H3 e3 => ?_) (fun hb H3 e3 => ⟨_, rfl, nl, e3 _ _ hl, e3 _ _ hp', ?_⟩)
      · rw [Bool.and_eq_true, Bool.not_eq_true', decide_eq_false_iff_not, Option.isNone_iff_eq_none] at hb
        have h3 := h2.ex e3
        refine s_setL (h3.ob .deaths) (ew_time h3 (ev_var rfl)) (ew_deaths h3 (ev_var rfl)) (ev_var rfl) (by rw [vl_len]; exact hi) fun H4 e4 => ⟨_, rfl, nl, ?_, ?_, ?_⟩
        · rw [upd_ne (fun z => nl ⟨.deaths, z.symm⟩)]
          exact e4 _ _ (e3 _ _ hl)
        · rw [upd_ne (fun z => nop ⟨.deaths, z.symm⟩)]
          exact e4 _ _ (e3 _ _ hp')
        · have st4 := ((st.to e3).to e4).trans ((h3.ex e4).putDeath (i := i) (x := some W.time))
          have e : fset (fun i => if i ∈ W.kept.take j ∧ ¬ i ∈ ks ∧ W.death i = none then some W.time else W.death i) i (some W.time) = fun a => if a ∈ W.kept.take (j + 1) ∧ ¬ a ∈ ks ∧ W.death a = none then some W.time else W.death a := by
            funext a
            unfold fset
            rw [tk]
            by_cases z : a = i
            · rw [if_pos z, if_pos ⟨List.mem_append.mpr (.inr (List.mem_singleton.mpr z)), z ▸ hb.1, z ▸ hb.2⟩]
            · rw [if_neg z]
              show (if a ∈ W.kept.take j ∧ ¬ a ∈ ks ∧ W.death a = none then some W.time else W.death a) = _
              refine ifc (and_congr_left fun _ => ?_)
              rw [List.mem_append, List.mem_singleton]
              exact ⟨.inl, fun q => q.elim id fun q => absurd q z⟩
          rw [← e]
          exact st4
      · have e : (fun i => if i ∈ W.kept.take j ∧ ¬ i ∈ ks ∧ W.death i = none then some W.time else W.death i) = fun a => if a ∈ W.kept.take (j + 1) ∧ ¬ a ∈ ks ∧ W.death a = none then some W.time else W.death a := by
          funext a
          rw [tk]
          refine ifc (and_congr_left fun q => ?_)
          rw [List.mem_append, List.mem_singleton]
          refine ⟨.inl, fun y => y.elim id fun y => ?_⟩
          subst y
          rw [decide_eq_false q.1, q.2] at hb
          exact absurd hb (by decide)
        rw [← e]
        exact st.to e3
    · obtain ⟨x0, rfl, nl, hl, hp', st⟩ := q
      rw [nVs_len, List.take_length] at st
      refine k H' _ st ⟨fun i hi => ?_, fun i hi => ?_⟩
      · obtain ⟨a, b, c, d⟩ := hi
        exact if_pos ⟨WS.mem_kept.mpr ⟨a, b⟩, fun z => d ((hm i).mp z), c⟩
      · refine if_neg fun z => hi ?_
        obtain ⟨a, b⟩ := WS.mem_kept.mp z.1
        exact ⟨a, b, z.2.2, fun y => z.2.1 ((hm i).mpr y)⟩
end
end HD
set_option Elab.async false
set_option linter.all false
set_option maxRecDepth 100000
set_option maxHeartbeats 4000000
/-! The law's run. -/
namespace HD
open PySem PySem.Spec PyProof.Rows L2 Evl
def WS.held (W : WS) (l i : Nat) : Prop := Reach (stepP W.prs) (fun j => j ∈ W.roots ∨ (j < W.n ∧ W.gone j = false ∧ l < W.gen j)) i
def WS.ripe (W : WS) (l i : Nat) : Prop := i < W.n ∧ W.gone i = false ∧ W.gen i ≤ l ∧ ¬ W.held l i
def WS.rnn (W : WS) (l i : Nat) : Prop := W.ripe l i ∧ W.will i = true
def WS.saved (W : WS) (l i : Nat) : Prop := Reach (stepP W.prs) (W.rnn l) i
def WS.lost (W : WS) (l i : Nat) : Prop := W.ripe l i ∧ ¬ W.saved l i
structure WRan (W : WS) (l : Nat) (g : Nat → Nat) (go wi : Nat → Bool) (pr : List (Nat × Nat)) : Prop where
  will : ∀ i, wi i = true ↔ W.will i = true ∧ ¬ W.ripe l i
  gen1 : ∀ i, i < W.n → W.gone i = false → W.gen i ≤ l → g i = min (l + 1) (lastOf W.ps)
  gen0 : ∀ i, ¬ (i < W.n ∧ W.gone i = false ∧ W.gen i ≤ l) → g i = W.gen i
  gone : ∀ i, go i = true ↔ W.gone i = true ∨ W.lost l i
  prs : ∀ q, q ∈ pr ↔ q ∈ W.prs ∧ ¬ W.lost l q.1 ∧ ¬ W.lost l q.2
section
variable {K : PySem.W.Frag} {H : Hp} {B : WRep} {W : WS}
theorem u_dput {σ : L2.St} {td ty tv : TE} {D : Ends} (h : tv σ H fun v H1 => td σ H1 fun x H2 => ty σ H2 fun y H3 => ∃ a H4, x = .ref a ∧ DPut H3 a y v H4 ∧ D.nx σ H4) : sDPut td ty tv D σ H := h
theorem inV2 {k a b : Nat} : inV (nV k) [nV a, nV b] = (decide (k = a) || decide (k = b)) := by
  unfold inV
  rw [List.any_cons, List.any_cons, List.any_nil, Bool.or_false]
  have e : ∀ x y : Nat, eqV (nV x) (nV y) = decide (y = x) := fun x y => by
    have : eqV (nV x) (nV y) = decide (((x : Nat) : Int) = ((y : Nat) : Int)) := by
      first | rfl | (unfold eqV; rfl)
    rw [this, decide_eq_decide]
    omega
  rw [e, e]
/-- [pair for pair in world["pairs"] if k not in pair], the dict locked meanwhile -/
theorem u_left {σ : L2.St} {D : Ends} {k : Nat} (h : WorldAt H B W) (s0 : σ[0]? = some (some (.ref (B.at_ .dict)))) (s10 : ∀ x, ((wipe σ [12]).set 12 (some x))[10]? = some (some (nV k))) (s12 : ∀ x, ((wipe σ [12]).set 12 (some x))[12]? = some (some x)) (hw : ∀ x, wipe ((wipe σ [12]).set 12 (some x)) [12] = wipe σ [12])
    (kk : ∀ p xs H1, H p = none → Ex H H1 → H1 p = some (.lst xs) → PrsAt H1 xs (W.prs.filter fun q => !(decide (k = q.1) || decide (k = q.2))) → D.nx (σ.set 11 (some (.ref p))) H1) :
    tLock (tAsg (tLc (iKeys (tDGet (tVar 0) (tC (.str "pairs")))) (gName 12) (tTest (tOp (rIn K true) (tVar 10) (tVar 12))) (tVar 12) [12]) (gName 11)) D σ H := by
  have n60 := h.wf.n60
  have pl := ndP_len h.wf.pn h.wf.pl
  have nn : W.n * W.n ≤ 60 * 60 := Nat.mul_le_mul n60 n60
  refine ⟨B.at_ .pairs, _, h.ob .pairs, trivial, fun od => ?_⟩
  have dne : B.at_ .dict ≠ B.at_ .pairs := fun z => nomatch h.inj _ _ z
  have hdict : upd H (B.at_ .pairs) (.frz od (.dT (pT W.prs))) (B.at_ .dict) = some (.dK (wD B W.time)) := by
    rw [upd_ne dne]
    exact h.ob .dict
  refine u_asg ?_
  have ev : Ev (tDGet (tVar 0) (tC (.str "pairs"))) σ (upd H (B.at_ .pairs) (.frz od (.dT (pT W.prs)))) (.ref (B.at_ .pairs)) :=
    ev_dget (ev_var s0) (ev_c (v := .str "pairs")) (by rw [← wv_pairs B W.time]; exact DGet.k (k := Sum.inr "pairs") hdict)
  refine ev _ (Ex.refl _) _ fun H1 e1 => ?_
  have hl1 := e1 _ _ (upd_same (H := H) (a := B.at_ .pairs) (o := HO.frz od (.dT (pT W.prs))))
  refine ⟨B.at_ .pairs, od, rfl, .inr ⟨pT W.prs, hl1, fun Dl hD => ?_⟩⟩
  generalize hf : (fun q : Nat × Nat => !(decide (k = q.1) || decide (k = q.2))) = f at kk
  refine lc_it (walk_keysT (d := B.at_ .pairs) (o := od) (kvs := pT W.prs)) (fun i H' => Ex H1 H' ∧ ∃ ys, H' Dl = some (.lst ys) ∧ PrsAt H' ys ((W.prs.take i).filter f)) ⟨Ex.new hD, [], upd_same, rfl, fun i q hq => by simp at hq⟩ (fun i H' _ p => p.1 _ _ hl1) (fun i x H2 H3 hi p y => ?_) (fun H' p => ?_)
  · obtain ⟨rfl, kk2, vv, T9, hk, rfl, hT⟩ := y
    obtain ⟨e2, ys, hys, hpa⟩ := p
    obtain ⟨q, hq, rfl⟩ := pT_at hk
    have hT : H3 T9 = some (.tup [nV q.1, nV q.2]) := hT
    refine ⟨hw _, ?_⟩
    have fe : f q = !(decide (k = q.1) || decide (k = q.2)) := by rw [← hf]
    have tst : EvT (tTest (tOp (rIn K true) (tVar 10) (tVar 12))) ((wipe σ [12]).set 12 (some (.ref T9))) H3 (f q) := by
      rw [fe, ← inV2]
      exact et_test (ev_op (ev_var (s10 _)) (ev_var (s12 _)) (rv_niT (st_of hT) rfl rfl))
    refine tst H3 (Ex.refl H3) _ fun H4 e4 => ?_
    rw [take_snoc hq, List.filter_append]
    cases hfq : f q with
    | true =>
      refine iteT ?_
      refine ev_var (s12 _) H4 (Ex.refl H4) _ fun H5 e5 => ?_
      have hys5 := e5 _ _ (e4 _ _ hys)
      have nTD : T9 ≠ Dl := fun z => by
        rw [z, hys] at hT
        cases hT
      have tp : ∀ b o, H3 b = some (.tup o) → upd H5 Dl (.lst (ys ++ [.ref T9])) b = some (.tup o) := fun b o z => by
        rw [upd_ne (fun y => by rw [y, hys] at z; cases z)]
        exact e5 _ _ (e4 _ _ z)
      have yl : ys.length ≤ W.prs.length := by
        rw [hpa.1]
        exact Nat.le_trans (List.length_filter_le _ _) (List.length_take_le' _ _)
      refine ⟨ys, hys5, sz_lt (by omega), Ex.mut ((e2.trans e4).trans e5) hD, ys ++ [.ref T9], upd_same, ?_, fun j r hr => ?_⟩
      · rw [List.length_append, List.length_append, hpa.1, List.filter_cons, if_pos hfq]
        rfl
      · rw [List.filter_cons, if_pos hfq, List.filter_nil] at hr
        by_cases hj : j < ((W.prs.take i).filter f).length
        · rw [List.getElem?_append_left hj] at hr
          obtain ⟨T, h1, h2⟩ := hpa.2 j r hr
          exact ⟨T, by rw [List.getElem?_append_left (by rw [hpa.1]; exact hj)]; exact h1, tp _ _ h2⟩
        · rw [List.getElem?_append_right (by omega)] at hr
          have ej : j - ((W.prs.take i).filter f).length = 0 := by
            have := (List.getElem?_eq_some_iff.mp hr).1
            rw [List.length_singleton] at this
            omega
          rw [ej] at hr
          cases hr
          refine ⟨T9, ?_, tp _ _ hT⟩
          rw [List.getElem?_append_right (by rw [hpa.1]; omega), hpa.1, ej]
          rfl
    | false =>
      refine iteF ?_
      rw [List.filter_cons, if_neg (by rw [hfq]; decide), List.filter_nil, List.append_nil]
      exact ⟨e2.trans e4, ys, e4 _ _ hys, hpa.ex e4⟩
  · obtain ⟨e2, ys, hys, hpa⟩ := p
    rw [pT_len, List.take_length] at hpa
    have nD : Dl ≠ B.at_ .pairs := fun z => by
      rw [z, hl1] at hD
      cases hD
    have tp : ∀ b o, H' b = some (.tup o) → upd H' (B.at_ .pairs) (.dT (pT W.prs)) b = some (.tup o) := fun b o z => by
      rw [upd_ne (fun y => by rw [y, e2 _ _ hl1] at z; cases z)]
      exact z
    refine ⟨e2 _ _ hl1, kk Dl ys _ ?_ (fun b o hb => ?_) (by rw [upd_ne nD]; exact hys) ⟨hpa.1, fun i q hq => let ⟨T, a, b⟩ := hpa.2 i q hq; ⟨T, a, tp _ _ b⟩⟩⟩
    · have := fresh_back e1 hD
      rw [upd_ne nD] at this
      exact this
    · by_cases hbp : b = B.at_ .pairs
      · rw [hbp, upd_same]
        rw [hbp, h.ob .pairs] at hb
        exact hb
      · rw [upd_ne hbp]
        exact e2 _ _ (e1 _ _ (by rw [upd_ne hbp]; exact hb))
theorem q_left {σ : L2.St} {D : Ends} {tz : TS} {k : Nat} (h : WorldAt H B W) (s0 : σ[0]? = some (some (.ref (B.at_ .dict)))) (s10 : ∀ x, ((wipe σ [12]).set 12 (some x))[10]? = some (some (nV k))) (s12 : ∀ x, ((wipe σ [12]).set 12 (some x))[12]? = some (some x)) (hw : ∀ x, wipe ((wipe σ [12]).set 12 (some x)) [12] = wipe σ [12])
    (kk : ∀ p xs H1, H p = none → Ex H H1 → H1 p = some (.lst xs) → PrsAt H1 xs (W.prs.filter fun q => !(decide (k = q.1) || decide (k = q.2))) → tz D (σ.set 11 (some (.ref p))) H1) :
    tSeq (tLock (tAsg (tLc (iKeys (tDGet (tVar 0) (tC (.str "pairs")))) (gName 12) (tTest (tOp (rIn K true) (tVar 10) (tVar 12))) (tVar 12) [12]) (gName 11))) tz D σ H :=
  u_seq (u_left (D := { D with nx := tz D }) h s0 s10 s12 hw kk)
end
section
variable {P : Program} {w : World} {K : PySem.W.Frag} {mg : Str → Option Value} {base : Heap}
theorem sc_Lrun : FnScope ["_law_world_here", "_law_level_here", "_law_kind", "_law_gens", "_law_kept_here", "_law_outside", "_law_held", "_law_ripe", "_law_running", "_law_saved", "_law_k", "_law_left", "_law_pair"] ["_law_world_here", "_law_level_here", "_law_kind"] (defScope s_Lrun) := ⟨rfl, rfl, rfl, by decide +kernel, rfl, by decide +kernel, by decide +kernel⟩
def sp_Lrun : Sp := fun vs H Q _ => ∃ B W l v, vs = [.ref (B.at_ .dict), nV l, v] ∧ WorldAt H B W ∧ ∀ H' B' g go wi pr, WStep H H' B B' W { W with gen := g, gone := go, will := wi, prs := pr } → WRan W l g go wi pr → Q .non H'
theorem ok_Lrun (T : TX K mg) : Glob P w K mg base 3 "_law_run" ["_law_world_here", "_law_level_here", "_law_kind"] sp_Lrun := by
  have SC := sc_Lrun
  refine glob_mk (F_Lrun T) (g_Lrun T) sc_Lrun (fun _ _ _ _ _ _ us hl => match us, hl with | [_, _, _], _ => rfl) (fun vs H Q E h => ?_) (fun cdv A outer s H vs Q E hr h => ?_)
  · obtain ⟨B, W, l, v, rfl, _⟩ := h
    rfl
  · obtain ⟨B, W, lv, v, rfl, h, k⟩ := h
    have hu := hu_of hr
    refine ⟨_, (pss_cons (ps_set (i := 3) SC.nd rfl (Or.inr rfl) (pe_dget hu (pv 0) pe_str (fun _ _ => rfl)))
    (pss_cons (ps_set (i := 4) SC.nd rfl (Or.inl rfl) (pg_call (ok_Lkept T) hr (by decide) rfl (pa_cons (pv 0) pa_nil)))
    (pss_cons (ps_set (i := 5) SC.nd rfl (Or.inl rfl) (pe_op op_cat (pe_callTy (call_list_dK rfl) rfl (b_list T) (by decide +kernel) (pa_cons (pe_dget hu (pv 0) pe_str (fun _ _ => rfl)) pa_nil)) (pe_lc (own := [("_law_k", 10)]) rfl SC.nd (pi_list (pv 4)) (blkOk_by (own := [("_law_k", 10)]) (N := ["_law_world_here", "_law_level_here", "_law_kind", "_law_gens", "_law_kept_here", "_law_outside", "_law_held", "_law_ripe", "_law_running", "_law_saved", "_law_k", "_law_left", "_law_pair"]) (sc := defScope s_Lrun) (by decide +kernel)) (fun _ _ _ _ _ => (pg_name (i := 10) SC.nd rfl (Or.inl rfl))) (fun _ _ _ _ _ => pts_one (pt_cmpR op_gt (kix (K := K) (pv 3) (pv 10)) (pv 1) (nomark _))) (fun _ _ _ _ _ => (pv 10)))))
    (pss_cons (ps_set (i := 6) SC.nd rfl (Or.inr rfl) (pg_call (ok_Lreach T) hr (by decide) rfl (pa_cons (pv 5) (pa_cons (pe_dget hu (pv 0) pe_str (fun _ _ => rfl)) pa_nil))))
    (pss_cons (ps_setLc (i := 7) (own := [("_law_k", 10)]) rfl SC.nd rfl rfl (sw_true rfl rfl rfl (by decide +kernel)) (pi_list (pv 4)) (blkOk_by (own := [("_law_k", 10)]) (N := ["_law_world_here", "_law_level_here", "_law_kind", "_law_gens", "_law_kept_here", "_law_outside", "_law_held", "_law_ripe", "_law_running", "_law_saved", "_law_k", "_law_left", "_law_pair"]) (sc := defScope s_Lrun) (by decide +kernel)) (fun _ _ _ _ _ => (pg_name (i := 10) SC.nd rfl (Or.inl rfl))) (fun _ _ _ _ _ => pts_one (PW.pt (pw_and (pt_cmpR op_le (kix (K := K) (pv 3) (pv 10)) (pv 1) (nomark _)) (pw_and1 (pt_cmp (pc_dnotin hu (pv 10) (pv 6)) rfl))))) (fun _ _ _ _ _ => (pv 10)))
    (pss_cons (ps_setLc (i := 8) (own := [("_law_k", 10)]) rfl SC.nd rfl rfl (sw_true rfl rfl rfl (by decide +kernel)) (pi_list (pv 7)) (blkOk_by (own := [("_law_k", 10)]) (N := ["_law_world_here", "_law_level_here", "_law_kind", "_law_gens", "_law_kept_here", "_law_outside", "_law_held", "_law_ripe", "_law_running", "_law_saved", "_law_k", "_law_left", "_law_pair"]) (sc := defScope s_Lrun) (by decide +kernel)) (fun _ _ _ _ _ => (pg_name (i := 10) SC.nd rfl (Or.inl rfl))) (fun _ _ _ _ _ => pts_one (pt_val (kix (K := K) (pe_dget hu (pv 0) pe_str (fun _ _ => rfl)) (pv 10)))) (fun _ _ _ _ _ => (pv 10)))
    (pss_cons (ps_set (i := 9) SC.nd rfl (Or.inl rfl) (pg_call (ok_Lreach T) hr (by decide) rfl (pa_cons (pv 8) (pa_cons (pe_dget hu (pv 0) pe_str (fun _ _ => rfl)) pa_nil))))
    (pss_cons (ps_for PassesOwn.never rfl (pi_list (pv 8)) (pg_name (i := 10) SC.nd rfl (Or.inr rfl))
      (pss_one (ps_asg pe_bl (pg_sub (pe_dget hu (pv 0) pe_str (fun _ _ => rfl)) (pv 10) set_list))))
    (pss_cons (ps_for PassesOwn.never rfl (pi_list (pv 4)) (pg_name (i := 10) SC.nd rfl (Or.inr rfl))
      (pss_one (ps_if (pt_cmpR op_le (kix (K := K) (pv 3) (pv 10)) (pv 1) (nomark _))
      (pss_one (ps_asg (pe_callB (call_min2 rfl) rfl (b_min T) (by decide +kernel) (pa_cons (pe_op op_add (pv 1) pe_int) (pa_cons (pe_op op_sub (klen (K := K) rfl (b_len T) (pa_cons (pe_dget hu (pv 0) pe_str (fun _ _ => rfl)) pa_nil)) pe_int) pa_nil))) (pg_sub (pv 3) (pv 10) set_list)))
      pss_nil)))
    (pss_one (ps_for PassesOwn.never rfl (pi_list (pv 7)) (pg_name (i := 10) SC.nd rfl (Or.inr rfl))
      (pss_one (ps_if (pt_cmp (pc_dnotin hu (pv 10) (pv 9)) rfl)
      (pss_cons (ps_asg (pe_tup (pa_cons (pe_dget hu (pv 0) pe_str (fun _ _ => rfl)) (pa_cons (pv 2) pa_nil))) (pg_sub (pe_dget hu (pv 0) pe_str (fun _ _ => rfl)) (pv 10) set_list))
    (pss_cons (ps_lock (ps_setLc (i := 11) (own := [("_law_pair", 12)]) rfl SC.nd rfl rfl (sw_true rfl rfl rfl (by decide +kernel)) (pi_keys (pe_dget hu (pv 0) pe_str (fun _ _ => rfl))) (blkOk_by (own := [("_law_pair", 12)]) (N := ["_law_world_here", "_law_level_here", "_law_kind", "_law_gens", "_law_kept_here", "_law_outside", "_law_held", "_law_ripe", "_law_running", "_law_saved", "_law_k", "_law_left", "_law_pair"]) (sc := defScope s_Lrun) (by decide +kernel)) (fun _ _ _ _ _ => (pg_name (i := 12) SC.nd rfl (Or.inl rfl))) (fun _ _ _ _ _ => pts_one (ktnotin (K := K) (pv 10) (pv 12))) (fun _ _ _ _ _ => (pv 12))))
    (pss_one (ps_dput hu (pv 0) pe_str (pg_call (ok_Lmarked T) hr (by decide) rfl (pa_cons (pv 11) pa_nil)) rfl))))
      pss_nil))))))))))))), ?_⟩
    have n60 := h.wf.n60
    have rlen : W.roots.length ≤ W.n := nd_len h.wf.rn h.wf.rl
    have knd : W.kept.Nodup := nd_sel _ _
    have klen : W.kept.length ≤ W.n := len_sel _ _
    have mk : ∀ {i}, i ∈ W.kept → i < W.n := fun hi => (WS.mem_kept.mp hi).1
    refine q_asg (ew_gens h (ev_var rfl)) fun H1 e1 => ?_
    have h1 := h.ex e1
    refine q_asgL (el_Lkept h1 (ea_cons (ev_var rfl) ea_nil)) fun l1 H2 nl1 e2 hl1 => ?_
    have h2 := h1.ex e2
    -- outside
    refine q_asgL (el_cat (el_keys (ew_roots h2 (ev_var rfl)) (h2.ob .roots)) (el_lcL (fun i => decide (lv < W.gen (W.kept.getD i 0))) (fun i => nV (W.kept.getD i 0)) (ev_var rfl) (sq_of hl1) (by rw [nVs_len]; omega) (fun _ => rfl) (fun i x H3 e hx => ?_) (fun i x H3 e hx _ => ?_)) ?_) fun l2 H3 nl2 e3 hl2 => ?_
    · obtain ⟨hj, rfl⟩ := nVs_at hx
      exact et_test (ev_op (evi_gens (h2.ex e) (ev_var rfl) (mk hj) (ev_var rfl)) (ev_var rfl) rv_gtN)
    · obtain ⟨hj, rfl⟩ := nVs_at hx
      exact ev_var rfl
    · have := given_len (nVs W.kept).length (fun i => decide (lv < W.gen (W.kept.getD i 0))) (fun i => nV (W.kept.getD i 0))
      rw [nVs_len] at this ⊢
      rw [nVs_len]
      omega
    rw [nVs_len, filter_at W.kept (fun j => decide (lv < W.gen j))] at hl2
    have ea : nVs W.roots ++ nVs (W.kept.filter fun j => decide (lv < W.gen j)) = nVs (W.roots ++ W.kept.filter fun j => decide (lv < W.gen j)) := by
      unfold nVs
      rw [List.map_append]
    rw [ea] at hl2
    have flen : (W.kept.filter fun j => decide (lv < W.gen j)).length ≤ W.n := Nat.le_trans (List.length_filter_le _ _) klen
    have h3 := h2.ex e3
    -- held
    refine u_seq (u_asg (u_reach h3 (ea_cons (ev_var rfl) (ea_cons (ew_pairs h3 (ev_var rfl)) ea_nil)) (.inl (sq_of hl2)) (by rw [List.length_append]; omega) (fun i hi => ?_) fun hd p1 H4 nd1 hm1 np1 e4 hp1 => ?_))
    · rcases List.mem_append.mp hi with q | q
      · exact h.wf.rl i q
      · exact mk (List.mem_filter.mp q).1
    have mheld : ∀ i, i ∈ hd ↔ W.held lv i := fun i => by
      rw [hm1]
      refine Reach.congr fun j => ?_
      rw [List.mem_append, List.mem_filter, WS.mem_kept, decide_eq_true_eq, and_assoc]
    have h4 := h3.ex e4
    have hl1 := e4 _ _ (e3 _ _ hl1)
    show tSeq _ _ _ [some (.ref (B.at_ .dict)), some (nV lv), some v, some (.ref (B.at_ .gens)), some (.ref l1), some (.ref l2), some (.ref p1), none, none, none, none, none, none] H4
    -- ripe
    refine q_asgL (el_lcL (fun i => decide (W.gen (W.kept.getD i 0) ≤ lv) && !decide (W.kept.getD i 0 ∈ hd)) (fun i => nV (W.kept.getD i 0)) (ev_var rfl) (sq_of hl1) (by rw [nVs_len]; omega) (fun _ => rfl) (fun i x H5 e hx => ?_) (fun i x H5 e hx _ => ?_)) fun l3 H5 nl3 e5 hl3 => ?_
    · obtain ⟨hj, rfl⟩ := nVs_at hx
      exact et_and (et_test (ev_op (evi_gens (h4.ex e) (ev_var rfl) (mk hj) (ev_var rfl)) (ev_var rfl) rv_leN)) (fun _ => et_B (ev_kNotIn (ev_var rfl) (ev_var rfl) (e _ _ hp1)))
    · obtain ⟨hj, rfl⟩ := nVs_at hx
      exact ev_var rfl
    rw [nVs_len, filter_at W.kept (fun j => decide (W.gen j ≤ lv) && !decide (j ∈ hd))] at hl3
    generalize hrp : W.kept.filter (fun j => decide (W.gen j ≤ lv) && !decide (j ∈ hd)) = rp at hl3
    have mrp : ∀ i, i ∈ rp ↔ W.ripe lv i := fun i => by
      rw [← hrp, List.mem_filter, WS.mem_kept, Bool.and_eq_true, decide_eq_true_eq, Bool.not_eq_true', decide_eq_false_iff_not, mheld]
      exact and_assoc
    have rpn : rp.Nodup := by
      rw [← hrp]
      exact knd.filter _
    have rpl : rp.length ≤ W.n := by
      rw [← hrp]
      exact Nat.le_trans (List.length_filter_le _ _) klen
    have h5 := h4.ex e5
    -- running
    refine q_asgL (el_lcL (fun i => W.will (rp.getD i 0)) (fun i => nV (rp.getD i 0)) (ev_var rfl) (sq_of hl3) (by rw [nVs_len]; omega) (fun _ => rfl) (fun i x H6 e hx => ?_) (fun i x H6 e hx _ => ?_)) fun l4 H6 nl4 e6 hl4 => ?_
    · obtain ⟨hj, rfl⟩ := nVs_at hx
      exact et_B (ewi_wills (h5.ex e) (ev_var rfl) ((mrp _).mp hj).1 (ev_var rfl))
    · obtain ⟨hj, rfl⟩ := nVs_at hx
      exact ev_var rfl
    rw [nVs_len, filter_at rp W.will] at hl4
    generalize hrn : rp.filter W.will = rn at hl4
    have mrn : ∀ i, i ∈ rn ↔ W.rnn lv i := fun i => by
      rw [← hrn, List.mem_filter, mrp]
      rfl
    have rnl : rn.length ≤ W.n := by
      rw [← hrn]
      exact Nat.le_trans (List.length_filter_le _ _) rpl
    have h6 := h5.ex e6
    -- saved
    refine u_seq (u_asg (u_reach h6 (ea_cons (ev_var rfl) (ea_cons (ew_pairs h6 (ev_var rfl)) ea_nil)) (.inl (sq_of hl4)) (by omega) (fun i hi => ((mrn i).mp hi).1.1) fun sv p2 H7 nd2 hm2 np2 e7 hp2 => ?_))
    have msv : ∀ i, i ∈ sv ↔ W.saved lv i := fun i => (hm2 i).trans (Reach.congr mrn)
    have h7 := h6.ex e7
    have e17 := (((((e1.trans e2).trans e3).trans e4).trans e5).trans e6).trans e7
    show tSeq _ _ _ [some (.ref (B.at_ .dict)), some (nV lv), some v, some (.ref (B.at_ .gens)), some (.ref l1), some (.ref l2), some (.ref p1), some (.ref l3), some (.ref l4), some (.ref p2), none, none, none] H7
    have no1 := h1.notOwn nl1
    have no3 := h4.notOwn nl3
    have no4 := h5.notOwn nl4
    have nop := h6.notOwn np2
    have hl1 := e7 _ _ (e6 _ _ (e5 _ _ hl1))
    have hl3 := e7 _ _ (e6 _ _ hl3)
    have hl4 := e7 _ _ hl4
    have st0 := WStep.ex h e17
    clear hm1 hm2 h1 h2 h3 h4 h5 h6
    -- the wills
    refine q_forLn (ev_var rfl) (sq_of hl4) (fun j σ H' => ∃ x, σ = [some (.ref (B.at_ .dict)), some (nV lv), some v, some (.ref (B.at_ .gens)), some (.ref l1), some (.ref l2), some (.ref p1), some (.ref l3), some (.ref l4), some (.ref p2), x, none, none] ∧ WStep H7 H' B B W { W with will := fun i => if i ∈ rn.take j then false else W.will i })
      (fun H8 e8 => ⟨none, rfl, ?_⟩) (fun j σ' H' _ q => let ⟨_, _, z⟩ := q; sq_of (z.chg _ _ hl4 no4)) (fun j x σ' H' hx q => ?_) (fun σ' H' q => ?_)
    · have e : ({ W with will := fun i => if i ∈ rn.take 0 then false else W.will i } : WS) = W := by
        have : (fun i => if i ∈ rn.take 0 then false else W.will i) = W.will := by
          funext i
          rw [List.take_zero, if_neg List.not_mem_nil]
        rw [this]
      rw [e]
      exact WStep.ex h7 e8
    · obtain ⟨x0, rfl, st⟩ := q
      obtain ⟨hj, rfl⟩ := nVs_at hx
      have hjl : j < rn.length := by
        have := (List.getElem?_eq_some_iff.mp hx).1
        rw [nVs_len] at this
        exact this
      have hi := ((mrn _).mp hj).1.1
      have h8 := st.ha
      refine s_setL (h8.ob .wills) ev_c (ew_wills h8 (ev_var rfl)) (ev_var rfl) (by rw [vl_len]; exact hi) fun H9 e9 => ?_
      have st9 := (st.to e9).trans ((h8.ex e9).putWill (i := rn.getD j 0) (x := false))
      refine ⟨_, rfl, ?_⟩
      have e : fset (fun i => if i ∈ rn.take j then false else W.will i) (rn.getD j 0) false = fun i => if i ∈ rn.take (j + 1) then false else W.will i := by
        funext i
        unfold fset
        rw [take_snoc (getD_at hjl)]
        by_cases z : i = rn.getD j 0
        · rw [if_pos z, if_pos (List.mem_append.mpr (.inr (List.mem_singleton.mpr z)))]
        · rw [if_neg z]
          show (if i ∈ rn.take j then false else W.will i) = _
          refine ifc ?_
          rw [List.mem_append, List.mem_singleton]
          exact ⟨.inl, fun q => q.elim id fun q => absurd q z⟩
      rw [← e]
      exact st9
    obtain ⟨x0, rfl, st8⟩ := q
    rw [nVs_len, List.take_length] at st8
    generalize hwi : (fun i => if i ∈ rn then false else W.will i) = wi at st8
    have mwi : ∀ i, wi i = true ↔ W.will i = true ∧ ¬ W.ripe lv i := fun i => by
      rw [← hwi]
      show (if i ∈ rn then false else W.will i) = true ↔ _
      by_cases z : i ∈ rn
      · rw [if_pos z]
        have := (mrn i).mp z
        exact ⟨fun q => (nomatch q), fun q => absurd this.1 q.2⟩
      · rw [if_neg z]
        exact ⟨fun q => ⟨q, fun y => z ((mrn i).mpr ⟨y, q⟩)⟩, fun q => q.1⟩
    -- the generations
    refine q_forLn (ev_var rfl) (sq_of (st8.chg _ _ hl1 no1)) (fun j σ H' => ∃ x, σ = [some (.ref (B.at_ .dict)), some (nV lv), some v, some (.ref (B.at_ .gens)), some (.ref l1), some (.ref l2), some (.ref p1), some (.ref l3), some (.ref l4), some (.ref p2), x, none, none] ∧
        WStep H7 H' B B W { W with will := wi, gen := fun i => if i ∈ W.kept.take j ∧ W.gen i ≤ lv then min (lv + 1) (lastOf W.ps) else W.gen i })
      (fun H8 e8 => ⟨x0, rfl, ?_⟩) (fun j σ' H' _ q => let ⟨_, _, z⟩ := q; sq_of (z.chg _ _ hl1 no1)) (fun j x σ' H' hx q => ?_) (fun σ' H' q => ?_)
    · have e : ({ W with will := wi, gen := fun i => if i ∈ W.kept.take 0 ∧ W.gen i ≤ lv then min (lv + 1) (lastOf W.ps) else W.gen i } : WS) = { W with will := wi } := by
        have : (fun i => if i ∈ W.kept.take 0 ∧ W.gen i ≤ lv then min (lv + 1) (lastOf W.ps) else W.gen i) = W.gen := by
          funext i
          rw [List.take_zero, if_neg fun z => by cases z.1]
        rw [this]
      rw [e]
      exact st8.to e8
    · obtain ⟨x1, rfl, st⟩ := q
      obtain ⟨hj, rfl⟩ := nVs_at hx
      have hjl : j < W.kept.length := by
        have := (List.getElem?_eq_some_iff.mp hx).1
        rw [nVs_len] at this
        exact this
      have hi := mk hj
      have tk := take_snoc (getD_at hjl)
      have ntk := take_not knd hjl
      generalize W.kept.getD j 0 = i at hj hi tk ntk
      have h8 := st.ha
      have hgi : (if i ∈ W.kept.take j ∧ W.gen i ≤ lv then min (lv + 1) (lastOf W.ps) else W.gen i) = W.gen i := if_neg fun z => ntk z.1
      have ed := evi_gens (K := K) h8 (σ := [some (.ref (B.at_ .dict)), some (nV lv), some v, some (.ref (B.at_ .gens)), some (.ref l1), some (.ref l2), some (.ref p1), some (.ref l3), some (.ref l4), some (.ref p2), some (nV i), none, none]) (ta := tVar 3) (tb := tVar 10) (ev_var rfl) hi (ev_var rfl)
      have ed : Ev (tOp (rIxL K) (tVar 3) (tVar 10)) [some (.ref (B.at_ .dict)), some (nV lv), some v, some (.ref (B.at_ .gens)), some (.ref l1), some (.ref l2), some (.ref p1), some (.ref l3), some (.ref l4), some (.ref p2), some (nV i), none, none] H' (nV (W.gen i)) := by
        rw [← hgi]
        exact ed
      refine s_when (b := decide (W.gen i ≤ lv)) (et_test (ev_op ed (ev_var rfl) rv_leN)) (fun hb H9 e9 => ?_) (fun hb H9 e9 => ⟨_, rfl, ?_⟩)
      · have hb := of_decide_eq_true hb
        have h9 := h8.ex e9
        have lenp : (W.ps.map fun p => nV p).length = W.ps.length := List.length_map _
        refine s_setL (h9.ob .gens) (ev_min2N (ea_cons (ev_op (ev_var rfl) ev_c rv_add1) (ea_cons (ev_is (ev_op (ev_len (ew_places h9 (ev_var rfl)) (sq_of (h9.ob .places))) ev_c (rv_sub1 (by show 1 ≤ (W.ps.map fun p => nV p).length; rw [lenp]; exact h.wf.p.len))) (by show nV ((W.ps.map fun p => nV p).length - 1) = nV (lastOf W.ps); rw [lenp]; rfl)) ea_nil))) (ev_var rfl) (ev_var rfl) (by rw [vl_len]; exact hi) fun H10 e10 => ⟨_, rfl, ?_⟩
        have st10 := ((st.to e9).to e10).trans ((h9.ex e10).putGen (i := i) (x := min (lv + 1) (lastOf W.ps)))
        have e : fset (fun i => if i ∈ W.kept.take j ∧ W.gen i ≤ lv then min (lv + 1) (lastOf W.ps) else W.gen i) i (min (lv + 1) (lastOf W.ps)) = fun a => if a ∈ W.kept.take (j + 1) ∧ W.gen a ≤ lv then min (lv + 1) (lastOf W.ps) else W.gen a := by
          funext a
          unfold fset
          rw [tk]
          by_cases z : a = i
          · rw [if_pos z, if_pos ⟨List.mem_append.mpr (.inr (List.mem_singleton.mpr z)), z ▸ hb⟩]
          · rw [if_neg z]
            show (if a ∈ W.kept.take j ∧ W.gen a ≤ lv then min (lv + 1) (lastOf W.ps) else W.gen a) = _
            refine ifc (and_congr_left fun _ => ?_)
            rw [List.mem_append, List.mem_singleton]
            exact ⟨.inl, fun q => q.elim id fun q => absurd q z⟩
        rw [← e]
        exact st10
      · have hb := of_decide_eq_false hb
        have e : (fun i => if i ∈ W.kept.take j ∧ W.gen i ≤ lv then min (lv + 1) (lastOf W.ps) else W.gen i) = fun a => if a ∈ W.kept.take (j + 1) ∧ W.gen a ≤ lv then min (lv + 1) (lastOf W.ps) else W.gen a := by
          funext a
          rw [tk]
          refine ifc (and_congr_left fun q => ?_)
          rw [List.mem_append, List.mem_singleton]
          exact ⟨.inl, fun y => y.elim id fun y => absurd (y ▸ q) hb⟩
        rw [← e]
        exact st.to e9
    obtain ⟨x1, rfl, st9⟩ := q
    rw [nVs_len, List.take_length] at st9
    generalize hg : (fun i => if i ∈ W.kept ∧ W.gen i ≤ lv then min (lv + 1) (lastOf W.ps) else W.gen i) = g at st9
    -- those that are gone
    refine s_forLn (ev_var rfl) (sq_of (st9.chg _ _ hl3 no3)) (fun j σ H' => ∃ x y B' go pr, σ = [some (.ref (B.at_ .dict)), some (nV lv), some v, some (.ref (B.at_ .gens)), some (.ref l1), some (.ref l2), some (.ref p1), some (.ref l3), some (.ref l4), some (.ref p2), x, y, none] ∧
        WStep H7 H' B B' W { W with will := wi, gen := g, gone := go, prs := pr } ∧ (∀ i, go i = true ↔ W.gone i = true ∨ (i ∈ rp.take j ∧ ¬ i ∈ sv)) ∧ ∀ q, q ∈ pr ↔ q ∈ W.prs ∧ ¬ (q.1 ∈ rp.take j ∧ ¬ q.1 ∈ sv) ∧ ¬ (q.2 ∈ rp.take j ∧ ¬ q.2 ∈ sv))
      (fun H8 e8 => ⟨x1, none, B, W.gone, W.prs, rfl, st9.to e8, fun i => ⟨.inl, fun z => z.elim id fun q => (by cases q.1)⟩, fun q => ⟨fun z => ⟨z, fun y => (by cases y.1), fun y => (by cases y.1)⟩, fun z => z.1⟩⟩) (fun j σ' H' _ q => let ⟨_, _, _, _, _, _, z, _⟩ := q; sq_of (z.chg _ _ hl3 no3)) (fun j x σ' H' hx q => ?_) (fun σ' H' q => ?_)
    · obtain ⟨x2, y2, B', go, pr, rfl, st, q1, q2⟩ := q
      obtain ⟨hj, rfl⟩ := nVs_at hx
      have hjl : j < rp.length := by
        have := (List.getElem?_eq_some_iff.mp hx).1
        rw [nVs_len] at this
        exact this
      have hi := ((mrp _).mp hj).1
      have tk := take_snoc (getD_at hjl)
      have ntk := take_not rpn hjl
      generalize rp.getD j 0 = i at hj hi tk ntk
      have h8 := st.ha
      have inst := st.inst
      show tIfS _ _ _ _ [some (.ref (B.at_ .dict)), some (nV lv), some v, some (.ref (B.at_ .gens)), some (.ref l1), some (.ref l2), some (.ref p1), some (.ref l3), some (.ref l4), some (.ref p2), some (nV i), y2, none] H'
      have dv : ∀ {H9 : Hp} {B9 : WRep} {y : Option V}, B9.at_ .dict = B.at_ .dict → Ev (tVar 0) [some (.ref (B.at_ .dict)), some (nV lv), some v, some (.ref (B.at_ .gens)), some (.ref l1), some (.ref l2), some (.ref p1), some (.ref l3), some (.ref l4), some (.ref p2), some (nV i), y, none] H9 (.ref (B9.at_ .dict)) := fun e => by
        rw [e]
        exact ev_var rfl
      refine s_when (b := !decide (i ∈ sv)) (et_B (ev_kNotIn (ev_var rfl) (ev_var rfl) (st.chg _ _ hp2 nop))) (fun hb H9 e9 => ?_) (fun hb H9 e9 => ⟨_, _, B', go, pr, rfl, st.to e9, fun a => ?_, fun q => ?_⟩)
      · have hb : ¬ i ∈ sv := by
          rw [Bool.not_eq_true', decide_eq_false_iff_not] at hb
          exact hb
        have h9 := h8.ex e9
        refine u_seq (s_setU (h9.ob .gone) (eu_tup (ea_cons (ew_time h9 (dv inst)) (ea_cons (ev_var rfl) ea_nil)) (by show 2 ≤ 100000; decide)) (ew_gone h9 (dv inst)) (ev_var rfl) (by rw [h9.gvl]; exact hi) fun b H10 e10 => ?_)
        have st10 := ((st.to e9).to e10).trans ((h9.ex e10).putGone (p := b) hi)
        have h10 := st10.ha
        refine q_left (k := i) h10 (by show some (some (V.ref (B.at_ .dict))) = _; rw [← st10.inst]) (fun _ => rfl) (fun _ => rfl) (fun _ => rfl) fun l5 xs H11 nl5 e11 hl5 hpa => ?_
        have h11 := h10.ex e11
        have prn : (pr.filter fun q => !(decide (i = q.1) || decide (i = q.2))).Nodup := h10.wf.pn.filter _
        have prb : ∀ q ∈ (pr.filter fun q => !(decide (i = q.1) || decide (i = q.2))), q.1 < W.n ∧ q.2 < W.n := fun q hq => h10.wf.pl q (List.mem_filter.mp hq).1
        have prl : (pr.filter fun q => !(decide (i = q.1) || decide (i = q.2))).length ≤ 60 * 60 := Nat.le_trans (ndP_len prn prb) (Nat.mul_le_mul n60 n60)
        have ev : EvA (tCons (tVar 11) tNil) [some (.ref (B.at_ .dict)), some (nV lv), some v, some (.ref (B.at_ .gens)), some (.ref l1), some (.ref l2), some (.ref p1), some (.ref l3), some (.ref l4), some (.ref p2), some (nV i), some (.ref l5), none] H11 [.ref l5] := ea_cons (ev_var rfl) ea_nil
        refine u_dput ?_
        refine ev H11 (Ex.refl H11) _ fun H12 e12 => ?_
        refine ⟨l5, rfl, .inr (.inr ⟨xs, _, sq_of (e12 _ _ hl5), prn, by omega, hpa.ex e12, fun p5 H13 np5 e13 hp5 => ?_⟩)⟩
        have h12 := h11.ex e12
        refine (dv st10.inst : Ev (tVar 0) _ H13 _) H13 (Ex.refl H13) _ fun H14 e14 => ?_
        have h14 := (h12.ex e13).ex e14
        refine ⟨_, _, rfl, DPut.k (k := Sum.inr "pairs") (h14.ob .dict) (sz_lt (by rw [wD_len]; decide)), ?_⟩
        rw [wp_pairs]
        have st15 := h12.move (W' := { W with will := wi, gen := g, gone := fset go i true, prs := pr.filter fun q => !(decide (i = q.1) || decide (i = q.2)) }) (e13.trans e14) .pairs (fun z => nomatch z) np5 (e14 _ _ hp5) (fun l' hl' => by cases l' <;> first | rfl | exact absurd rfl hl') rfl ⟨h10.wf.p, h10.wf.psn, h10.wf.n60, prn, prb, h10.wf.rn, h10.wf.rl, h10.wf.tb⟩ rfl rfl
        refine ⟨_, _, _, _, _, rfl, ((st10.to e11).to e12).trans st15, fun a => ?_, fun q => ?_⟩
        · show fset go i true a = true ↔ _
          by_cases z : a = i
          · subst z
            rw [fset_same, tk]
            exact ⟨fun _ => .inr ⟨List.mem_append.mpr (.inr (List.mem_singleton.mpr rfl)), hb⟩, fun _ => rfl⟩
          · rw [fset_ne _ _ z, q1 a, tk]
            exact or_congr Iff.rfl ⟨fun q => ⟨List.mem_append.mpr (.inl q.1), q.2⟩, fun q => ⟨(List.mem_append.mp q.1).elim id fun y => absurd (List.mem_singleton.mp y) z, q.2⟩⟩
        · show q ∈ (pr.filter fun q => !(decide (i = q.1) || decide (i = q.2))) ↔ _
          rw [List.mem_filter, q2 q, tk, Bool.not_eq_true', Bool.or_eq_false_iff, decide_eq_false_iff_not, decide_eq_false_iff_not]
          constructor
          · rintro ⟨⟨a1, a2, a3⟩, a4, a5⟩
            refine ⟨a1, fun z => ?_, fun z => ?_⟩
            · rcases List.mem_append.mp z.1 with y | y
              · exact a2 ⟨y, z.2⟩
              · exact a4 (List.mem_singleton.mp y).symm
            · rcases List.mem_append.mp z.1 with y | y
              · exact a3 ⟨y, z.2⟩
              · exact a5 (List.mem_singleton.mp y).symm
          · rintro ⟨a1, a2, a3⟩
            refine ⟨⟨a1, fun z => a2 ⟨List.mem_append.mpr (.inl z.1), z.2⟩, fun z => a3 ⟨List.mem_append.mpr (.inl z.1), z.2⟩⟩, fun z => a2 ?_, fun z => a3 ?_⟩
            · exact z ▸ ⟨List.mem_append.mpr (.inr (List.mem_singleton.mpr rfl)), hb⟩
            · exact z ▸ ⟨List.mem_append.mpr (.inr (List.mem_singleton.mpr rfl)), hb⟩
      · have hb : i ∈ sv := by
          rw [Bool.not_eq_false', decide_eq_true_eq] at hb
          exact hb
        rw [q1 a, tk]
        refine or_congr Iff.rfl ⟨fun q => ⟨List.mem_append.mpr (.inl q.1), q.2⟩, fun q => ⟨(List.mem_append.mp q.1).elim id fun y => ?_, q.2⟩⟩
        rw [List.mem_singleton.mp y] at q
        exact absurd hb q.2
      · have hb : i ∈ sv := by
          rw [Bool.not_eq_false', decide_eq_true_eq] at hb
          exact hb
        have ee : ∀ a : Nat, (a ∈ rp.take (j + 1) ∧ ¬ a ∈ sv) ↔ (a ∈ rp.take j ∧ ¬ a ∈ sv) := fun a => by
          rw [tk]
          refine ⟨fun q => ⟨(List.mem_append.mp q.1).elim id fun y => ?_, q.2⟩, fun q => ⟨List.mem_append.mpr (.inl q.1), q.2⟩⟩
          rw [List.mem_singleton.mp y] at q
          exact absurd hb q.2
        rw [q2 q, ee, ee]
    · obtain ⟨x2, y2, B', go, pr, rfl, st, q1, q2⟩ := q
      rw [nVs_len, List.take_length] at q1 q2
      have gg : ∀ i, (i ∈ rp ∧ ¬ i ∈ sv) ↔ W.lost lv i := fun i => by
        rw [mrp, msv]
        rfl
      refine k H' B' g go wi pr (st0.trans st) ⟨mwi, fun i a b c => ?_, fun i z => ?_, fun i => by rw [q1 i, gg], fun q => by rw [q2 q, gg, gg]⟩
      · rw [← hg]
        exact if_pos ⟨WS.mem_kept.mpr ⟨a, b⟩, c⟩
      · rw [← hg]
        exact if_neg fun y => z ⟨(WS.mem_kept.mp y.1).1, (WS.mem_kept.mp y.1).2, y.2⟩
end
end HD
set_option Elab.async false
set_option linter.all false
set_option maxRecDepth 100000
set_option maxHeartbeats 4000000
/-! The law's world, create. -/
namespace HD
open PySem PySem.Spec PyProof.Rows L2 Evl
def newW (ps : List Nat) (t : Nat) : WS := { ps := ps, time := t, n := 0, birth := fun _ => 0, death := fun _ => none, gen := fun _ => 0, gone := fun _ => false, will := fun _ => false, prs := [], roots := [] }
theorem Rad.ps {rs : List Nat} (h : Rad rs) : Ps (pl 1 rs) := ⟨pl_one rs, h.pos, h.big⟩
theorem newW_wf {rs : List Nat} (h : Rad rs) {t : Nat} (ht : t < 2 ^ 300) : (newW (pl 1 rs) t).Wf :=
  ⟨h.ps, by show (pl 1 rs).length ≤ 7; rw [pl_len]; have := h.len; omega, Nat.zero_le _, List.nodup_nil, fun q hq => (by cases hq), List.nodup_nil, fun q hq => (by cases hq), ht⟩
/-- the five lists' keys, as they come -/
def names5 : List Str := ["births", "deaths", "gens", "gone", "wills"]
def kv5 (p1 p2 p3 : Addr) (t : Nat) (as : List Addr) : List (Key × V) := [(.inr "places", .ref p1), (.inr "time", nV t), (.inr "pairs", .ref p2), (.inr "roots", .ref p3)] ++ (names5.zip as).map fun q => (Sum.inr q.1, V.ref q.2)
theorem kv5_put {p1 p2 p3 p : Addr} {t : Nat} {as : List Addr} (h : as.length < 5) : putK (kv5 p1 p2 p3 t as) (Sum.inr (names5.getD as.length "")) (.ref p) = kv5 p1 p2 p3 t (as ++ [p]) := by
  rcases as with _ | ⟨a1, _ | ⟨a2, _ | ⟨a3, _ | ⟨a4, _ | ⟨a5, as⟩⟩⟩⟩⟩
  · kernel_rfl
  · kernel_rfl
  · kernel_rfl
  · kernel_rfl
  · kernel_rfl
  · simp only [List.length_cons] at h
    omega
section
variable {P : Program} {w : World} {K : PySem.W.Frag} {mg : Str → Option Value} {base : Heap}
theorem sc_Lworld : FnScope ["_law_radices_here", "_law_start", "_law_world_here", "_law_name"] ["_law_radices_here", "_law_start"] (defScope s_Lworld) := ⟨rfl, rfl, rfl, by decide +kernel, rfl, by decide +kernel, by decide +kernel⟩
def sp_Lworld (K : PySem.W.Frag) : Sp := fun vs H Q _ => ∃ (l : Addr) (rs : List Nat) (t : Nat), vs = [.ref l, nV t] ∧ SqL K H l (nVs rs) ∧ Rad rs ∧ t < 2 ^ 300 ∧ ∀ H' B, WorldAt H' B (newW (pl 1 rs) t) → Ex H H' → (∀ b, WOwn B b → H b = none) → Q (.ref (B.at_ .dict)) H'
theorem ok_Lworld (T : TX K mg) : Glob P w K mg base 2 "_law_world" ["_law_radices_here", "_law_start"] (sp_Lworld K) := by
  have SC := sc_Lworld
  refine glob_mk (F_Lworld T) (g_Lworld T) sc_Lworld (fun _ _ _ _ _ _ us hl => match us, hl with | [_, _], _ => rfl) (fun vs H Q E h => ?_) (fun cdv A outer s H vs Q E hr h => ?_)
  · obtain ⟨l, rs, t, rfl, _⟩ := h
    rfl
  · obtain ⟨l, rs, t, rfl, hl, hrad, ht, k⟩ := h
    have hu := hu_of hr
    refine ⟨_, (pss_cons (ps_set (i := 2) SC.nd rfl (Or.inl rfl) (pe_disp (pps_cons pe_str (pg_call (ok_Lplaces T) hr (by decide) rfl (pa_cons (pv 0) pa_nil)) (pps_cons pe_str (pv 1) (pps_cons pe_str pe_dnewT (pps_cons pe_str pe_dnewK pps_nil)))) rfl rfl (fun z => nomatch z) (by decide)))
    (pss_cons (ps_for PassesOwn.never rfl (pi_tup (pe_tup (pa_cons pe_str (pa_cons pe_str (pa_cons pe_str (pa_cons pe_str (pa_cons pe_str pa_nil))))))) (pg_name (i := 3) SC.nd rfl (Or.inl rfl))
      (pss_one (ps_dput hu (pv 2) (pv 3) (pe_lst pa_nil) rfl)))
    (pss_one (ps_ret (pv 2))))), ?_⟩
    refine u_seq (u_asg ?_)
    intro d nd
    have ed : Ex H (upd H d (.dK [])) := Ex.new nd
    refine ⟨_, rfl, l, rs, rfl, ex_l ed hl, hrad, fun p1 H2 np1 e2 hp1 => ⟨_, rfl, fun p2 np2 p3 np3 => ⟨?_, [(.inr "places", .ref p1), (.inr "time", nV t), (.inr "pairs", .ref p2), (.inr "roots", .ref p3)], rfl, by show 4 ≤ 15; decide, ?_⟩⟩⟩
    · have h1 := e2 _ _ (upd_same (H := H) (a := d) (o := HO.dK []))
      exact Ex.new np3 _ _ (Ex.new np2 _ _ h1)
    have em : mergeK [] [((Sum.inr "places" : Key), V.ref p1), (.inr "time", nV t), (.inr "pairs", .ref p2), (.inr "roots", .ref p3)] = kv5 p1 p2 p3 t [] := by kernel_rfl
    rw [em]
    have hd2 := e2 _ _ (upd_same (H := H) (a := d) (o := HO.dK []))
    have n1d : p1 ≠ d := fun z => by
      rw [z, upd_same] at np1
      cases np1
    have n2d : p2 ≠ d := fun z => by
      rw [z, hd2] at np2
      cases np2
    have hd3 := Ex.new np2 (o := HO.dT []) _ _ hd2
    have n3d : p3 ≠ d := fun z => by
      rw [z, hd3] at np3
      cases np3
    have n12 : p1 ≠ p2 := ne_of_none hp1 np2
    have n13 : p1 ≠ p3 := ne_of_none (Ex.new np2 (o := HO.dT []) _ _ hp1) np3
    have n23 : p2 ≠ p3 := ne_of_none (upd_same (H := H2) (a := p2) (o := HO.dT [])) np3
    generalize hH4 : upd (upd (upd H2 p2 (.dT [])) p3 (.dK [])) d (.dK (kv5 p1 p2 p3 t [])) = H4
    have x4 : Ex H H4 := by
      rw [← hH4]
      exact Ex.mut (((ed.trans e2).trans (Ex.new np2)).trans (Ex.new np3)) nd
    have f1 : H4 p1 = some (.lst (nVs (pl 1 rs))) := by
      rw [← hH4, upd_ne n1d, upd_ne n13, upd_ne n12]
      exact hp1
    have f2 : H4 p2 = some (.dT []) := by
      rw [← hH4, upd_ne n2d, upd_ne n23]
      exact upd_same
    have f3 : H4 p3 = some (.dK []) := by
      rw [← hH4, upd_ne n3d]
      exact upd_same
    have f0 : H4 d = some (.dK (kv5 p1 p2 p3 t [])) := by
      rw [← hH4]
      exact upd_same
    have np1' : H p1 = none := fresh_back ed np1
    have np2' : H p2 = none := fresh_back (ed.trans e2) np2
    have np3' : H p3 = none := fresh_back ((ed.trans e2).trans (Ex.new np2)) np3
    clear hH4
    show tSeq _ _ _ [some (.ref l), some (nV t), some (.ref d), none] H4
    refine u_seq (s_forNU (xs := names5.map V.str) (eu_tup (ea_cons ev_c (ea_cons ev_c (ea_cons ev_c (ea_cons ev_c (ea_cons ev_c ea_nil))))) (by show 5 ≤ 100000; decide))
      (fun q j σ H' => ∃ x as, σ = [some (.ref l), some (nV t), some (.ref d), x] ∧ H' q = some (.tup (names5.map V.str)) ∧ as.length = j ∧ Ex H H' ∧ H' d = some (.dK (kv5 p1 p2 p3 t as)) ∧ H' p1 = some (.lst (nVs (pl 1 rs))) ∧ H' p2 = some (.dT []) ∧ H' p3 = some (.dK []) ∧ (∀ a ∈ as, H' a = some (.lst []) ∧ H a = none) ∧ (d :: p1 :: p2 :: p3 :: as).Nodup ∧ q ≠ d)
      (fun q H5 nq e5 hq => ⟨none, [], rfl, hq, rfl, x4.trans e5, e5 _ _ f0, e5 _ _ f1, e5 _ _ f2, e5 _ _ f3, fun a ha => (by cases ha), ?_, fun z => by rw [z, f0] at nq; cases nq⟩) (fun q j σ' H' _ p => let ⟨_, _, _, z, _⟩ := p; st_of z) (fun q j x σ' H' hx p => ?_) (fun q σ' H' p => ?_))
    · simp only [List.nodup_cons, List.mem_cons, List.not_mem_nil, or_false, not_or, List.nodup_nil, and_true, not_false_eq_true]
      exact ⟨⟨Ne.symm n1d, Ne.symm n2d, Ne.symm n3d⟩, ⟨n12, n13⟩, n23⟩
    · obtain ⟨x0, as, rfl, hq, hlen, ex, g0, g1, g2, g3, ga, gn, nqd⟩ := p
      have hj : j < 5 := (List.getElem?_eq_some_iff.mp hx).1
      have hxv : x = .str (names5.getD as.length "") := by
        rw [hlen]
        rcases j with _ | _ | _ | _ | _ | j
        · exact (Option.some.inj hx).symm
        · exact (Option.some.inj hx).symm
        · exact (Option.some.inj hx).symm
        · exact (Option.some.inj hx).symm
        · exact (Option.some.inj hx).symm
        · omega
      subst hxv
      show sDPut (tVar 2) (tVar 3) (tLst tNil) _ [some (.ref l), some (nV t), some (.ref d), some (.str (names5.getD as.length ""))] H'
      refine u_dput ?_
      refine el_lst ea_nil (Nat.zero_le _) H' (Ex.refl H') _ fun a H6 na e6 ha => ?_
      refine ⟨_, rfl, _, rfl, d, _, rfl, DPut.k (k := Sum.inr (names5.getD as.length "")) (e6 _ _ g0) (sz_lt ?_), ?_⟩
      · unfold kv5
        rw [List.length_append, List.length_map, List.length_zip]
        show 4 + min 5 as.length < 100000
        omega
      rw [kv5_put (by omega)]
      have nad : a ≠ d := fun z => by
        rw [z, g0] at na
        cases na
      have kp : ∀ b o, b ≠ d → H' b = some o → upd H6 d (.dK (kv5 p1 p2 p3 t (as ++ [a]))) b = some o := fun b o hb hbo => by
        rw [upd_ne hb]
        exact e6 _ _ hbo
      refine ⟨_, as ++ [a], rfl, kp _ _ nqd hq, by rw [List.length_append, hlen]; rfl, Ex.mut (ex.trans e6) nd, upd_same, kp _ _ n1d g1, kp _ _ n2d g2, kp _ _ n3d g3, fun b hb => ?_, ?_, nqd⟩
      · rcases List.mem_append.mp hb with z | z
        · refine ⟨kp _ _ (fun y => ?_) (ga b z).1, (ga b z).2⟩
          exact (List.nodup_cons.mp gn).1 (List.mem_cons_of_mem _ (List.mem_cons_of_mem _ (List.mem_cons_of_mem _ (y ▸ z))))
        · rw [List.mem_singleton.mp z]
          exact ⟨by rw [upd_ne nad]; exact ha, fresh_back ex na⟩
      · have : d :: p1 :: p2 :: p3 :: (as ++ [a]) = (d :: p1 :: p2 :: p3 :: as) ++ [a] := rfl
        rw [this]
        refine nd_snoc gn fun m => ?_
        rcases List.mem_cons.mp m with z | m
        · exact nad z
        rcases List.mem_cons.mp m with z | m
        · rw [z, g1] at na
          cases na
        rcases List.mem_cons.mp m with z | m
        · rw [z, g2] at na
          cases na
        rcases List.mem_cons.mp m with z | m
        · rw [z, g3] at na
          cases na
        · rw [(ga a m).1] at na
          cases na
    · obtain ⟨x0, as, rfl, hq, hlen, ex, g0, g1, g2, g3, ga, gn, nqd⟩ := p
      have hlen : as.length = 5 := hlen
      obtain ⟨a1, a2, a3, a4, a5, rfl⟩ : ∃ a1 a2 a3 a4 a5, as = [a1, a2, a3, a4, a5] := by
        rcases as with _ | ⟨a1, _ | ⟨a2, _ | ⟨a3, _ | ⟨a4, _ | ⟨a5, _ | ⟨a6, as⟩⟩⟩⟩⟩⟩
        · cases hlen
        · cases hlen
        · cases hlen
        · cases hlen
        · cases hlen
        · exact ⟨_, _, _, _, _, rfl⟩
        · simp only [List.length_cons] at hlen
          omega
      let B : WRep := { at_ := fun l => match l with | .dict => d | .places => p1 | .pairs => p2 | .roots => p3 | .births => a1 | .deaths => a2 | .gens => a3 | .gone => a4 | .wills => a5, gv := [] }
      have hB : WorldAt H' B (newW (pl 1 rs) t) := by
        refine ⟨fun l => ?_, fun l l' e => ?_, newW_wf hrad ht, rfl, fun i hi => absurd hi (Nat.not_lt_zero _)⟩
        · cases l with
          | dict =>
            show H' d = some (.dK (wD B t))
            rw [g0]
            refine congrArg (fun z => some (HO.dK z)) ?_
            kernel_rfl
          | places => exact g1
          | pairs => exact g2
          | roots => exact g3
          | births => exact (ga a1 (by simp)).1
          | deaths => exact (ga a2 (by simp)).1
          | gens => exact (ga a3 (by simp)).1
          | gone => exact (ga a4 (by simp)).1
          | wills => exact (ga a5 (by simp)).1
        · simp only [List.nodup_cons, List.mem_cons, List.not_mem_nil, or_false, not_or, List.nodup_nil, and_true, not_false_eq_true] at gn
          obtain ⟨⟨q1, q2, q3, q4, q5, q6, q7, q8⟩, ⟨r1, r2, r3, r4, r5, r6, r7⟩, ⟨s1, s2, s3, s4, s5, s6⟩, ⟨t1, t2, t3, t4, t5⟩, ⟨u1, u2, u3, u4⟩, ⟨v1, v2, v3⟩, ⟨w1, w2⟩, x1⟩ := gn
          cases l <;> cases l' <;> first | rfl | (exfalso; first | exact absurd e (by assumption) | exact absurd (Eq.symm e) (by assumption))
      refine s_ret (ev_var rfl) fun H9 e9 => k H9 B (hB.ex e9) (ex.trans e9) fun b hb => ?_
      obtain ⟨l, e⟩ := hb
      rw [← e]
      cases l with
      | dict => exact nd
      | places => exact np1'
      | pairs => exact np2'
      | roots => exact np3'
      | births => exact (ga a1 (by simp)).2
      | deaths => exact (ga a2 (by simp)).2
      | gens => exact (ga a3 (by simp)).2
      | gone => exact (ga a4 (by simp)).2
      | wills => exact (ga a5 (by simp)).2
end
end HD
set_option Elab.async false
set_option linter.all false
set_option maxRecDepth 100000
set_option maxHeartbeats 4000000
/-! The law's create. -/
namespace HD
open PySem PySem.Spec PyProof.Rows L2 Evl
def wset (f : WLab → HO) (l : WLab) (o : HO) : WLab → HO := fun l' => if l' = l then o else f l'
structure WMid (B : WRep) (H H' : Hp) (f : WLab → HO) : Prop where
  ob : ∀ l, H' (B.at_ l) = some (f l)
  chg : Chg (WOwn B) H H'
theorem WMid.ex {B : WRep} {H H' H'' : Hp} {f : WLab → HO} (m : WMid B H H' f) (e : Ex H' H'') : WMid B H H'' f := ⟨fun l => e _ _ (m.ob l), m.chg.trans (Chg.ex e)⟩
theorem WMid.put {B : WRep} {H H' : Hp} {f : WLab → HO} (m : WMid B H H' f) (inj : ∀ l l', B.at_ l = B.at_ l' → l = l') (l : WLab) (o : HO) : WMid B H (upd H' (B.at_ l) o) (wset f l o) :=
  ⟨fun l' => by
    unfold wset
    by_cases e : l' = l
    · rw [if_pos e, e, upd_same]
    · rw [if_neg e, upd_ne (fun z => e (inj _ _ z))]
      exact m.ob l', m.chg.trans (Chg.upd ⟨l, rfl⟩)⟩
theorem WMid.notOwn {B : WRep} {H H' : Hp} {f : WLab → HO} (m : WMid B H H' f) {p : Addr} (np : H' p = none) : ¬ WOwn B p := fun o => by
  obtain ⟨l, e⟩ := o
  have := m.ob l
  rw [e, np] at this
  cases this
def WS.grown (W : WS) (f : Bool) : WS := { W with n := W.n + 1, birth := fset W.birth W.n W.time, death := fset W.death W.n none, gen := fset W.gen W.n 0, gone := fset W.gone W.n false, will := fset W.will W.n f }
def WS.made (W : WS) (ow : Option Nat) (f : Bool) : WS := match ow with
  | none => { W.grown f with roots := addK W.roots W.n }
  | some a => { W.grown f with prs := addP W.prs (a, W.n) }
def grownWF (B : WRep) (W : WS) (f : Bool) : WLab → HO
  | .births => .lst ((vl W.n fun i => nV (W.birth i)) ++ [nV W.time])
  | .deaths => .lst ((vl W.n fun i => oV (W.death i)) ++ [.non])
  | .gens => .lst ((vl W.n fun i => nV (W.gen i)) ++ [nV 0])
  | .gone => .lst (B.gv ++ [.non])
  | .wills => .lst ((vl W.n fun i => .bl (W.will i)) ++ [.bl f])
  | l => wobj B W l
theorem WorldAt.grown {H H' : Hp} {B : WRep} {W : WS} (h : WorldAt H B W) {f : Bool} (hn : W.n + 1 ≤ 60) (m : WMid B H H' (grownWF B W f)) : WStep H H' B { B with gv := B.gv ++ [.non] } W (W.grown f) := by
  refine ⟨⟨fun l => ?_, h.inj, ⟨h.wf.p, h.wf.psn, hn, h.wf.pn, fun q hq => ?_, h.wf.rn, fun i hi => Nat.lt_succ_of_lt (h.wf.rl i hi), h.wf.tb⟩, ?_, fun i hi => ?_⟩, m.chg, fun b o => .inl o, rfl⟩
  · refine (m.ob l).trans (congrArg some ?_)
    cases l with
    | births =>
      show HO.lst ((vl W.n fun i => nV (W.birth i)) ++ [nV W.time]) = HO.lst (vl (W.n + 1) fun i => nV (fset W.birth W.n W.time i))
      rw [vl_app, fset_map (fun b => nV b)]
    | deaths =>
      show HO.lst ((vl W.n fun i => oV (W.death i)) ++ [oV none]) = HO.lst (vl (W.n + 1) fun i => oV (fset W.death W.n none i))
      rw [vl_app, fset_map oV]
    | gens =>
      show HO.lst ((vl W.n fun i => nV (W.gen i)) ++ [nV 0]) = HO.lst (vl (W.n + 1) fun i => nV (fset W.gen W.n 0 i))
      rw [vl_app, fset_map (fun b => nV b)]
    | wills =>
      show HO.lst ((vl W.n fun i => V.bl (W.will i)) ++ [V.bl f]) = HO.lst (vl (W.n + 1) fun i => V.bl (fset W.will W.n f i))
      rw [vl_app, fset_map V.bl]
    | gone => rfl
    | dict => rfl
    | places => rfl
    | pairs => rfl
    | roots => rfl
  · have := h.wf.pl q hq
    exact ⟨Nat.lt_succ_of_lt this.1, Nat.lt_succ_of_lt this.2⟩
  · show (B.gv ++ [V.non]).length = W.n + 1
    rw [List.length_append, h.gvl]
    rfl
  · show ∃ v, (B.gv ++ [V.non])[i]? = some v ∧ (v = .non ↔ fset W.gone W.n false i = false)
    by_cases e : i < W.n
    · rw [List.getElem?_append_left (by rw [h.gvl]; exact e), fset_ne _ _ (by omega)]
      exact h.gvn i e
    · have hi : i < W.n + 1 := hi
      have e : i = W.n := by omega
      subst e
      rw [List.getElem?_append_right (by rw [h.gvl]; exact Nat.le_refl _), h.gvl, fset_same, Nat.sub_self]
      exact ⟨.non, rfl, ⟨fun _ => rfl, fun _ => rfl⟩⟩
/-- while None comes to two lists -/
def rowWF (B : WRep) (W : WS) (f : Bool) (j : Nat) : WLab → HO
  | .births => .lst ((vl W.n fun i => nV (W.birth i)) ++ [nV W.time])
  | .gens => .lst ((vl W.n fun i => nV (W.gen i)) ++ [nV 0])
  | .wills => .lst ((vl W.n fun i => .bl (W.will i)) ++ [.bl f])
  | .deaths => if 0 < j then .lst ((vl W.n fun i => oV (W.death i)) ++ [.non]) else wobj B W .deaths
  | .gone => if 1 < j then .lst (B.gv ++ [.non]) else wobj B W .gone
  | l => wobj B W l
section
variable {P : Program} {w : World} {K : PySem.W.Frag} {mg : Str → Option Value} {base : Heap}
theorem sc_Lcreate : FnScope ["_law_world_here", "_law_owner", "_law_has_will", "_law_number", "_law_name"] ["_law_world_here", "_law_owner", "_law_has_will"] (defScope s_Lcreate) := ⟨rfl, rfl, rfl, by decide +kernel, rfl, by decide +kernel, by decide +kernel⟩
def sp_Lcreate : Sp := fun vs H Q _ => ∃ B W ow f, vs = [.ref (B.at_ .dict), oV ow, .bl f] ∧ WorldAt H B W ∧ (∀ a, ow = some a → a < W.n) ∧ W.n ≤ 13 ∧ ∀ H' B', WStep H H' B B' W (W.made ow f) → Q .non H'
theorem ok_Lcreate (T : TX K mg) : Glob P w K mg base 1 "_law_create" ["_law_world_here", "_law_owner", "_law_has_will"] sp_Lcreate := by
  have SC := sc_Lcreate
  refine glob_mk (F_Lcreate T) (g_Lcreate T) sc_Lcreate (fun _ _ _ _ _ _ us hl => match us, hl with | [_, _, _], _ => rfl) (fun vs H Q E h => ?_) (fun cdv A outer s H vs Q E hr h => ?_)
  · obtain ⟨B, W, ow, f, rfl, _⟩ := h
    rfl
  · obtain ⟨B, W, ow, f, rfl, h, ho, hn, k⟩ := h
    have hu := hu_of hr
    refine ⟨_, (pss_cons (ps_set (i := 3) SC.nd rfl (Or.inl rfl) (klen (K := K) rfl (b_len T) (pa_cons (pe_dget hu (pv 0) pe_str (fun _ _ => rfl)) pa_nil)))
    (pss_cons (ps_expr (pe_bm PySem.F.plainAttrs_list PySem.F.slot_list_append PySem.F.type_list_append mt_append (pe_dget hu (pv 0) pe_str (fun _ _ => rfl)) (pa_cons (pe_dget hu (pv 0) pe_str (fun _ _ => rfl)) pa_nil)))
    (pss_cons (ps_expr (pe_bm PySem.F.plainAttrs_list PySem.F.slot_list_append PySem.F.type_list_append mt_append (pe_dget hu (pv 0) pe_str (fun _ _ => rfl)) (pa_cons pe_int pa_nil)))
    (pss_cons (ps_expr (pe_bm PySem.F.plainAttrs_list PySem.F.slot_list_append PySem.F.type_list_append mt_append (pe_dget hu (pv 0) pe_str (fun _ _ => rfl)) (pa_cons (pv 2) pa_nil)))
    (pss_cons (ps_for PassesOwn.never rfl (pi_tup (pe_tup (pa_cons pe_str (pa_cons pe_str pa_nil)))) (pg_name (i := 4) SC.nd rfl (Or.inl rfl))
      (pss_one (ps_expr (pe_bm PySem.F.plainAttrs_list PySem.F.slot_list_append PySem.F.type_list_append mt_append (pe_dget hu (pv 0) (pv 4) (fun _ _ => rfl)) (pa_cons pe_non pa_nil)))))
    (pss_one (ps_if (pt_cmp (pc_isN (pv 1)))
      (pss_one (ps_dput hu (pe_dget hu (pv 0) pe_str (fun _ _ => rfl)) (pv 3) pe_bl rfl))
      (pss_one (ps_dput hu (pe_dget hu (pv 0) pe_str (fun _ _ => rfl)) (pe_tup (pa_cons (pv 1) (pa_cons (pv 3) pa_nil))) pe_bl rfl))))))))), ?_⟩
    have inj := h.inj
    refine q_asg (ev_is (ev_len (ew_births h (ev_var rfl)) (sq_of (h.ob .births))) (by rw [vl_len])) fun H1 e1 => ?_
    have h1 := h.ex e1
    have m1 : WMid B H1 H1 (wobj B W) := ⟨h1.ob, Chg.refl _ _⟩
    have key : ∀ {kn : Str} {v : V} {fm : WLab → HO} {H' : Hp} {σ : L2.St} {ty : TE}, WMid B H1 H' fm → fm .dict = wobj B W .dict → σ[0]? = some (some (.ref (B.at_ .dict))) → Ev ty σ H' (.str kn) → valV (wD B W.time) (.inr kn) = some v → Ev (tDGet (tVar 0) ty) σ H' v := fun m e s ey hv => by
      have := m.ob .dict
      rw [e] at this
      exact ev_dget (ev_var s) ey (by rw [← hv]; exact DGet.k (k := Sum.inr _) this)
    refine q_app (m1.ob .births) (key m1 rfl rfl ev_c (wv_births _ _)) (key m1 rfl rfl ev_c (wv_time _ _)) (by rw [vl_len]; omega) fun H2 e2 => ?_
    have m2 := (m1.ex e2).put inj .births (.lst ((vl W.n fun i => nV (W.birth i)) ++ [nV W.time]))
    refine q_app (m2.ob .gens) (key m2 rfl rfl ev_c (wv_gens _ _)) ev_c (by rw [vl_len]; omega) fun H3 e3 => ?_
    have m3 := (m2.ex e3).put inj .gens (.lst ((vl W.n fun i => nV (W.gen i)) ++ [nV 0]))
    refine q_app (m3.ob .wills) (key m3 rfl rfl ev_c (wv_wills _ _)) (ev_var rfl) (by rw [vl_len]; omega) fun H4 e4 => ?_
    have m4 := (m3.ex e4).put inj .wills (.lst ((vl W.n fun i => .bl (W.will i)) ++ [.bl f]))
    have r0 : wset (wset (wset (wobj B W) .births (.lst ((vl W.n fun i => nV (W.birth i)) ++ [nV W.time]))) .gens (.lst ((vl W.n fun i => nV (W.gen i)) ++ [nV 0]))) .wills (.lst ((vl W.n fun i => .bl (W.will i)) ++ [.bl f])) = rowWF B W f 0 := by
      funext l
      cases l <;> rfl
    rw [r0] at m4
    refine u_seq (s_forNU (xs := [.str "deaths", .str "gone"]) (eu_tup (ea_cons ev_c (ea_cons ev_c ea_nil)) (by show 2 ≤ 100000; decide))
      (fun p j σ H' => ∃ x, σ = [some (.ref (B.at_ .dict)), some (oV ow), some (.bl f), some (nV W.n), x] ∧ ¬ WOwn B p ∧ H' p = some (.tup [.str "deaths", .str "gone"]) ∧ WMid B H1 H' (rowWF B W f j))
      (fun p H7 np e7 hp => ⟨none, rfl, m4.notOwn np, hp, m4.ex e7⟩) (fun p j σ' H' _ q => let ⟨_, _, _, z, _⟩ := q; st_of z) (fun p j x σ' H' hx q => ?_) (fun p σ' H' q => ?_))
    · obtain ⟨x0, rfl, no, hp, m⟩ := q
      have step : ∀ (l : WLab) (kn : Str) (xs : List V), valV (wD B W.time) (.inr kn) = some (.ref (B.at_ l)) → rowWF B W f j l = .lst xs → xs.length < 100000 → x = .str kn → wset (rowWF B W f j) l (.lst (xs ++ [.non])) = rowWF B W f (j + 1) → ∀ D : Ends, (∀ H9, H9 p = some (.tup [.str "deaths", .str "gone"]) → WMid B H1 H9 (rowWF B W f (j + 1)) → D.nx [some (.ref (B.at_ .dict)), some (oV ow), some (.bl f), some (nV W.n), some x] H9) →
          tDrop (tBM K "list" rAppend (tDGet (tVar 0) (tVar 4)) (tCons (tC .non) tNil)) D [some (.ref (B.at_ .dict)), some (oV ow), some (.bl f), some (nV W.n), some x] H' := by
        intro l kn xs hv e hl ex ef D kk
        subst ex
        have ob := m.ob l
        rw [e] at ob
        refine s_app ob (key m rfl rfl (ev_var rfl) hv) ev_c hl fun H9 e9 => kk _ ?_ ?_
        · rw [upd_ne (fun z => no ⟨l, z.symm⟩)]
          exact e9 _ _ hp
        · rw [← ef]
          exact (m.ex e9).put inj l _
      have fin : ∀ H9, H9 p = some (.tup [.str "deaths", .str "gone"]) → WMid B H1 H9 (rowWF B W f (j + 1)) → ∃ x', ([some (.ref (B.at_ .dict)), some (oV ow), some (.bl f), some (nV W.n), some x] : L2.St) = [some (.ref (B.at_ .dict)), some (oV ow), some (.bl f), some (nV W.n), x'] ∧ ¬ WOwn B p ∧ H9 p = some (.tup [.str "deaths", .str "gone"]) ∧ WMid B H1 H9 (rowWF B W f (j + 1)) :=
        fun H9 a b => ⟨_, rfl, no, a, b⟩
      rcases j with _ | _ | j
      · exact step .deaths "deaths" _ (wv_deaths _ _) rfl (by rw [vl_len]; omega) (Option.some.inj hx).symm (by funext l; cases l <;> rfl) _ fin
      · exact step .gone "gone" _ (wv_gone _ _) rfl (by rw [h.gvl]; omega) (Option.some.inj hx).symm (by funext l; cases l <;> rfl) _ fin
      · exact absurd hx (by simp)
    obtain ⟨x0, rfl, no, hp, m⟩ := q
    have m : WMid B H1 H' (grownWF B W f) := ⟨fun l => (m.ob l).trans (by cases l <;> rfl), m.chg⟩
    have st := (WStep.ex h e1).trans (h1.grown (f := f) (by omega) m)
    have h9 := st.ha
    have hin := st.inst
    generalize ({ B with gv := B.gv ++ [.non] } : WRep) = B1 at st h9 hin
    rw [← hin]
    clear m m1 m2 m3 m4 hp no
    have rlen : (W.grown f).roots.length ≤ W.n := nd_len h.wf.rn h.wf.rl
    refine s_if (b := ow.isNone) (et_B (ev_is (ev_isN (ev_var rfl)) (congrArg V.bl oV_dec))) (fun hb H12 e12 => ?_) (fun hb H12 e12 => ?_)
    · have hb := Option.isNone_iff_eq_none.mp hb
      subst hb
      have h12 := h9.ex e12
      refine q_put (k := Sum.inl (W.n : Int)) ev_c (ew_roots h12 (ev_var rfl)) (h12.ob .roots) (ev_var rfl) (by rw [kD_len]; omega) fun H13 e13 => ?_
      rw [kD_put]
      exact k _ _ ((st.to (e12.trans e13)).trans ((h12.ex e13).putRoots (nd_addK (k := W.n) h9.wf.rn) (lt_addK h9.wf.rl (by show W.n < W.n + 1; omega))))
    · cases ow with
      | none => cases hb
      | some a =>
        have h12 := h9.ex e12
        have ha := ho a rfl
        have plen : (W.grown f).prs.length ≤ 14 * 14 := Nat.le_trans (ndP_len h9.wf.pn h9.wf.pl) (Nat.mul_le_mul (by show W.n + 1 ≤ 14; omega) (by show W.n + 1 ≤ 14; omega))
        refine u_dput ?_
        refine ew_pairs h12 (ta := tVar 0) (σ := [some (.ref (B1.at_ .dict)), some (oV (some a)), some (.bl f), some (nV W.n), x0]) (ev_var rfl) H12 (Ex.refl H12) _ fun H13 e13 => ?_
        refine eu_tup (ea_cons (ev_var rfl) (ea_cons (ev_var rfl) ea_nil)) (by show 2 ≤ 100000; decide) H13 (Ex.refl H13) _ fun b H14 nb e14 hb => ?_
        have h14 := (h12.ex e13).ex e14
        refine ⟨_, _, rfl, .inr ⟨pT W.prs, kP (a, W.n), b, h14.ob .pairs, rfl, hb, sz_lt (by rw [pT_len]; exact Nat.lt_of_le_of_lt plen (by decide)), rfl⟩, ?_⟩
        rw [pT_put]
        refine k _ _ ((st.to ((e12.trans e13).trans e14)).trans (h14.putPairs (nd_addP h9.wf.pn) fun q hq => ?_))
        rcases mem_addP.mp hq with z | z
        · exact h9.wf.pl q z
        · rw [z]
          exact ⟨by show a < W.n + 1; omega, by show W.n < W.n + 1; omega⟩
end
end HD
set_option Elab.async false
set_option linter.all false
set_option maxRecDepth 100000
set_option maxHeartbeats 4000000
/-! Actions; the law's perform and do. -/
namespace HD
open PySem PySem.Spec PyProof.Rows L2 Evl
inductive Act where
  | create (ow : Option Nat) (f : Bool)
  | refer (a b : Nat)
  | clear (a b : Nat)
  | hold (a : Nat)
  | drop (a : Nat)
  | collect (k : Nat)
  | force (l : Nat)
def Act.word : Act → Str
  | .create _ _ => "create"
  | .refer _ _ => "refer"
  | .clear _ _ => "clear"
  | .hold _ => "hold"
  | .drop _ => "drop"
  | .collect _ => "collect"
  | .force _ => "force"
def Act.rest : Act → List V
  | .create ow f => [oV ow, .bl f]
  | .refer a b => [nV a, nV b]
  | .clear a b => [nV a, nV b]
  | .hold a => [nV a]
  | .drop a => [nV a]
  | .collect k => [nV k]
  | .force l => [nV l]
def ActAt (H : Hp) (p : Addr) (a : Act) : Prop := H p = some (.tup (.str a.word :: a.rest))
section
variable {K : PySem.W.Frag} {H : Hp} {σ : L2.St} {D : Ends} {tz : TS}
theorem Act.cut (a : Act) : ¬ (HT.sIx (V.str a.word :: a.rest).length 0 (some 1) = 0 ∧ HT.sIx (V.str a.word :: a.rest).length (V.str a.word :: a.rest).length none = (V.str a.word :: a.rest).length) ∧ cutV (V.str a.word :: a.rest) (some 1) none = a.rest := by
  cases a <;> exact ⟨fun z => absurd z.1 (by first | (show ¬ (HT.sIx 3 0 (some 1) = 0); decide) | (show ¬ (HT.sIx 2 0 (some 1) = 0); decide)), rfl⟩
/-- word, rest = (action[0], action[1:]) -/
theorem q_head {p : Addr} {a : Act} (h : ActAt H p a) (s1 : σ[1]? = some (some (.ref p))) (k : ∀ r H1, H r = none → Ex H H1 → H1 r = some (.tup a.rest) → tz D ((σ.set 2 (some (.str a.word))).set 3 (some (.ref r))) H1) :
    tSeq (tPar 2 3 (tCons (tOp (rIxT K) (tVar 1) (tC (.int 0))) (tCons (tSl (rSlT K) (tVar 1) (tPart (tC (.int 1))) tNoPart) tNil))) tz D σ H := by
  have ev : Ev (tOp (rIxT K) (tVar 1) (tC (.int 0))) σ H (.str a.word) := ev_op (ev_var s1) ev_c (rv_ixT (st_of h) (atI_nat (j := 0) rfl))
  refine ev H (Ex.refl H) _ fun H1 e1 => ⟨.ref p, s1, 1, rfl, p, _, rfl, st_of (e1 _ _ h), a.cut.1, fun r nr => ⟨_, _, rfl, ?_⟩⟩
  rw [a.cut.2]
  exact k r _ (fresh_back e1 nr) (e1.trans (Ex.new nr)) upd_same
end
theorem q_put1 {σ : L2.St} {H : Hp} {td ty tv : TE} {D : Ends} {tz : TS} {a : Addr} {kvs : List (L2.Key × V)} {k : L2.Key} {v : V} (hw : Ev tv σ H v) (h : Ev td σ H (.ref a)) (ha : H a = some (.dK kvs)) (hy : Ev ty σ H (kV k)) (hl : kvs.length < 100000) (q : ∀ H1, Ex H H1 → tz D σ (upd H1 a (.dK (putK kvs k v)))) : tSeq (sDPut td ty tv) tz D σ H :=
  u_seq (q_put (D := { D with nx := tz D }) hw h ha hy hl q)
theorem q_skip {x y : Str} {σ : L2.St} {H : Hp} {D : Ends} {tu tw : TS} (s2 : σ[2]? = some (some (.str x))) (hne : decide (V.str x = V.str y) = false) (k : ∀ H1, Ex H H1 → tw D σ H1) : tIfS (tTest (tOp rEq (tVar 2) (tC (.str y)))) tu tw D σ H :=
  s_if (b := false) (et_is (et_test (ev_op (ev_var s2) ev_c (rv_eq rfl))) hne) (fun q => nomatch q) fun _ H1 e1 => k H1 e1
theorem q_take {x : Str} {σ : L2.St} {H : Hp} {D : Ends} {tu tw : TS} (s2 : σ[2]? = some (some (.str x))) (k : ∀ H1, Ex H H1 → tu D σ H1) : tIfS (tTest (tOp rEq (tVar 2) (tC (.str x)))) tu tw D σ H :=
  s_if (b := true) (et_is (et_test (ev_op (ev_var s2) ev_c (rv_eq rfl))) (decide_eq_true rfl)) (fun _ H1 e1 => k H1 e1) fun q => nomatch q
/-- one numbered collection of the world -/
def WTick (W W' : WS) : Prop := ∃ g go wi pr, WRan { W with time := W.time + 1 } (lvl W.ps (W.time + 1)) g go wi pr ∧ W' = { W with time := W.time + 1, gen := g, gone := go, will := wi, prs := pr }
inductive WTicks : Nat → WS → WS → Prop where
  | zero {W : WS} : WTicks 0 W W
  | succ {k : Nat} {W W1 W2 : WS} (h : WTicks k W W1) (t : WTick W1 W2) : WTicks (k + 1) W W2
theorem WTicks.same {k : Nat} {W W' : WS} (h : WTicks k W W') : W'.time = W.time + k ∧ W'.ps = W.ps ∧ W'.n = W.n := by
  induction h with
  | zero => exact ⟨rfl, rfl, rfl⟩
  | succ h t ih =>
    obtain ⟨g, go, wi, pr, _, rfl⟩ := t
    obtain ⟨a, b, c⟩ := ih
    exact ⟨by show _ + 1 = _; rw [a]; rfl, b, c⟩
def WS.alive (W : WS) (i : Nat) : Prop := i < W.n ∧ W.death i = none
/-- an action that may be done -/
def WS.Ok (W : WS) : Act → Prop
  | .create ow _ => W.n ≤ 13 ∧ ∀ a, ow = some a → W.alive a
  | .refer a b => W.alive a ∧ W.alive b
  | .clear a b => (a, b) ∈ W.prs ∧ W.alive a
  | .hold a => W.alive a
  | .drop a => a ∈ W.roots
  | .collect k => 1 ≤ k ∧ k ≤ 9
  | .force l => l < W.ps.length
def WS.cutP (W : WS) (a b : Nat) : WS := { W with prs := delP W.prs (a, b) }
def WS.dropped (W : WS) (a : Nat) : WS := { W with roots := delK W.roots a }
/-- what an action does to the world -/
def WAct (W : WS) : Act → WS → Prop
  | .create ow f, W' => W' = W.made ow f
  | .refer a b, W' => W' = { W with prs := addP W.prs (a, b) }
  | .clear a b, W' => ∃ d, WSettled (W.cutP a b) d ∧ W' = { W.cutP a b with death := d }
  | .hold a, W' => W' = { W with roots := addK W.roots a }
  | .drop a, W' => ∃ d, WSettled (W.dropped a) d ∧ W' = { W.dropped a with death := d }
  | .collect k, W' => WTicks k W W'
  | .force l, W' => ∃ g go wi pr, WRan W l g go wi pr ∧ W' = { W with gen := fun i => max (min (l + 1) (lastOf W.ps)) (g i), gone := go, will := wi, prs := pr }
section
variable {P : Program} {w : World} {K : PySem.W.Frag} {mg : Str → Option Value} {base : Heap}
theorem sc_Lperform : FnScope ["_law_world_here", "_law_action", "_law_word", "_law_rest", "_law_turn", "_law_least", "_law_generation_here"] ["_law_world_here", "_law_action"] (defScope s_Lperform) := ⟨rfl, rfl, rfl, by decide +kernel, rfl, by decide +kernel, by decide +kernel⟩
def sp_Lperform : Sp := fun vs H Q _ => ∃ B W p a, vs = [.ref (B.at_ .dict), .ref p] ∧ WorldAt H B W ∧ ActAt H p a ∧ W.Ok a ∧ Ch W.ps ∧ W.time + 9 < 2 ^ 300 ∧ ∀ H' B' W', WStep H H' B B' W W' → WAct W a W' → Q .non H'
theorem ok_Lperform (T : TX K mg) : Glob P w K mg base 4 "_law_perform" ["_law_world_here", "_law_action"] sp_Lperform := by
  have SC := sc_Lperform
  refine glob_mk (F_Lperform T) (g_Lperform T) sc_Lperform (fun _ _ _ _ _ _ us hl => match us, hl with | [_, _], _ => rfl) (fun vs H Q E h => ?_) (fun cdv A outer s H vs Q E hr h => ?_)
  · obtain ⟨B, W, p, a, rfl, _⟩ := h
    rfl
  · obtain ⟨B, W, p, a, rfl, h, ha, ok, ch, tb, k⟩ := h
    have hu := hu_of hr
    refine ⟨_, (pss_cons (ps_par (i := 2) (j := 3) (by rfl) SC.nd rfl rfl (by decide) rfl rfl (pa_cons (kixT (K := K) (pv 1) pe_int) (pa_cons (pe_slice sl_tup (pv 1) (po_some pe_int) po_none) pa_nil)) (by rfl))
    (pss_cons (ps_if (pt_cmpR op_eq (pv 2) pe_str (nomark _))
      (pss_one (ps_expr (pg_call (ok_Lcreate T) hr (by decide) rfl (pa_cons (pv 0) (pa_cons (kixT (K := K) (pv 3) pe_int) (pa_cons (kixT (K := K) (pv 3) pe_int) pa_nil))))))
      (pss_one (ps_if (pt_cmpR op_eq (pv 2) pe_str (nomark _))
      (pss_one (ps_dput hu (pe_dget hu (pv 0) pe_str (fun _ _ => rfl)) (pe_tup (pa_cons (kixT (K := K) (pv 3) pe_int) (pa_cons (kixT (K := K) (pv 3) pe_int) pa_nil))) pe_bl rfl))
      (pss_one (ps_if (pt_cmpR op_eq (pv 2) pe_str (nomark _))
      (pss_one (ps_expr (pe_dpopT hu (pe_dget hu (pv 0) pe_str (fun _ _ => rfl)) (pe_tup (pa_cons (kixT (K := K) (pv 3) pe_int) (pa_cons (kixT (K := K) (pv 3) pe_int) pa_nil))) ⟨by rfl, by rfl, by rfl, by rfl⟩)))
      (pss_one (ps_if (pt_cmpR op_eq (pv 2) pe_str (nomark _))
      (pss_one (ps_dput hu (pe_dget hu (pv 0) pe_str (fun _ _ => rfl)) (kixT (K := K) (pv 3) pe_int) pe_bl rfl))
      (pss_one (ps_if (pt_cmpR op_eq (pv 2) pe_str (nomark _))
      (pss_one (ps_expr (pe_dpop1 (pe_dget hu (pv 0) pe_str (fun _ _ => rfl)) (kixT (K := K) (pv 3) pe_int) ⟨by rfl, by rfl, by rfl, by rfl⟩)))
      (pss_one (ps_if (pt_cmpR op_eq (pv 2) pe_str (nomark _))
      (pss_one (ps_for PassesOwn.never rfl (pi_range1 rfl (b_range T) (pa_cons (kixT (K := K) (pv 3) pe_int) pa_nil)) (pg_name (i := 4) SC.nd rfl (Or.inl rfl))
      (pss_cons (ps_dput hu (pv 0) pe_str (pe_op op_add (pe_dget hu (pv 0) pe_str (fun _ _ => rfl)) pe_int) rfl)
    (pss_one (ps_expr (pg_call (ok_Lrun T) hr (by decide) rfl (pa_cons (pv 0) (pa_cons (pg_call (ok_Llevel T) hr (by decide) rfl (pa_cons (pe_dget hu (pv 0) pe_str (fun _ _ => rfl)) (pa_cons (pe_dget hu (pv 0) pe_str (fun _ _ => rfl)) pa_nil))) (pa_cons pe_str pa_nil)))))))))
      (pss_cons (ps_expr (pg_call (ok_Lrun T) hr (by decide) rfl (pa_cons (pv 0) (pa_cons (kixT (K := K) (pv 3) pe_int) (pa_cons pe_str pa_nil)))))
    (pss_cons (ps_set (i := 5) SC.nd rfl (Or.inr rfl) (pe_callB (call_min2 rfl) rfl (b_min T) (by decide +kernel) (pa_cons (pe_op op_add (kixT (K := K) (pv 3) pe_int) pe_int) (pa_cons (pe_op op_sub (klen (K := K) rfl (b_len T) (pa_cons (pe_dget hu (pv 0) pe_str (fun _ _ => rfl)) pa_nil)) pe_int) pa_nil))))
    (pss_one (ps_dput hu (pv 0) pe_str (pe_lc (own := [("_law_generation_here", 6)]) rfl SC.nd (pi_list (pe_dget hu (pv 0) pe_str (fun _ _ => rfl))) (blkOk_by (own := [("_law_generation_here", 6)]) (N := ["_law_world_here", "_law_action", "_law_word", "_law_rest", "_law_turn", "_law_least", "_law_generation_here"]) (sc := defScope s_Lperform) (by decide +kernel)) (fun _ _ _ _ _ => (pg_name (i := 6) SC.nd rfl (Or.inl rfl))) (fun _ _ _ _ _ => pts_nil) (fun _ _ _ _ _ => (pe_callB (call_max2 rfl) rfl (b_max T) (by decide +kernel) (pa_cons (pv 5) (pa_cons (pv 6) pa_nil))))) rfl)))))))))))))))
    (pss_one (ps_if (ktin (K := K) (pv 2) (pe_tup (pa_cons pe_str (pa_cons pe_str pa_nil))))
      (pss_one (ps_expr (pg_call (ok_Lsettle T) hr (by decide) rfl (pa_cons (pv 0) pa_nil))))
      pss_nil)))), ?_⟩
    have n60 := h.wf.n60
    refine q_head (K := K) ha rfl fun r H1 nr e1 hr1 => ?_
    have h1 := h.ex e1
    have nor := h.notOwn nr
    show tSeq _ _ _ [some (.ref (B.at_ .dict)), some (.ref p), some (.str a.word), some (.ref r), none, none, none] H1
    -- no settle
    have fin0 : ∀ (x0 x1 x3 x4 x5 x6 : Option V) (H' : Hp), inV (.str a.word) [.str "clear", .str "drop"] = false → (∀ H'', Ex H' H'' → Q .non H'') →
        tIfS (tTest (tOp (rIn K false) (tVar 2) (tTup (tCons (tC (.str "clear")) (tCons (tC (.str "drop")) tNil))))) (tDrop (tCall sp_Lsettle [] E0 (tCons (tVar 0) tNil))) tNext { nx := fun _ H' => Q .non H', rt := Q } [x0, x1, some (.str a.word), x3, x4, x5, x6] H' := fun x0 x1 x3 x4 x5 x6 H' hf kk =>
      s_when (b := false) (et_is (et_test (ev_inU (ev_var rfl) (eu_tup (ea_cons ev_c (ea_cons ev_c ea_nil)) (by show 2 ≤ 100000; decide)) rfl rfl)) hf) (fun q => nomatch q) fun _ H'' e => kk H'' e
    -- a settle
    have fin1 : ∀ (x1 x3 x4 x5 x6 : Option V) (H' : Hp) (W1 : WS), inV (.str a.word) [.str "clear", .str "drop"] = true → WorldAt H' B W1 → (∀ H'' d, WStep H' H'' B B W1 { W1 with death := d } → WSettled W1 d → Q .non H'') →
        tIfS (tTest (tOp (rIn K false) (tVar 2) (tTup (tCons (tC (.str "clear")) (tCons (tC (.str "drop")) tNil))))) (tDrop (tCall sp_Lsettle [] E0 (tCons (tVar 0) tNil))) tNext { nx := fun _ H' => Q .non H', rt := Q } [some (.ref (B.at_ .dict)), x1, some (.str a.word), x3, x4, x5, x6] H' := fun x1 x3 x4 x5 x6 H' W1 hf hW kk =>
      s_when (b := true) (et_is (et_test (ev_inU (ev_var rfl) (eu_tup (ea_cons ev_c (ea_cons ev_c ea_nil)) (by show 2 ≤ 100000; decide)) rfl rfl)) hf) (fun _ H'' e => by
        have ev : EvA (tCons (tVar 0) tNil) [some (.ref (B.at_ .dict)), x1, some (.str a.word), x3, x4, x5, x6] H'' [.ref (B.at_ .dict)] := ea_cons (ev_var rfl) ea_nil
        refine u_drop ?_
        refine ev H'' (Ex.refl _) _ fun H3 e3 => ?_
        exact ⟨B, W1, rfl, hW.ex (e.trans e3), fun H4 d st s => kk H4 d ((WStep.ex hW (e.trans e3)).trans st) s⟩) fun q => nomatch q
    refine u_seq ?_
    have r0 : ∀ {σ : L2.St} {H' : Hp} {x : V} {y : List V}, σ[3]? = some (some (.ref r)) → H' r = some (.tup (x :: y)) → Ev (tOp (rIxT K) (tVar 3) (tC (.int 0))) σ H' x := fun s h => ev_op (ev_var s) ev_c (rv_ixT (st_of h) (atI_nat (j := 0) rfl))
    have r1 : ∀ {σ : L2.St} {H' : Hp} {x z : V} {y : List V}, σ[3]? = some (some (.ref r)) → H' r = some (.tup (x :: z :: y)) → Ev (tOp (rIxT K) (tVar 3) (tC (.int 1))) σ H' z := fun s h => ev_op (ev_var s) ev_c (rv_ixT (st_of h) (atI_nat (j := 1) rfl))
    have plen : W.prs.length ≤ 60 * 60 := Nat.le_trans (ndP_len h.wf.pn h.wf.pl) (Nat.mul_le_mul n60 n60)
    have rlen : W.roots.length ≤ W.n := nd_len h.wf.rn h.wf.rl
    cases a with
    | create ow f =>
      refine q_take rfl fun H2 e2 => ?_
      obtain ⟨o1, o2⟩ := ok
      have h2 := h1.ex e2
      have ev : EvA (tCons (tVar 0) (tCons (tOp (rIxT K) (tVar 3) (tC (.int 0))) (tCons (tOp (rIxT K) (tVar 3) (tC (.int 1))) tNil))) [some (.ref (B.at_ .dict)), some (.ref p), some (.str "create"), some (.ref r), none, none, none] H2 [.ref (B.at_ .dict), oV ow, .bl f] := ea_cons (ev_var rfl) (ea_cons (r0 rfl (e2 _ _ hr1)) (ea_cons (r1 rfl (e2 _ _ hr1)) ea_nil))
      refine u_drop ?_
      refine ev H2 (Ex.refl _) _ fun H3 e3 => ?_
      refine ⟨B, W, ow, f, rfl, h2.ex e3, fun a ha => (o2 a ha).1, o1, fun H4 B4 st4 => ?_⟩
      exact fin0 _ _ _ _ _ _ H4 (by show inV (V.str ("create" : Str)) _ = _; decide +kernel) fun H5 e5 => k H5 B4 _ (((WStep.ex h ((e1.trans e2).trans e3)).trans st4).to e5) rfl
    | refer a b =>
      refine q_skip rfl (by show decide (V.str ("refer" : Str) = _) = false; decide +kernel) fun H2 e2 => ?_
      refine q_take rfl fun H3 e3 => ?_
      have h3 := (h1.ex e2).ex e3
      have hr3 := e3 _ _ (e2 _ _ hr1)
      refine u_dput ?_
      refine ew_pairs h3 (ta := tVar 0) (σ := [some (.ref (B.at_ .dict)), some (.ref p), some (.str "refer"), some (.ref r), none, none, none]) (ev_var rfl) H3 (Ex.refl H3) _ fun H4 e4 => ?_
      refine eu_tup (ea_cons (r0 rfl (e4 _ _ hr3)) (ea_cons (r1 rfl (e4 _ _ hr3)) ea_nil)) (by show 2 ≤ 100000; decide) H4 (Ex.refl H4) _ fun b5 H5 nb e5 hb => ?_
      have h5 := (h3.ex e4).ex e5
      refine ⟨_, _, rfl, .inr ⟨pT W.prs, kP (a, b), b5, h5.ob .pairs, rfl, hb, sz_lt (by rw [pT_len]; exact Nat.lt_of_le_of_lt plen (by decide)), rfl⟩, ?_⟩
      rw [pT_put]
      have st := (WStep.ex h ((((e1.trans e2).trans e3).trans e4).trans e5)).trans (h5.putPairs (nd_addP (k := (a, b)) h.wf.pn) fun q hq => ?_)
      · exact fin0 _ _ _ _ _ _ _ (by show inV (V.str ("refer" : Str)) _ = _; decide +kernel) fun H6 e6 => k H6 B _ (st.to e6) rfl
      · rcases mem_addP.mp hq with z | z
        · exact h.wf.pl q z
        · rw [z]
          exact ⟨ok.1.1, ok.2.1⟩
    | clear a b =>
      refine q_skip rfl (by show decide (V.str ("clear" : Str) = _) = false; decide +kernel) fun H2 e2 => ?_
      refine q_skip rfl (by show decide (V.str ("clear" : Str) = _) = false; decide +kernel) fun H2' e2' => ?_
      refine q_take rfl fun H3 e3 => ?_
      have h3 := ((h1.ex e2).ex e2').ex e3
      have hr3 := e3 _ _ (e2' _ _ (e2 _ _ hr1))
      refine u_drop ?_
      refine ew_pairs h3 (ta := tVar 0) (σ := [some (.ref (B.at_ .dict)), some (.ref p), some (.str "clear"), some (.ref r), none, none, none]) (ev_var rfl) H3 (Ex.refl H3) _ fun H4 e4 => ?_
      have h4 := h3.ex e4
      refine ⟨_, rfl, .inr ⟨_, .inl (h4.ob .pairs)⟩, ?_⟩
      refine eu_tup (ea_cons (r0 rfl (e4 _ _ hr3)) (ea_cons (r1 rfl (e4 _ _ hr3)) ea_nil)) (by show 2 ≤ 100000; decide) H4 (Ex.refl H4) _ fun b5 H5 nb e5 hb => ?_
      have h5 := h4.ex e5
      refine ⟨pT W.prs, kP (a, b), b5, .bl true, h5.ob .pairs, rfl, hb, by rw [pT_val, if_pos ok.1], ?_⟩
      rw [pT_drop]
      have st := (WStep.ex h (((((e1.trans e2).trans e2').trans e3).trans e4).trans e5)).trans (h5.putPairs (nd_delP (k := (a, b)) h.wf.pn) fun q hq => h.wf.pl q (mem_delP.mp hq).1)
      exact fin1 _ _ _ _ _ _ (W.cutP a b) (by show inV (V.str ("clear" : Str)) _ = _; decide +kernel) st.ha fun H6 d st6 s6 => k H6 B _ (st.trans st6) ⟨d, s6, rfl⟩
    | hold a =>
      refine q_skip rfl (by show decide (V.str ("hold" : Str) = _) = false; decide +kernel) fun H2 e2 => ?_
      refine q_skip rfl (by show decide (V.str ("hold" : Str) = _) = false; decide +kernel) fun H2' e2' => ?_
      refine q_skip rfl (by show decide (V.str ("hold" : Str) = _) = false; decide +kernel) fun H2'' e2'' => ?_
      refine q_take rfl fun H3 e3 => ?_
      have e03 := ((e2.trans e2').trans e2'').trans e3
      have h3 := h1.ex e03
      refine q_put (k := Sum.inl (a : Int)) ev_c (ew_roots h3 (ev_var rfl)) (h3.ob .roots) (r0 rfl (e03 _ _ hr1)) (by rw [kD_len]; omega) fun H4 e4 => ?_
      rw [kD_put]
      have st := (WStep.ex h ((e1.trans e03).trans e4)).trans ((h3.ex e4).putRoots (nd_addK (k := a) h.wf.rn) (lt_addK h.wf.rl ok.1))
      exact fin0 _ _ _ _ _ _ _ (by show inV (V.str ("hold" : Str)) _ = _; decide +kernel) fun H6 e6 => k H6 B _ (st.to e6) rfl
    | drop a =>
      refine q_skip rfl (by show decide (V.str ("drop" : Str) = _) = false; decide +kernel) fun H2 e2 => ?_
      refine q_skip rfl (by show decide (V.str ("drop" : Str) = _) = false; decide +kernel) fun H2' e2' => ?_
      refine q_skip rfl (by show decide (V.str ("drop" : Str) = _) = false; decide +kernel) fun H2'' e2'' => ?_
      refine q_skip rfl (by show decide (V.str ("drop" : Str) = _) = false; decide +kernel) fun H2a e2a => ?_
      refine q_take rfl fun H3 e3 => ?_
      have e03 := (((e2.trans e2').trans e2'').trans e2a).trans e3
      have h3 := h1.ex e03
      refine q_pop (k := Sum.inl (a : Int)) (ew_roots h3 (ev_var rfl)) (h3.ob .roots) (r0 rfl (e03 _ _ hr1)) (by rw [kD_val, if_pos (show a ∈ W.roots from ok)]) fun H4 e4 => ?_
      rw [kD_drop]
      have st := (WStep.ex h ((e1.trans e03).trans e4)).trans ((h3.ex e4).putRoots (nd_delK (k := a) h.wf.rn) (lt_delK h.wf.rl))
      exact fin1 _ _ _ _ _ _ (W.dropped a) (by show inV (V.str ("drop" : Str)) _ = _; decide +kernel) st.ha fun H6 d st6 s6 => k H6 B _ (st.trans st6) ⟨d, s6, rfl⟩
    | collect m =>
      have wne : ∀ y : Str, decide (V.str ("collect" : Str) = V.str y) = false → decide (V.str (Act.collect m).word = V.str y) = false := fun y h => h
      refine q_skip rfl (wne _ (by decide +kernel)) fun H2 e2 => ?_
      refine q_skip rfl (wne _ (by decide +kernel)) fun H2a e2a => ?_
      refine q_skip rfl (wne _ (by decide +kernel)) fun H2b e2b => ?_
      refine q_skip rfl (wne _ (by decide +kernel)) fun H2c e2c => ?_
      refine q_skip rfl (wne _ (by decide +kernel)) fun H2d e2d => ?_
      refine q_take rfl fun H3 e3 => ?_
      have e03 := ((((e2.trans e2a).trans e2b).trans e2c).trans e2d).trans e3
      have h3 := h1.ex e03
      have hr3 := e03 _ _ hr1
      have mm : m ≤ 9 := ok.2
      refine s_forR1 (ea_cons (r0 rfl hr3) ea_nil) (by omega) (fun j σ H' => ∃ B' W' x, σ = [some (.ref (B.at_ .dict)), some (.ref p), some (.str "collect"), some (.ref r), x, none, none] ∧ WStep H3 H' B B' W W' ∧ WTicks j W W')
        (fun H4 e4 => ⟨B, W, none, rfl, WStep.ex h3 e4, .zero⟩) (fun j σ' H' hj q => ?_) (fun σ' H' q => ?_)
      · obtain ⟨B', W', x, rfl, st, tk⟩ := q
        have h4 := st.ha
        obtain ⟨t1, t2, t3⟩ := tk.same
        have dv : ∀ {H9 : Hp} {B9 : WRep} {y : Option V}, B9.at_ .dict = B.at_ .dict → Ev (tVar 0) [some (.ref (B.at_ .dict)), some (.ref p), some (.str "collect"), some (.ref r), y, none, none] H9 (.ref (B9.at_ .dict)) := fun e => by
          rw [e]
          exact ev_var rfl
        show tSeq _ _ _ [some (.ref (B.at_ .dict)), some (.ref p), some (.str "collect"), some (.ref r), some (.int (j : Int)), none, none] H'
        refine q_put1 (k := Sum.inr "time") (v := nV (W'.time + 1)) (ev_op (ew_time h4 (dv st.inst)) ev_c rv_add1) (dv st.inst) (h4.ob .dict) (ev_c (v := .str "time")) (by rw [wD_len]; decide) fun H5 e5 => ?_
        rw [wp_time]
        have tb' : W'.time + 1 < 2 ^ 300 := by
          rw [t1]
          refine Nat.lt_of_le_of_lt ?_ tb
          omega
        have st5 := (st.to e5).trans ((h4.ex e5).putTime tb')
        have h5 := st5.ha
        generalize upd H5 (B'.at_ .dict) (.dK (wD B' (W'.time + 1))) = H6 at st5 h5
        have ev : EvA (tCons (tVar 0) (tCons (tCall (sp_Llevel K) [] E0 (tCons (tDGet (tVar 0) (tC (.str "places"))) (tCons (tDGet (tVar 0) (tC (.str "time"))) tNil))) (tCons (tC (.str "numbered")) tNil))) [some (.ref (B.at_ .dict)), some (.ref p), some (.str "collect"), some (.ref r), some (.int (j : Int)), none, none] H6 [.ref (B'.at_ .dict), nV (lvl W'.ps (W'.time + 1)), .str "numbered"] :=
          ea_cons (dv st5.inst) (ea_cons (ev_call (ea_cons (ew_places h5 (dv st5.inst)) (ea_cons (ew_time h5 (dv st5.inst)) ea_nil)) fun H7 e7 Q7 q7 E7 => ⟨B'.at_ .places, W'.ps, W'.time + 1, rfl, sq_of (e7 _ _ (h5.ob .places)), h5.wf.p, by rw [t2]; exact ch, Nat.le_trans h5.wf.psn (by decide), q7⟩) (ea_cons ev_c ea_nil))
        refine u_drop ?_
        refine ev H6 (Ex.refl _) _ fun H7 e7 => ?_
        refine ⟨B', _, _, _, rfl, h5.ex e7, fun H8 B8 g go wi pr st8 R => ?_⟩
        exact ⟨B8, _, _, rfl, (st5.to e7).trans st8, tk.succ ⟨g, go, wi, pr, R, rfl⟩⟩
      · obtain ⟨B', W', x, rfl, st, tk⟩ := q
        rw [Int.toNat_natCast] at tk
        exact fin0 _ _ _ _ _ _ H' (by show inV (V.str ("collect" : Str)) _ = _; decide +kernel) fun H5 e5 => k H5 B' W' ((WStep.ex h (e1.trans e03)).trans (st.to e5)) tk
    | force l =>
      have wne : ∀ y : Str, decide (V.str ("force" : Str) = V.str y) = false → decide (V.str (Act.force l).word = V.str y) = false := fun y h => h
      refine q_skip rfl (wne _ (by decide +kernel)) fun H2 e2 => ?_
      refine q_skip rfl (wne _ (by decide +kernel)) fun H2a e2a => ?_
      refine q_skip rfl (wne _ (by decide +kernel)) fun H2b e2b => ?_
      refine q_skip rfl (wne _ (by decide +kernel)) fun H2c e2c => ?_
      refine q_skip rfl (wne _ (by decide +kernel)) fun H2d e2d => ?_
      refine q_skip rfl (wne _ (by decide +kernel)) fun H3 e3 => ?_
      have e03 := ((((e2.trans e2a).trans e2b).trans e2c).trans e2d).trans e3
      have h3 := h1.ex e03
      have hr3 := e03 _ _ hr1
      have dv : ∀ {H9 : Hp} {B9 : WRep} {y : Option V}, B9.at_ .dict = B.at_ .dict → Ev (tVar 0) [some (.ref (B.at_ .dict)), some (.ref p), some (.str "force"), some (.ref r), none, y, none] H9 (.ref (B9.at_ .dict)) := fun e => by
        rw [e]
        exact ev_var rfl
      have ev : EvA (tCons (tVar 0) (tCons (tOp (rIxT K) (tVar 3) (tC (.int 0))) (tCons (tC (.str "forced")) tNil))) [some (.ref (B.at_ .dict)), some (.ref p), some (.str "force"), some (.ref r), none, none, none] H3 [.ref (B.at_ .dict), nV l, .str "forced"] :=
        ea_cons (ev_var rfl) (ea_cons (r0 rfl hr3) (ea_cons ev_c ea_nil))
      refine u_seq (u_drop (ev H3 (Ex.refl _) _ fun H4 e4 => ?_))
      refine ⟨B, W, l, _, rfl, h3.ex e4, fun H5 B5 g go wi pr st5 R => ?_⟩
      have h5 := st5.ha
      have hr5 := st5.chg _ _ (e4 _ _ hr3) nor
      show tSeq _ _ _ [some (.ref (B.at_ .dict)), some (.ref p), some (.str "force"), some (.ref r), none, none, none] H5
      have lenp : (W.ps.map fun p => nV p).length = W.ps.length := List.length_map _
      refine q_asg (ev_min2N (ea_cons (ev_op (r0 rfl hr5) ev_c rv_add1) (ea_cons (ev_is (ev_op (ev_len (ew_places h5 (dv st5.inst)) (sq_of (h5.ob .places))) ev_c (rv_sub1 (by show 1 ≤ (W.ps.map fun p => nV p).length; rw [lenp]; exact h.wf.p.len))) (by show nV ((W.ps.map fun p => nV p).length - 1) = nV (lastOf W.ps); rw [lenp]; rfl)) ea_nil))) fun H6 e6 => ?_
      have h6 := h5.ex e6
      show sDPut _ _ _ _ [some (.ref (B.at_ .dict)), some (.ref p), some (.str "force"), some (.ref r), none, some (nV (min (l + 1) (lastOf W.ps))), none] H6
      refine u_dput ?_
      refine el_lcL (fun _ => true) (fun i => nV (max (min (l + 1) (lastOf W.ps)) (g i))) (ew_gens h6 (dv st5.inst)) (sq_of (h6.ob .gens)) (by rw [vl_len]; show W.n ≤ _; omega) (fun _ => rfl) (fun i x H7 e7 hx => EvT.yes (fun H Q q => q) H7) (fun i x H7 e7 hx _ => ?_) H6 (Ex.refl H6) _ fun q7 H7 nq e7 hq => ?_
      · obtain ⟨hi, rfl⟩ := vl_at hx
        exact ev_max2N (ea_cons (ev_var rfl) (ea_cons (ev_var rfl) ea_nil))
      rw [vl_len, given_all] at hq
      refine (dv st5.inst : Ev (tVar 0) _ H7 _) H7 (Ex.refl H7) _ fun H8 e8 => ?_
      have h8 := (h6.ex e7).ex e8
      refine ⟨_, _, rfl, DPut.k (k := Sum.inr "gens") (h8.ob .dict) (sz_lt (by rw [wD_len]; decide)), ?_⟩
      rw [wp_gens]
      have st9 := h6.move (W' := { W with gen := fun i => max (min (l + 1) (lastOf W.ps)) (g i), gone := go, will := wi, prs := pr }) (e7.trans e8) .gens (fun z => nomatch z) nq (e8 _ _ hq) (fun l' hl' => by cases l' <;> first | rfl | exact absurd rfl hl') rfl ⟨h5.wf.p, h5.wf.psn, h5.wf.n60, h5.wf.pn, h5.wf.pl, h5.wf.rn, h5.wf.rl, h5.wf.tb⟩ rfl rfl
      have stF := (WStep.ex h ((e1.trans e03).trans e4)).trans ((st5.to e6).trans st9)
      exact fin0 _ _ _ _ _ _ _ (by show inV (V.str ("force" : Str)) _ = _; decide +kernel) fun H9 e9 => k H9 _ _ (stF.to e9) ⟨g, go, wi, pr, R, rfl⟩
end
end HD
set_option Elab.async false
set_option linter.all false
set_option maxRecDepth 100000
set_option maxHeartbeats 4000000
/-! The law's do. -/
namespace HD
open PySem PySem.Spec PyProof.Rows L2 Evl
/-- an action that may be done to the heap -/
def HS.Ok (S : HS) : Act → Prop
  | .create ow _ => S.n ≤ 13 ∧ ∀ a, ow = some a → S.isLive a
  | .refer a b => S.isLive a ∧ S.isLive b ∧ S.n ≤ 14
  | .clear a b => S.isLive a ∧ S.isLive b ∧ b ∈ S.tg a ∧ a ∈ S.sr b
  | .hold a => S.isLive a
  | .drop a => S.isLive a ∧ a ∈ S.roots
  | .collect k => 1 ≤ k ∧ k ≤ 9
  | .force l => l < S.ps.length
/-- what an action does to the heap -/
def HAct (S : HS) : Act → HS → Prop
  | .create ow f, S' => S' = (S.made ow f).noted
  | .refer a b, S' => S' = (S.joined a b).noted
  | .clear a b, S' => ∃ d r, Settled (S.parted a b).noted d r ∧ S' = { (S.parted a b).noted with death := d, rank := r }
  | .hold a, S' => S' = { S with roots := addK S.roots a, nd := S.nd + 1 }
  | .drop a, S' => ∃ d r, Settled (S.dropped a) d r ∧ S' = { S.dropped a with death := d, rank := r }
  | .collect k, S' => ∃ S1, Ticks k S S1 ∧ S' = S1.noted
  | .force l, S' => ∃ pe rk fr t r, Ran S l pe rk fr t r ∧ S' = (HS.lift { S with pend := pe, rank := rk, freed := fr, tg := t, sr := r } l).noted
theorem u_nil {σ : L2.St} {H : Hp} {Q : List V → Hp → Prop} (h : Q [] H) : tNil σ H Q := h
section
variable {P : Program} {w : World} {K : PySem.W.Frag} {mg : Str → Option Value} {base : Heap}
theorem sc_Ldo : FnScope ["_law_heap", "_law_action", "_law_word", "_law_rest"] ["_law_heap", "_law_action"] (defScope s_Ldo) := ⟨rfl, rfl, rfl, by decide +kernel, rfl, by decide +kernel, by decide +kernel⟩
def sp_Ldo (K : PySem.W.Frag) : Sp := fun vs H Q _ => ∃ A S p a, vs = [.ref (A.at_ .inst), .ref p] ∧ HeapAt K H A S ∧ ActAt H p a ∧ S.Ok a ∧ S.Good ∧ S.nd < 400 ∧ S.time + 9 < 2 ^ 300 ∧ ∀ H' A' S' v, Step K H H' A A' S S' → HAct S a S' → Q v H'
theorem ok_Ldo (T : TX K mg) : Glob P w K mg base 6 "_law_do" ["_law_heap", "_law_action"] (sp_Ldo K) := by
  have SC := sc_Ldo
  refine glob_mk (F_Ldo T) (g_Ldo T) sc_Ldo (fun _ _ _ _ _ _ us hl => match us, hl with | [_, _], _ => rfl) (fun vs H Q E h => ?_) (fun cdv A outer s H vs Q E hr h => ?_)
  · obtain ⟨A, S, p, a, rfl, _⟩ := h
    rfl
  · obtain ⟨A, S, p, a, rfl, h, ha, ok, g, hd, tb, k⟩ := h
    obtain ⟨cf, cfd, cF, cm, ⟨g1, b1⟩, ⟨g2, b2⟩, _⟩ := ok_H_create (P := P) (w := w) (base := base) T
    refine ⟨_, (pss_cons (ps_par (i := 2) (j := 3) (by rfl) SC.nd rfl rfl (by decide) rfl rfl (pa_cons (kixT (K := K) (pv 1) pe_int) (pa_cons (pe_slice sl_tup (pv 1) (po_some pe_int) po_none) pa_nil)) (by rfl))
    (pss_cons (ps_if (pt_cmpR op_eq (pv 2) pe_str (nomark _))
      (pss_cons (ps_if (pt_cmp (pc_isN (kixT (K := K) (pv 3) pe_int)))
      (pss_one (ps_ret (pe_methN0 (pv 0) (cls_H T) cm cF (hr.mono (by decide)) b1 pass0 (pk_cons (kixT (K := K) (pv 3) pe_int) pk_nil))))
      pss_nil)
    (pss_one (ps_ret (pe_methN (pv 0) (cls_H T) cm cF (hr.mono (by decide)) b2 pass0 (pa_cons (kixT (K := K) (pv 3) pe_int) pa_nil) (pk_cons (kixT (K := K) (pv 3) pe_int) pk_nil)))))
      pss_nil)
    (pss_cons (ps_if (pt_cmpR op_eq (pv 2) pe_str (nomark _))
      (pss_one (ps_ret (pm_call (ok_H_refer T) (cls_H T) hr (by decide) (pv 0) (pa_cons (kixT (K := K) (pv 3) pe_int) (pa_cons (kixT (K := K) (pv 3) pe_int) pa_nil)))))
      pss_nil)
    (pss_cons (ps_if (pt_cmpR op_eq (pv 2) pe_str (nomark _))
      (pss_one (ps_ret (pm_call (ok_H_clear T) (cls_H T) hr (by decide) (pv 0) (pa_cons (kixT (K := K) (pv 3) pe_int) (pa_cons (kixT (K := K) (pv 3) pe_int) pa_nil)))))
      pss_nil)
    (pss_cons (ps_if (pt_cmpR op_eq (pv 2) pe_str (nomark _))
      (pss_one (ps_ret (pm_call (ok_H_hold T) (cls_H T) hr (by decide) (pv 0) (pa_cons (kixT (K := K) (pv 3) pe_int) pa_nil))))
      pss_nil)
    (pss_cons (ps_if (pt_cmpR op_eq (pv 2) pe_str (nomark _))
      (pss_one (ps_ret (pm_call (ok_H_drop T) (cls_H T) hr (by decide) (pv 0) (pa_cons (kixT (K := K) (pv 3) pe_int) pa_nil))))
      pss_nil)
    (pss_cons (ps_if (pt_cmpR op_eq (pv 2) pe_str (nomark _))
      (pss_one (ps_ret (pm_call (ok_H_collect T) (cls_H T) hr (by decide) (pv 0) (pa_cons (kixT (K := K) (pv 3) pe_int) pa_nil))))
      pss_nil)
    (pss_one (ps_ret (pm_call (ok_H_force T) (cls_H T) hr (by decide) (pv 0) (pa_cons (kixT (K := K) (pv 3) pe_int) pa_nil))))))))))), ?_⟩
    refine q_head (K := K) ha rfl fun r H1 nr e1 hr1 => ?_
    have h1 := h.ex e1
    show tSeq _ _ _ [some (.ref (A.at_ .inst)), some (.ref p), some (.str a.word), some (.ref r)] H1
    have r0 : ∀ {σ : L2.St} {H' : Hp} {x : V} {y : List V}, σ[3]? = some (some (.ref r)) → H' r = some (.tup (x :: y)) → Ev (tOp (rIxT K) (tVar 3) (tC (.int 0))) σ H' x := fun s h => ev_op (ev_var s) ev_c (rv_ixT (st_of h) (atI_nat (j := 0) rfl))
    have r1 : ∀ {σ : L2.St} {H' : Hp} {x z : V} {y : List V}, σ[3]? = some (some (.ref r)) → H' r = some (.tup (x :: z :: y)) → Ev (tOp (rIxT K) (tVar 3) (tC (.int 1))) σ H' z := fun s h => ev_op (ev_var s) ev_c (rv_ixT (st_of h) (atI_nat (j := 1) rfl))
    -- a test that fails, one that holds
    have skip : ∀ {x y : Str} {tu tz : TS} {D : Ends} {H2 : Hp}, decide (V.str x = V.str y) = false → (∀ H3, Ex H2 H3 → tz D [some (.ref (A.at_ .inst)), some (.ref p), some (.str x), some (.ref r)] H3) → tSeq (tIfS (tTest (tOp rEq (tVar 2) (tC (.str y)))) tu tNext) tz D [some (.ref (A.at_ .inst)), some (.ref p), some (.str x), some (.ref r)] H2 := fun hne kk =>
      q_when (b := false) (et_is (et_test (ev_op (ev_var rfl) ev_c (rv_eq rfl))) hne) (fun q => nomatch q) fun _ H3 e3 => kk H3 e3
    have take : ∀ {x : Str} {tu tz : TS} {D : Ends} {H2 : Hp}, (∀ H3, Ex H2 H3 → tu { D with nx := tz D } [some (.ref (A.at_ .inst)), some (.ref p), some (.str x), some (.ref r)] H3) → tSeq (tIfS (tTest (tOp rEq (tVar 2) (tC (.str x)))) tu tNext) tz D [some (.ref (A.at_ .inst)), some (.ref p), some (.str x), some (.ref r)] H2 := fun kk =>
      q_when (b := true) (et_is (et_test (ev_op (ev_var rfl) ev_c (rv_eq rfl))) (decide_eq_true rfl)) (fun _ H3 e3 => kk H3 e3) fun q => nomatch q
    -- a method call
    have meth : ∀ {m : Str} {sp : Sp} {ts : TA} {us : List V} {a : Act} {H2 : Hp} {D : Ends}, (hpF A S.time).lookup m = none → Ex H1 H2 → EvA ts [some (.ref (A.at_ .inst)), some (.ref p), some (.str a.word), some (.ref r)] H2 us → (∀ H3, Ex H2 H3 → sp (.ref (A.at_ .inst) :: us) H3 D.rt E0) →
        tRet (tMeth (CH K) m sp [] E0 (tVar 0) ts) D [some (.ref (A.at_ .inst)), some (.ref p), some (.str a.word), some (.ref r)] H2 := fun hl e ev kk => by
      refine u_ret ?_
      refine ev_var (i := 0) rfl _ (Ex.refl _) _ fun H3 e3 => ⟨_, A.dx, _, rfl, e3 _ _ (e _ _ (h1.ob .inst trivial)), hl, (ev.mono e3) H3 (Ex.refl _) _ fun H4 e4 => ?_⟩
      rw [List.append_nil]
      exact kk H4 (e3.trans e4)
    cases a with
    | create ow f =>
      have ok : S.n ≤ 13 ∧ ∀ a, ow = some a → S.isLive a := ok
      refine take fun H3 e3 => ?_
      have hr3 := e3 _ _ hr1
      refine q_when (b := ow.isNone) (et_B (ev_is (ev_isN (r0 rfl hr3)) (congrArg V.bl oV_dec))) (fun hb H4 e4 => ?_) (fun hb H4 e4 => ?_)
      · have hb := Option.isNone_iff_eq_none.mp hb
        subst hb
        have hr4 := e4 _ _ hr3
        have evk : EvA (tCons (tOp (rIxT K) (tVar 3) (tC (.int 1))) tNil) [some (.ref (A.at_ .inst)), some (.ref p), some (.str "create"), some (.ref r)] H4 [.bl f] := ea_cons (r1 rfl hr4) ea_nil
        refine u_ret ?_
        refine ev_var (i := 0) rfl _ (Ex.refl _) _ fun H5 e5 => ⟨_, A.dx, _, rfl, e5 _ _ (e4 _ _ (e3 _ _ (h1.ob .inst trivial))), hm_create A S.time, ?_⟩
        refine u_nil ?_
        refine (evk.mono e5) H5 (Ex.refl _) _ fun H6 e6 => ⟨rfl, rfl, A, S, none, f, rfl, h1.ex (((e3.trans e4).trans e5).trans e6), ok.2, ok.1, hd, fun H7 A7 st => k H7 A7 _ _ ((Step.ex h (e1.trans (((e3.trans e4).trans e5).trans e6))).trans st) rfl⟩
      · cases ow with
        | none => cases hb
        | some a =>
          have hr4 := e4 _ _ hr3
          have evp : EvA (tCons (tOp (rIxT K) (tVar 3) (tC (.int 0))) tNil) [some (.ref (A.at_ .inst)), some (.ref p), some (.str "create"), some (.ref r)] H4 [nV a] := ea_cons (r0 rfl hr4) ea_nil
          have evk : EvA (tCons (tOp (rIxT K) (tVar 3) (tC (.int 1))) tNil) [some (.ref (A.at_ .inst)), some (.ref p), some (.str "create"), some (.ref r)] H4 [.bl f] := ea_cons (r1 rfl hr4) ea_nil
          refine u_ret ?_
          refine ev_var (i := 0) rfl _ (Ex.refl _) _ fun H5 e5 => ⟨_, A.dx, _, rfl, e5 _ _ (e4 _ _ (e3 _ _ (h1.ob .inst trivial))), hm_create A S.time, ?_⟩
          refine (evp.mono e5) H5 (Ex.refl _) _ fun H6 e6 => ?_
          refine (evk.mono (e5.trans e6)) H6 (Ex.refl _) _ fun H7 e7 => ⟨rfl, rfl, A, S, some a, f, rfl, h1.ex ((((e3.trans e4).trans e5).trans e6).trans e7), ok.2, ok.1, hd, fun H8 A8 st => k H8 A8 _ _ ((Step.ex h (e1.trans ((((e3.trans e4).trans e5).trans e6).trans e7))).trans st) rfl⟩
    | refer a b =>
      have ok : S.isLive a ∧ S.isLive b ∧ S.n ≤ 14 := ok
      refine skip (by show decide (V.str ("refer" : Str) = _) = false; decide +kernel) fun H2 e2 => ?_
      refine take fun H3 e3 => ?_
      have e03 := e2.trans e3
      exact meth (a := .refer a b) (hm_refer A S.time) e03 (ea_cons (r0 rfl (e03 _ _ hr1)) (ea_cons (r1 rfl (e03 _ _ hr1)) ea_nil)) fun H4 e4 => ⟨A, S, a, b, rfl, h1.ex (e03.trans e4), ok.1, ok.2.1, ok.2.2, hd, fun H5 A5 st => k H5 A5 _ _ ((Step.ex h (e1.trans (e03.trans e4))).trans st) rfl⟩
    | clear a b =>
      have ok : S.isLive a ∧ S.isLive b ∧ b ∈ S.tg a ∧ a ∈ S.sr b := ok
      refine skip (by show decide (V.str ("clear" : Str) = _) = false; decide +kernel) fun H2 e2 => ?_
      refine skip (by show decide (V.str ("clear" : Str) = _) = false; decide +kernel) fun H2a e2a => ?_
      refine take fun H3 e3 => ?_
      have e03 := (e2.trans e2a).trans e3
      exact meth (a := .clear a b) (hm_clear A S.time) e03 (ea_cons (r0 rfl (e03 _ _ hr1)) (ea_cons (r1 rfl (e03 _ _ hr1)) ea_nil)) fun H4 e4 => ⟨A, S, a, b, rfl, h1.ex (e03.trans e4), ok.1, ok.2.1, ok.2.2.1, ok.2.2.2, hd, fun H5 A5 d r st s => k H5 A5 _ _ ((Step.ex h (e1.trans (e03.trans e4))).trans st) ⟨d, r, s, rfl⟩⟩
    | hold a =>
      refine skip (by show decide (V.str ("hold" : Str) = _) = false; decide +kernel) fun H2 e2 => ?_
      refine skip (by show decide (V.str ("hold" : Str) = _) = false; decide +kernel) fun H2a e2a => ?_
      refine skip (by show decide (V.str ("hold" : Str) = _) = false; decide +kernel) fun H2b e2b => ?_
      refine take fun H3 e3 => ?_
      have e03 := ((e2.trans e2a).trans e2b).trans e3
      exact meth (a := .hold a) (hm_hold A S.time) e03 (ea_cons (r0 rfl (e03 _ _ hr1)) ea_nil) fun H4 e4 => ⟨A, S, a, rfl, h1.ex (e03.trans e4), ok, hd, fun H5 A5 st => k H5 A5 _ _ ((Step.ex h (e1.trans (e03.trans e4))).trans st) rfl⟩
    | drop a =>
      have ok : S.isLive a ∧ a ∈ S.roots := ok
      refine skip (by show decide (V.str ("drop" : Str) = _) = false; decide +kernel) fun H2 e2 => ?_
      refine skip (by show decide (V.str ("drop" : Str) = _) = false; decide +kernel) fun H2a e2a => ?_
      refine skip (by show decide (V.str ("drop" : Str) = _) = false; decide +kernel) fun H2b e2b => ?_
      refine skip (by show decide (V.str ("drop" : Str) = _) = false; decide +kernel) fun H2c e2c => ?_
      refine take fun H3 e3 => ?_
      have e03 := (((e2.trans e2a).trans e2b).trans e2c).trans e3
      exact meth (a := .drop a) (hm_drop A S.time) e03 (ea_cons (r0 rfl (e03 _ _ hr1)) ea_nil) fun H4 e4 => ⟨A, S, a, rfl, h1.ex (e03.trans e4), ok.1, ok.2, hd, fun H5 A5 d r st s => k H5 A5 _ _ ((Step.ex h (e1.trans (e03.trans e4))).trans st) ⟨d, r, s, rfl⟩⟩
    | collect m =>
      have ok : 1 ≤ m ∧ m ≤ 9 := ok
      refine skip (by show decide (V.str ("collect" : Str) = _) = false; decide +kernel) fun H2 e2 => ?_
      refine skip (by show decide (V.str ("collect" : Str) = _) = false; decide +kernel) fun H2a e2a => ?_
      refine skip (by show decide (V.str ("collect" : Str) = _) = false; decide +kernel) fun H2b e2b => ?_
      refine skip (by show decide (V.str ("collect" : Str) = _) = false; decide +kernel) fun H2c e2c => ?_
      refine skip (by show decide (V.str ("collect" : Str) = _) = false; decide +kernel) fun H2d e2d => ?_
      refine take fun H3 e3 => ?_
      have e03 := ((((e2.trans e2a).trans e2b).trans e2c).trans e2d).trans e3
      exact meth (a := .collect m) (hm_collect A S.time) e03 (ea_cons (r0 rfl (e03 _ _ hr1)) ea_nil) fun H4 e4 => ⟨A, S, m, rfl, h1.ex (e03.trans e4), g, ok.1, Nat.le_trans ok.2 (by decide), Nat.lt_of_le_of_lt (by omega) tb, hd, fun H5 A5 S1 st tk => k H5 A5 _ _ ((Step.ex h (e1.trans (e03.trans e4))).trans st) ⟨S1, tk, rfl⟩⟩
    | force l =>
      refine skip (by show decide (V.str ("force" : Str) = _) = false; decide +kernel) fun H2 e2 => ?_
      refine skip (by show decide (V.str ("force" : Str) = _) = false; decide +kernel) fun H2a e2a => ?_
      refine skip (by show decide (V.str ("force" : Str) = _) = false; decide +kernel) fun H2b e2b => ?_
      refine skip (by show decide (V.str ("force" : Str) = _) = false; decide +kernel) fun H2c e2c => ?_
      refine skip (by show decide (V.str ("force" : Str) = _) = false; decide +kernel) fun H2d e2d => ?_
      refine skip (by show decide (V.str ("force" : Str) = _) = false; decide +kernel) fun H3 e3 => ?_
      have e03 := ((((e2.trans e2a).trans e2b).trans e2c).trans e2d).trans e3
      exact meth (a := .force l) (hm_force A S.time) e03 (ea_cons (r0 rfl (e03 _ _ hr1)) ea_nil) fun H4 e4 => ⟨A, S, l, rfl, h1.ex (e03.trans e4), g.TS, g.RK, ok, hd, fun H5 A5 pe rk fr t r st R => k H5 A5 _ _ ((Step.ex h (e1.trans (e03.trans e4))).trans st) ⟨pe, rk, fr, t, r, R, rfl⟩⟩
end
end HD
set_option Elab.async false
set_option linter.all false
set_option maxRecDepth 100000
set_option maxHeartbeats 8000000
/-! The law's chosen. -/
namespace HD
open PySem PySem.Spec PyProof.Rows L2 Evl
/-- d != {} -/
def rNeE : R2 := fun x y H Q => ∃ a b ks, x = .ref a ∧ y = .ref b ∧ H a = some (.dK ks) ∧ H b = some (.dK []) ∧ Q (.bl (!ks.isEmpty)) H
theorem op_neE {X : Cx} (hu : X.A.units < cLine) : OpR X (compareOp .NotEq) rNeE := by
  intro pins s σ H x y v u Q I rx ry h
  obtain ⟨a, b, ks, rfl, rfl, ea, eb, q⟩ := h
  obtain rfl : v = Value.ref a := rx
  obtain rfl : u = Value.ref b := ry
  obtain ⟨_, ya, va, ra, da⟩ := (show ObjOk X.prog X.w H s.heap a (.dK ks) from I.hok a _ ea)
  obtain ⟨_, yb, vb, rb, db⟩ := (show ObjOk X.prog X.w H s.heap b (.dK []) from I.hok b _ eb)
  have hl := ra.length
  have hb := rb.length
  have vb0 : vb = [] := List.length_eq_zero_iff.mp hb.symm
  subst vb0
  refine PySem.W.keq_ne (knd := mixKind X.prog X.w) (r := true) ya yb da db hu (fun e => ?_) (fin_bl I q ?_)
  · have va0 : va = [] := List.length_eq_zero_iff.mp e
    subst va0
    exact .nil
  · cases ks with
    | nil =>
      have : va = [] := List.length_eq_zero_iff.mp hl.symm
      subst this
      rfl
    | cons k r =>
      cases va with
      | nil => cases hl
      | cons c d => rfl
section
variable {K : PySem.W.Frag} {H : Hp} {σ : L2.St} {ta tb tl te : TE} {t : TT} {g : TG} {vs : List Nat} {Q : VK}
theorem ev_neE {a : Addr} {ks : List (Key × V)} (ha : Ev ta σ H (.ref a)) (h : H a = some (.dK ks)) : Ev (tOp rNeE ta tDNewK) σ H (.bl (!ks.isEmpty)) := fun H1 e Q q =>
  ha H1 e _ fun H2 e2 => fun p np => ⟨a, p, ks, rfl, rfl, Ex.new np _ _ (e2 _ _ (e _ _ h)), upd_same, q _ (e2.trans (Ex.new np))⟩
theorem getD_atV {l : List V} {j : Nat} (hj : j < l.length) : l[j]? = some (l.getD j .non) := by
  rw [List.getD_eq_getElem?_getD, List.getElem?_eq_getElem hj]
  rfl
theorem q_asgE {i : Nat} {D : Ends} {tz : TS} (h : te σ H fun x H1 => tz D (σ.set i (some x)) H1) : tSeq (tAsg te (gName i)) tz D σ H := h
theorem lc_swap (h : tl σ H fun x H1 => tLc (iList K (tC x)) g t te vs σ H1 Q) : tLc (iList K tl) g t te vs σ H Q := h
theorem flat_nVs (l : List Nat) : (nVs l).all flatV = true := by
  unfold nVs
  rw [List.all_map, List.all_eq_true]
  intro x _
  rfl
theorem inV_nVs {l : List Nat} {x : Nat} : inV (nV x) (nVs l) = decide (x ∈ l) := by
  unfold inV nVs
  rw [List.any_map, Bool.eq_iff_iff, List.any_eq_true, decide_eq_true_eq]
  have e : ∀ y : Nat, eqV (nV y) (nV x) = decide (x = y) := fun y => by
    have : eqV (nV y) (nV x) = decide (((y : Nat) : Int) = ((x : Nat) : Int)) := by
      first | rfl | (unfold eqV; rfl)
    rw [this, decide_eq_decide]
    omega
  constructor
  · rintro ⟨y, hy, h⟩
    have h : eqV (nV y) (nV x) = true := h
    rw [e, decide_eq_true_eq] at h
    rw [h]
    exact hy
  · intro h
    refine ⟨x, h, ?_⟩
    show eqV (nV x) (nV x) = true
    rw [e]
    exact decide_eq_true rfl
theorem flat2_nVs {l : List Nat} : ∀ x ∈ nVs l, ∃ d, Flat2 K H x d := fun x hx => by
  obtain ⟨i, _, rfl⟩ := List.mem_map.mp hx
  exact ⟨_, .int _⟩
theorem isEmpty_nVs {l : List Nat} : (nVs l).isEmpty = l.isEmpty := by
  cases l <;> rfl
end
section
variable {P : Program} {w : World} {K : PySem.W.Frag} {mg : Str → Option Value} {base : Heap}
theorem sc_Lchosen : FnScope ["_law_world_here", "_law_digits_here", "_law_most", "_law_plain", "_law_alive", "_law_way", "_law_has_room", "_law_one", "_law_other", "_law_mine", "_law_owner", "_law_rooted", "_law_k", "_law_death", "_law_pair"] ["_law_world_here", "_law_digits_here", "_law_most", "_law_plain"] (defScope s_Lchosen) := ⟨rfl, rfl, rfl, by decide +kernel, rfl, by decide +kernel, by decide +kernel⟩
def sp_Lchosen (K : PySem.W.Frag) : Sp := fun vs H Q _ => ∃ (B : WRep) (W : WS) (l : Addr) (ds : List Nat), vs = [.ref (B.at_ .dict), .ref l, .int 14, .bl false] ∧ WorldAt H B W ∧ H l = some (.lst (nVs ds)) ∧ ds.length = 4 ∧ ∀ a p H2, W.Ok a → H p = none → Ex H H2 → ActAt H2 p a → Q (.ref p) H2
theorem ok_Lchosen (T : TX K mg) : Glob P w K mg base 1 "_law_chosen" ["_law_world_here", "_law_digits_here", "_law_most", "_law_plain"] (sp_Lchosen K) := by
  have SC := sc_Lchosen
  refine glob_mk (F_Lchosen T) (g_Lchosen T) sc_Lchosen (fun _ _ _ _ _ _ us hl => match us, hl with | [_, _, _, _], _ => rfl) (fun vs H Q E h => ?_) (fun cdv A outer s H vs Q E hr h => ?_)
  · obtain ⟨B, W, l, ds, rfl, _⟩ := h
    rfl
  · obtain ⟨B, W, l, ds, rfl, h, hl, hds, k⟩ := h
    have hu := hu_of hr
    refine ⟨_, (pss_cons (ps_set (i := 4) SC.nd rfl (Or.inr rfl) (pe_lc (own := [("_law_k", 12), ("_law_death", 13)]) rfl SC.nd (pi_enum rfl (b_enumerate T) (pa_cons (pe_dget hu (pv 0) pe_str (fun _ _ => rfl)) pa_nil)) (blkOk_by (own := [("_law_k", 12), ("_law_death", 13)]) (N := ["_law_world_here", "_law_digits_here", "_law_most", "_law_plain", "_law_alive", "_law_way", "_law_has_room", "_law_one", "_law_other", "_law_mine", "_law_owner", "_law_rooted", "_law_k", "_law_death", "_law_pair"]) (sc := defScope s_Lchosen) (by decide +kernel)) (fun _ _ _ _ _ => (ktup (K := K) 2 rfl (pgs_cons (pg_name (i := 12) SC.nd rfl (Or.inl rfl)) (pgs_cons (pg_name (i := 13) SC.nd rfl (Or.inl rfl)) pgs_nil)))) (fun _ _ _ _ _ => pts_one (pt_cmp (pc_isN (pv 13)))) (fun _ _ _ _ _ => (pv 12))))
    (pss_cons (ps_set (i := 5) SC.nd rfl (Or.inl rfl) (pe_op op_mod (kix (K := K) (pv 1) pe_int) pe_int))
    (pss_cons (ps_set (i := 6) SC.nd rfl (Or.inl rfl) (pe_cmpR op_lt (klen (K := K) rfl (b_len T) (pa_cons (pe_dget hu (pv 0) pe_str (fun _ _ => rfl)) pa_nil)) (pv 2) (nomark _)))
    (pss_cons (ps_if (PW.pt (pw_and (pt_val (pv 6)) (pw_and1 (PW.pt (pw_or (pt_cmpR (op_eqD hr.units) (pv 4) (pe_lst pa_nil) (nomark _)) (pw_or1 (pt_cmpR op_lt (pv 5) pe_int (nomark _))))))))
      (pss_cons (ps_set (i := 10) SC.nd rfl (Or.inl rfl) pe_non)
    (pss_cons (ps_if (PW.pt (pw_and (pt_cmpR (op_neD hr.units) (pv 4) (pe_lst pa_nil) (nomark _)) (pw_and1 (pt_cmpR op_gt (pe_op op_mod (kix (K := K) (pv 1) pe_int) pe_int) pe_int (nomark _)))))
      (pss_one (ps_set (i := 10) SC.nd rfl (Or.inl rfl) (kix (K := K) (pv 4) (pe_op op_mod (kix (K := K) (pv 1) pe_int) (klen (K := K) rfl (b_len T) (pa_cons (pv 4) pa_nil))))))
      pss_nil)
    (pss_one (ps_ret (pe_tup (pa_cons pe_str (pa_cons (pv 10) (pa_cons (pe_and (pe_cmpR op_eq (pe_op op_mod (kix (K := K) (pv 1) pe_int) pe_int) pe_int (nomark _)) (pe_one (pe_not (pv 3)))) pa_nil))))))))
      pss_nil)
    (pss_cons (ps_if (pt_cmpR (op_eqD hr.units) (pv 4) (pe_lst pa_nil) (nomark _))
      (pss_one (ps_ret (pe_tup (pa_cons pe_str (pa_cons pe_int pa_nil)))))
      pss_nil)
    (pss_cons (ps_set (i := 7) SC.nd rfl (Or.inl rfl) (kix (K := K) (pv 4) (pe_op op_mod (kix (K := K) (pv 1) pe_int) (klen (K := K) rfl (b_len T) (pa_cons (pv 4) pa_nil)))))
    (pss_cons (ps_set (i := 8) SC.nd rfl (Or.inl rfl) (kix (K := K) (pv 4) (pe_op op_mod (kix (K := K) (pv 1) pe_int) (klen (K := K) rfl (b_len T) (pa_cons (pv 4) pa_nil)))))
    (pss_cons (ps_if (pt_cmpR op_lt (pv 5) pe_int (nomark _))
      (pss_one (ps_ret (pe_tup (pa_cons pe_str (pa_cons (pv 7) (pa_cons (pv 8) pa_nil))))))
      pss_nil)
    (pss_cons (ps_setLc (i := 9) (own := [("_law_pair", 14)]) rfl SC.nd rfl rfl (sw_true rfl rfl rfl (by decide +kernel)) (pi_list (pe_callB (call_sortedDT rfl) rfl (b_sorted T) (by decide +kernel) (pa_cons (pe_dget hu (pv 0) pe_str (fun _ _ => rfl)) pa_nil))) (blkOk_by (own := [("_law_pair", 14)]) (N := ["_law_world_here", "_law_digits_here", "_law_most", "_law_plain", "_law_alive", "_law_way", "_law_has_room", "_law_one", "_law_other", "_law_mine", "_law_owner", "_law_rooted", "_law_k", "_law_death", "_law_pair"]) (sc := defScope s_Lchosen) (by decide +kernel)) (fun _ _ _ _ _ => (pg_name (i := 14) SC.nd rfl (Or.inl rfl))) (fun _ _ _ _ _ => pts_one (ktin (K := K) (kixT (K := K) (pv 14) pe_int) (pv 4))) (fun _ _ _ _ _ => (pv 14)))
    (pss_cons (ps_if (PW.pt (pw_and (pt_cmpR op_lt (pv 5) pe_int (nomark _)) (pw_and1 (pt_cmpR (op_neD hr.units) (pv 9) (pe_lst pa_nil) (nomark _)))))
      (pss_one (ps_ret (pe_op op_catT (pe_tup (pa_cons pe_str pa_nil)) (kix (K := K) (pv 9) (pe_op op_mod (kix (K := K) (pv 1) pe_int) (klen (K := K) rfl (b_len T) (pa_cons (pv 9) pa_nil)))))))
      pss_nil)
    (pss_cons (ps_if (PW.pt (pw_and (pt_cmpR op_lt (pv 5) pe_int (nomark _)) (pw_and1 (pt_cmpR (op_neE hr.units0) (pe_dget hu (pv 0) pe_str (fun _ _ => rfl)) pe_dnewK (nomark _)))))
      (pss_cons (ps_set (i := 11) SC.nd rfl (Or.inl rfl) (pe_callB (call_sortedDI rfl) rfl (b_sorted T) (by decide +kernel) (pa_cons (pe_dget hu (pv 0) pe_str (fun _ _ => rfl)) pa_nil)))
    (pss_one (ps_ret (pe_tup (pa_cons pe_str (pa_cons (kix (K := K) (pv 11) (pe_op op_mod (kix (K := K) (pv 1) pe_int) (klen (K := K) rfl (b_len T) (pa_cons (pv 11) pa_nil)))) pa_nil))))))
      pss_nil)
    (pss_cons (ps_if (pt_cmpR op_eq (pv 5) pe_int (nomark _))
      (pss_one (ps_ret (pe_tup (pa_cons pe_str (pa_cons (pv 7) pa_nil)))))
      pss_nil)
    (pss_cons (ps_if (PW.pt (pw_and (pt_cmpR op_eq (pv 5) pe_int (nomark _)) (pw_and1 (pt_not (pt_val (pv 3))))))
      (pss_one (ps_ret (pe_tup (pa_cons pe_str (pa_cons (pe_op op_mod (kix (K := K) (pv 1) pe_int) (klen (K := K) rfl (b_len T) (pa_cons (pe_dget hu (pv 0) pe_str (fun _ _ => rfl)) pa_nil))) pa_nil)))))
      pss_nil)
    (pss_one (ps_ret (pe_tup (pa_cons pe_str (pa_cons (pe_op op_add pe_int (pe_op op_mod (kix (K := K) (pv 1) pe_int) (kix (K := K) (pe_lst (pa_cons pe_int (pa_cons pe_int (pa_cons pe_int pa_nil)))) (pe_op op_mod (kix (K := K) (pv 1) pe_int) pe_int)))) pa_nil)))))))))))))))))), ?_⟩
    have n60 := h.wf.n60
    have dv : ∀ {σ : L2.St} {H' : Hp} (j : Nat), j < 4 → σ[1]? = some (some (.ref l)) → Ex H H' → Ev (tOp (rIxL K) (tVar 1) (tC (.int (j : Int)))) σ H' (nV (ds.getD j 0)) := fun {σ H'} j hj s e =>
      ev_op (ev_var s) ev_c (rv_ixL (sq_of (e _ _ hl)) (atI_nat (by
        rw [List.getElem?_map, getD_at (by omega)]
        rfl)))
    -- alive
    refine q_asgL (el_lcE (fun i => (W.death i).isNone) (fun i => nV i) (ea_cons (ew_deaths h (ev_var rfl)) ea_nil) (sq_of (h.ob .deaths)) (by rw [vl_len]; omega) (fun _ _ => rfl) (fun i x H1 e hx => ?_) (fun i x H1 e hx _ => ev_var rfl)) fun p4 H1 np4 e1 hp4 => ?_
    · obtain ⟨hi, rfl⟩ := vl_at hx
      exact et_B (ev_is (ev_isN (ev_var rfl)) (congrArg V.bl oV_dec))
    rw [vl_len, given_sel] at hp4
    generalize hal : sel W.n (fun i => (W.death i).isNone) = al at hp4
    have mal : ∀ i, i ∈ al ↔ W.alive i := fun i => by
      rw [← hal, mem_sel, Option.isNone_iff_eq_none]
      rfl
    have h1 := h.ex e1
    refine q_asg (v := nV (ds.getD 0 0 % 16)) (ev_op (dv 0 (by decide) rfl e1) (ev_c (v := nV 16)) (rv_modN (by decide))) fun H2 e2 => ?_
    have h2 := h1.ex e2
    refine q_asg (v := .bl (decide (W.n < 14))) (ev_op (ev_is (w := nV W.n) (ev_len (ew_births h2 (ev_var rfl)) (sq_of (h2.ob .births))) (by rw [vl_len])) (ev_var (v := nV 14) rfl) rv_ltN) fun H3 e3 => ?_
    have h3 := h2.ex e3
    have e03 := (e1.trans e2).trans e3
    have hp4 := e3 _ _ (e2 _ _ hp4)
    generalize ds.getD 0 0 % 16 = way
    have pick : ∀ {σ : L2.St} {H' : Hp} {q : Addr} {ls : List Nat} (s j : Nat), j < 4 → σ[1]? = some (some (.ref l)) → σ[s]? = some (some (.ref q)) → H' q = some (.lst (nVs ls)) → ls ≠ [] → Ex H H' →
        Ev (tOp (rIxL K) (tVar s) (tOp (rI (fun _ j => 0 < j) fun i j => .int (i % j)) (tOp (rIxL K) (tVar 1) (tC (.int (j : Int)))) (tCB (rLenS K) (tCons (tVar s) tNil)))) σ H' (nV (ls.getD (ds.getD j 0 % ls.length) 0)) := fun {σ H' q ls} s j hj s1 ss hq hne e => by
      have hp : 0 < ls.length := List.length_pos_iff.mpr hne
      refine ev_op (ev_var ss) (ev_op (dv j hj s1 e) (ev_is (w := nV ls.length) (ev_len (ev_var ss) (sq_of hq)) (by rw [nVs_len])) (rv_modN hp)) (rv_ixL (sq_of hq) (atI_nat ?_))
      rw [List.getElem?_map, getD_at (Nat.mod_lt _ hp)]
      rfl
    have pmem : ∀ {ls : List Nat} (j : Nat), ls ≠ [] → ls.getD (ds.getD j 0 % ls.length) 0 ∈ ls := fun {ls} j hne => by
      have hp : 0 < ls.length := List.length_pos_iff.mpr hne
      exact List.mem_of_getElem? (getD_at (Nat.mod_lt _ hp))
    show tSeq _ _ _ [some (.ref (B.at_ .dict)), some (.ref l), some (.int 14), some (.bl false), some (.ref p4), some (nV way), some (.bl (decide (W.n < 14))), none, none, none, none, none, none, none, none] H3
    refine q_when (b := decide (W.n < 14) && (al.isEmpty || decide (way < 4))) (et_and (et_B (ev_var rfl)) fun _ => et_or (et_is (et_test (ev_eqNil (K := K) (ev_var rfl) (sq_of hp4) flat2_nVs)) isEmpty_nVs) fun _ => et_test (ev_op (ev_var rfl) (ev_c (v := nV 4)) rv_ltN)) (fun hb H4 e4 => ?_) (fun hb H4 e4 => ?_)
    · rw [Bool.and_eq_true, decide_eq_true_eq] at hb
      have hn := hb.1
      have e04 := e03.trans e4
      have retC : ∀ (D : Ends) (hD : D.rt = Q) (ow : Option Nat) (H' : Hp), Ex H4 H' → (∀ a, ow = some a → W.alive a) → tRet (tTup (tCons (tC (.str "create")) (tCons (tVar 10) (tCons (tAndV (tOp rEq (tOp (rI (fun _ j => 0 < j) fun i j => .int (i % j)) (tOp (rIxL K) (tVar 1) (tC (.int 3))) (tC (.int 3))) (tC (.int 0))) (tNotV (tVar 3))) tNil)))) D
          [some (.ref (B.at_ .dict)), some (.ref l), some (.int 14), some (.bl false), some (.ref p4), some (nV way), some (.bl (decide (W.n < 14))), none, none, none, some (oV ow), none, none, none, none] H' := fun D hD ow H' e ho => by
        refine s_retU (eu_tup (ea_cons ev_c (ea_cons (ev_var rfl) (ea_cons (ev_andV (b := true) (ev_op (ev_op (dv 3 (by decide) rfl (e04.trans e)) (ev_c (v := nV 3)) (rv_modN (by decide))) ev_c rv_eq0) fun _ => ev_notV (a := false) (ev_var rfl)) ea_nil))) (by show 3 ≤ 100000; decide)) fun p H8 np e8 hp => ?_
        rw [hD]
        exact k (.create ow _) p H8 ⟨by omega, ho⟩ (fresh_back (e04.trans e) np) ((e04.trans e).trans e8) hp
      refine q_asg (v := oV none) ev_c fun H5 e5 => ?_
      refine q_when (b := !al.isEmpty && decide (0 < ds.getD 1 0 % 3)) (et_and (et_is (et_test (ev_neNil (K := K) (ev_var rfl) (sq_of (e5 _ _ (e4 _ _ hp4))) flat2_nVs)) (by rw [isEmpty_nVs])) fun _ => et_test (ev_op (ev_op (dv 1 (by decide) rfl (e04.trans e5)) (ev_c (v := nV 3)) (rv_modN (by decide))) (ev_c (v := nV 0)) rv_gtN)) (fun hb H6 e6 => ?_) (fun hb H6 e6 => ?_)
      · rw [Bool.and_eq_true, Bool.not_eq_true'] at hb
        have hne : al ≠ [] := fun z => by
          rw [z] at hb
          exact absurd hb.1 (by decide)
        refine s_asg (v := oV (some (al.getD (ds.getD 2 0 % al.length) 0))) (pick 4 2 (by decide) rfl rfl (e6 _ _ (e5 _ _ (e4 _ _ hp4))) hne ((e04.trans e5).trans e6)) fun H7 e7 => ?_
        exact retC _ rfl (some _) H7 ((e5.trans e6).trans e7) fun a ha => by
          rw [← Option.some.inj ha]
          exact (mal _).mp (pmem 2 hne)
      · exact retC _ rfl none H6 (e5.trans e6) fun a ha => by cases ha
    have e04 := e03.trans e4
    have hp4 := e4 _ _ hp4
    refine q_when (b := al.isEmpty) (et_is (et_test (ev_eqNil (K := K) (ev_var rfl) (sq_of hp4) flat2_nVs)) isEmpty_nVs) (fun hb H5 e5 => ?_) (fun hb H5 e5 => ?_)
    · exact s_retU (eu_tup (ea_cons ev_c (ea_cons ev_c ea_nil)) (by show 2 ≤ 100000; decide)) fun p H8 np e8 hp => k (.collect 1) p H8 ⟨Nat.le_refl _, by decide⟩ (fresh_back (e04.trans e5) np) ((e04.trans e5).trans e8) hp
    have hne : al ≠ [] := fun z => by
      rw [z] at hb
      exact absurd hb (by decide)
    have e05 := e04.trans e5
    have hp4 := e5 _ _ hp4
    refine q_asg (pick 4 1 (by decide) rfl rfl hp4 hne e05) fun H6 e6 => ?_
    refine q_asg (pick 4 2 (by decide) rfl rfl (e6 _ _ hp4) hne (e05.trans e6)) fun H7 e7 => ?_
    have e07 := (e05.trans e6).trans e7
    have m1 := (mal _).mp (pmem 1 hne)
    have m2 := (mal _).mp (pmem 2 hne)
    generalize al.getD (ds.getD 1 0 % al.length) 0 = one at m1
    generalize al.getD (ds.getD 2 0 % al.length) 0 = other at m2
    have hp4 := e7 _ _ (e6 _ _ hp4)
    show tSeq _ _ _ [some (.ref (B.at_ .dict)), some (.ref l), some (.int 14), some (.bl false), some (.ref p4), some (nV way), some (.bl (decide (W.n < 14))), some (nV one), some (nV other), none, none, none, none, none, none] H7
    refine q_when (b := decide (way < 6)) (et_test (ev_op (ev_var rfl) (ev_c (v := nV 6)) rv_ltN)) (fun hb H8 e8 => ?_) (fun hb H8 e8 => ?_)
    · exact s_retU (eu_tup (ea_cons ev_c (ea_cons (ev_var rfl) (ea_cons (ev_var rfl) ea_nil))) (by show 3 ≤ 100000; decide)) fun p H9 np e9 hp => k (.refer one other) p H9 ⟨m1, m2⟩ (fresh_back (e07.trans e8) np) ((e07.trans e8).trans e9) hp
    have e08 := e07.trans e8
    have h8 := h.ex e08
    have hp4 := e8 _ _ hp4
    have plen : W.prs.length ≤ 60 * 60 := Nat.le_trans (ndP_len h.wf.pn h.wf.pl) (Nat.mul_le_mul n60 n60)
    -- mine
    have evp : EvA (tCons (tDGet (tVar 0) (tC (.str "pairs"))) tNil) [some (.ref (B.at_ .dict)), some (.ref l), some (.int 14), some (.bl false), some (.ref p4), some (nV way), some (.bl (decide (W.n < 14))), some (nV one), some (nV other), none, none, none, none, none, none] H8 [.ref (B.at_ .pairs)] := ea_cons (ew_pairs h8 (ev_var rfl)) ea_nil
    refine u_seq (u_asg (lc_swap ?_))
    refine evp H8 (Ex.refl _) _ fun H9 e9 => ?_
    refine ⟨B.at_ .pairs, pT W.prs, rfl, .inl (e9 _ _ (h8.ob .pairs)), fun kv hkv => ?_, fun p bs ys np hk hperm => ?_⟩
    · obtain ⟨q, _, rfl⟩ := List.mem_map.mp hkv
      exact ⟨_, _, rfl⟩
    have x10 : Ex H (upd H9 p (.lst ys)) := (e08.trans e9).trans (Ex.new np)
    have h10p : upd H9 p (.lst ys) p = some (.lst ys) := upd_same
    have hp4 : upd H9 p (.lst ys) p4 = some (.lst (nVs al)) := Ex.new np _ _ (e9 _ _ hp4)
    have items : ∀ y, ∃ q : Nat × Nat, y ∈ ys → ∃ T, y = .ref T ∧ upd H9 p (.lst ys) T = some (.tup [nV q.1, nV q.2]) ∧ q ∈ W.prs := fun y => by
      by_cases hy : y ∈ ys
      · obtain ⟨b, hb, rfl⟩ := List.mem_map.mp (hperm.mem_iff.mp hy)
        obtain ⟨kv, hkv, ht⟩ := isKeys_mem hk b hb
        obtain ⟨q, hq, rfl⟩ := List.mem_map.mp hkv
        exact ⟨q, fun _ => ⟨b, rfl, Ex.new np _ _ ht, hq⟩⟩
      · exact ⟨(0, 0), fun z => absurd z hy⟩
    have ylen : ys.length ≤ 60 * 60 := by
      rw [hperm.length_eq, List.length_map]
      have := Paired.length hk
      rw [pT_len] at this
      omega
    generalize upd H9 p (.lst ys) = H10 at x10 h10p hp4 items ⊢
    obtain ⟨fq, hfq⟩ : ∃ fq : V → Nat × Nat, ∀ y ∈ ys, ∃ T, y = .ref T ∧ H10 T = some (.tup [nV (fq y).1, nV (fq y).2]) ∧ fq y ∈ W.prs := ⟨fun y => Classical.choose (items y), fun y hy => Classical.choose_spec (items y) hy⟩
    have yat : ∀ {i : Nat} {x : V}, ys[i]? = some x → ys.getD i .non = x ∧ x ∈ ys := fun {i x} hx => by
      rw [List.getD_eq_getElem?_getD, hx]
      exact ⟨rfl, List.mem_of_getElem? hx⟩
    refine el_lcL (fun i => decide ((fq (ys.getD i .non)).1 ∈ al)) (fun i => ys.getD i .non) (ev_c (v := .ref p)) (sq_of h10p) (by omega) (fun _ => rfl) (fun i x H11 e11 hx => ?_) (fun i x H11 e11 hx _ => ?_) H10 (Ex.refl _) _ fun p9 H11 np9 e11 hp9 => ?_
    · obtain ⟨q1, q2⟩ := yat hx
      obtain ⟨T9, rfl, ht, _⟩ := hfq x q2
      rw [q1, ← inV_nVs]
      exact et_test (ev_op (ev_op (ev_var rfl) (ev_c (v := .int ((0 : Nat) : Int))) (rv_ixT (st_of (e11 _ _ ht)) (atI_nat (j := 0) rfl))) (ev_var rfl) (rv_isL (sq_of (e11 _ _ hp4)) rfl (flat_nVs al)))
    · obtain ⟨q1, q2⟩ := yat hx
      rw [q1]
      exact ev_var rfl
    generalize hms : given ys.length (fun i => decide ((fq (ys.getD i .non)).1 ∈ al)) (fun i => ys.getD i .non) = ms at hp9
    have mms : ∀ y ∈ ms, y ∈ ys ∧ (fq y).1 ∈ al := fun y hy => by
      rw [← hms] at hy
      obtain ⟨i, hi, rfl⟩ := List.mem_map.mp hy
      obtain ⟨h1, h2⟩ := List.mem_filter.mp hi
      have hx := List.getElem?_eq_getElem (List.mem_range.mp h1)
      exact ⟨by rw [(yat hx).1]; exact (yat hx).2, of_decide_eq_true h2⟩
    have x11 := x10.trans e11
    have h11 := h.ex x11
    show tSeq _ _ _ [some (.ref (B.at_ .dict)), some (.ref l), some (.int 14), some (.bl false), some (.ref p4), some (nV way), some (.bl (decide (W.n < 14))), some (nV one), some (nV other), some (.ref p9), none, none, none, none, none] H11
    have fl : ∀ x ∈ ms, ∃ d, Flat2 K H11 x d := fun x hx => by
      obtain ⟨T9, rfl, ht, _⟩ := hfq x (mms x hx).1
      exact ⟨_, .tup (is := [((fq (.ref T9)).1 : Int), ((fq (.ref T9)).2 : Int)]) (st_of (e11 _ _ ht))⟩
    refine q_when (b := decide (way < 8) && !ms.isEmpty) (et_and (et_test (ev_op (ev_var rfl) (ev_c (v := nV 8)) rv_ltN)) fun _ => et_test (ev_neNil (K := K) (ev_var rfl) (sq_of hp9) fl)) (fun hb H12 e12 => ?_) (fun hb H12 e12 => ?_)
    · rw [Bool.and_eq_true, Bool.not_eq_true'] at hb
      have hmp : 0 < ms.length := by
        cases ms with
        | nil => exact absurd hb.2 (by decide)
        | cons a b => exact Nat.succ_pos _
      have hp9 := e12 _ _ hp9
      have at9 : ms[ds.getD 1 0 % ms.length]? = some (ms.getD (ds.getD 1 0 % ms.length) .non) := getD_atV (Nat.mod_lt _ hmp)
      obtain ⟨y1, y2⟩ := mms _ (List.mem_of_getElem? at9)
      obtain ⟨T9, ey, ht, hin⟩ := hfq _ y1
      rw [ey] at at9 y2 ht hin
      refine u_ret ?_
      refine eu_tup (ea_cons (ev_c (v := .str "clear")) ea_nil) (by show 1 ≤ 100000; decide) H12 (Ex.refl _) _ fun pa H13 na e13 ha => ?_
      have evi : Ev (tOp (rIxL K) (tVar 9) (tOp (rI (fun _ j => 0 < j) fun i j => .int (i % j)) (tOp (rIxL K) (tVar 1) (tC (.int ((1 : Nat) : Int)))) (tCB (rLenS K) (tCons (tVar 9) tNil)))) [some (.ref (B.at_ .dict)), some (.ref l), some (.int 14), some (.bl false), some (.ref p4), some (nV way), some (.bl (decide (W.n < 14))), some (nV one), some (nV other), some (.ref p9), none, none, none, none, none] H13 (.ref T9) :=
        ev_op (ev_var rfl) (ev_op (dv 1 (by decide) rfl ((x11.trans e12).trans e13)) (ev_len (ev_var rfl) (sq_of (e13 _ _ hp9))) (rv_modN hmp)) (rv_ixL (sq_of (e13 _ _ hp9)) (atI_nat at9))
      refine evi H13 (Ex.refl _) _ fun H14 e14 => ?_
      have x14 := ((x11.trans e12).trans e13).trans e14
      refine ⟨pa, T9, [.str "clear"], _, rfl, rfl, st_of (e14 _ _ ha), st_of (e14 _ _ (e13 _ _ (e12 _ _ (e11 _ _ ht)))), fun z => (nomatch z), sz_of (by show 3 ≤ 100000; decide), fun z => (nomatch z), fun _ r nr => ?_⟩
      exact k (.clear _ _) r _ ⟨hin, (mal _).mp y2⟩ (fresh_back x14 nr) (x14.trans (Ex.new nr)) upd_same
    have x12 := x11.trans e12
    have h12 := h.ex x12
    have rlen : W.roots.length ≤ W.n := nd_len h.wf.rn h.wf.rl
    have ekd : (kD W.roots).isEmpty = W.roots.isEmpty := by
      cases W.roots <;> rfl
    refine q_when (b := decide (way < 11) && !W.roots.isEmpty) (et_and (et_test (ev_op (ev_var rfl) (ev_c (v := nV 11)) rv_ltN)) fun _ => et_is (et_test (ev_neE (ew_roots h12 (ev_var rfl)) (h12.ob .roots))) (by rw [ekd])) (fun hb H13 e13 => ?_) (fun hb H13 e13 => ?_)
    · rw [Bool.and_eq_true, Bool.not_eq_true'] at hb
      have hrp : 0 < W.roots.length := by
        cases hq : W.roots with
        | nil =>
          rw [hq] at hb
          exact absurd hb.2 (by decide)
        | cons a b => exact Nat.succ_pos _
      have h13 := h12.ex e13
      have evr : EvA (tCons (tDGet (tVar 0) (tC (.str "roots"))) tNil) [some (.ref (B.at_ .dict)), some (.ref l), some (.int 14), some (.bl false), some (.ref p4), some (nV way), some (.bl (decide (W.n < 14))), some (nV one), some (nV other), some (.ref p9), none, none, none, none, none] H13 [.ref (B.at_ .roots)] := ea_cons (ew_roots h13 (ev_var rfl)) ea_nil
      refine q_asgE ?_
      refine evr H13 (Ex.refl _) _ fun H14 e14 => ?_
      have h14 := h13.ex e14
      refine ⟨B.at_ .roots, kD W.roots, W.roots.map fun (i : Nat) => (i : Int), rfl, .inl (h14.ob .roots), ?_, by rw [List.length_map]; omega, fun rs pr hperm _ npr => ?_⟩
      · unfold kD
        rw [List.map_map, List.map_map]
        rfl
      have rl : rs.length = W.roots.length := by rw [hperm.length_eq, List.length_map]
      have x15 : Ex H (upd H14 pr (.lst (rs.map V.int))) := ((x12.trans e13).trans e14).trans (Ex.new npr)
      have hpr : upd H14 pr (.lst (rs.map V.int)) pr = some (.lst (rs.map V.int)) := upd_same
      generalize upd H14 pr (.lst (rs.map V.int)) = H15 at x15 hpr ⊢
      have hlt : ds.getD 1 0 % rs.length < rs.length := Nat.mod_lt _ (by omega)
      obtain ⟨i, hi, ei⟩ := List.mem_map.mp (hperm.mem_iff.mp (List.getElem_mem hlt))
      have at9 : (rs.map V.int)[ds.getD 1 0 % rs.length]? = some (nV i) := by
        rw [List.getElem?_map, List.getElem?_eq_getElem hlt, ← ei]
        rfl
      have lenr : (rs.map V.int).length = rs.length := List.length_map _
      show tRet _ _ [some (.ref (B.at_ .dict)), some (.ref l), some (.int 14), some (.bl false), some (.ref p4), some (nV way), some (.bl (decide (W.n < 14))), some (nV one), some (nV other), some (.ref p9), none, some (.ref pr), none, none, none] H15
      refine s_retU (eu_tup (ea_cons ev_c (ea_cons (ev_op (ev_var rfl) (ev_op (dv 1 (by decide) rfl x15) (ev_is (w := nV rs.length) (ev_len (ev_var rfl) (sq_of hpr)) (by rw [lenr])) (rv_modN (by omega))) (rv_ixL (sq_of hpr) (atI_nat at9))) ea_nil)) (by show 2 ≤ 100000; decide)) fun p H16 np e16 hp => ?_
      exact k (.drop i) p H16 hi (fresh_back x15 np) (x15.trans e16) hp
    have x13 := x12.trans e13
    refine q_when (b := decide (way = 11)) (et_test (ev_op (ev_var rfl) (ev_c (v := nV 11)) rv_eqN)) (fun hb H14 e14 => ?_) (fun hb H14 e14 => ?_)
    · exact s_retU (eu_tup (ea_cons ev_c (ea_cons (ev_var rfl) ea_nil)) (by show 2 ≤ 100000; decide)) fun p H9 np e9 hp => k (.hold one) p H9 m1 (fresh_back (x13.trans e14) np) ((x13.trans e14).trans e9) hp
    have x14 := x13.trans e14
    have h14 := h.ex x14
    refine q_when (b := decide (way = 12) && !false) (et_and (et_test (ev_op (ev_var rfl) (ev_c (v := nV 12)) rv_eqN)) fun _ => et_not (et_B (ev_var rfl))) (fun hb H15 e15 => ?_) (fun hb H15 e15 => ?_)
    · have h15 := h14.ex e15
      have lenp : (W.ps.map fun p => nV p).length = W.ps.length := List.length_map _
      refine s_retU (eu_tup (ea_cons ev_c (ea_cons (ev_op (dv 1 (by decide) rfl (x14.trans e15)) (ev_is (w := nV W.ps.length) (ev_len (ew_places h15 (ev_var rfl)) (sq_of (h15.ob .places))) (by show nV (W.ps.map fun p => nV p).length = _; rw [lenp])) (rv_modN h.wf.p.len)) ea_nil)) (by show 2 ≤ 100000; decide)) fun p H9 np e9 hp => ?_
      exact k (.force _) p H9 (Nat.mod_lt _ h.wf.p.len) (fresh_back (x14.trans e15) np) ((x14.trans e15).trans e9) hp
    have x15 := x14.trans e15
    have hm : ∀ d : Nat, ∃ z : Nat, [nV 2, nV 5, nV 9][d % 3]? = some (nV z) ∧ 1 ≤ z ∧ z ≤ 9 := fun d => by
      have : d % 3 < 3 := Nat.mod_lt _ (by decide)
      rcases (show d % 3 = 0 ∨ d % 3 = 1 ∨ d % 3 = 2 by omega) with e | e | e
      · exact ⟨2, by rw [e]; rfl, by decide, by decide⟩
      · exact ⟨5, by rw [e]; rfl, by decide, by decide⟩
      · exact ⟨9, by rw [e]; rfl, by decide, by decide⟩
    obtain ⟨z, hz, z1, z9⟩ := hm (ds.getD 2 0)
    refine s_retU (eu_tup (ea_cons ev_c (ea_cons (ev_op (ev_c (v := nV 1)) (ev_op (dv 1 (by decide) rfl x15) (ev_opL1 (y := nV (ds.getD 2 0 % 3)) (z := nV z) (el_lst (ea_cons (ev_c (v := nV 2)) (ea_cons (ev_c (v := nV 5)) (ea_cons (ev_c (v := nV 9)) ea_nil))) (by show 3 ≤ 100000; decide)) (fun H16 e16 => ev_op (dv 2 (by decide) rfl (x15.trans e16)) (ev_c (v := nV 3)) (rv_modN (by decide))) (fun p H16 hp e16 => rv_ixL (sq_of hp) (atI_nat hz))) (rv_modN z1)) rv_addN) ea_nil)) (by show 2 ≤ 100000; decide)) fun p H9 np e9 hp => ?_
    refine k (.collect _) p H9 ⟨Nat.le_add_right _ _, ?_⟩ (fresh_back x15 np) (x15.trans e9) hp
    have := Nat.mod_lt (ds.getD 1 0) z1
    omega
end
end HD
set_option Elab.async false
set_option linter.all false
/-! Plain: paths, generations in time, the heap and the world in step. -/
namespace HD
/-- along the references -/
inductive Path (g : Nat → List Nat) : Nat → Nat → Prop where
  | refl {x : Nat} : Path g x x
  | step {x y z : Nat} (h : Path g x y) (e : z ∈ g y) : Path g x z
theorem Path.trans {g : Nat → List Nat} {x y z : Nat} (a : Path g x y) (b : Path g y z) : Path g x z := by
  induction b with
  | refl => exact a
  | step _ e ih => exact .step ih e
theorem Path.one {g : Nat → List Nat} {x y : Nat} (e : y ∈ g x) : Path g x y := .step .refl e
theorem reach_path {g : Nat → List Nat} {s : Nat → Prop} {z : Nat} : Reach g s z ↔ ∃ x, s x ∧ Path g x z := by
  constructor
  · intro r
    induction r with
    | start h => exact ⟨_, h, .refl⟩
    | step _ e ih =>
      obtain ⟨x, h, p⟩ := ih
      exact ⟨x, h, .step p e⟩
  · rintro ⟨x, h, p⟩
    induction p with
    | refl => exact .start h
    | step _ e ih => exact .step ih e
theorem reach_one {g : Nat → List Nat} {x z : Nat} : Reach g (· = x) z ↔ Path g x z := by
  rw [reach_path]
  exact ⟨fun ⟨y, h, p⟩ => h ▸ p, fun p => ⟨x, rfl, p⟩⟩
theorem Path.lt {g : Nat → List Nat} {n x y : Nat} (b : ∀ i j, i < n → j ∈ g i → j < n) (p : Path g x y) (hx : x < n) : y < n := by
  induction p with
  | refl => exact hx
  | step _ e ih => exact b _ _ ih e
/-- the same paths by other lists below n -/
theorem Path.same {g g' : Nat → List Nat} {n x y : Nat} (b : ∀ i j, i < n → j ∈ g i → j < n) (h : ∀ i j, i < n → j ∈ g i → j ∈ g' i) (p : Path g x y) (hx : x < n) : Path g' x y := by
  induction p with
  | refl => exact .refl
  | step p e ih => exact .step ih (h _ _ (p.lt b hx) e)
/-- backwards -/
theorem Path.rev {g g' : Nat → List Nat} {n x y : Nat} (b : ∀ i j, i < n → j ∈ g i → j < n) (h : ∀ i j, i < n → j ∈ g i → i ∈ g' j) (p : Path g x y) (hx : x < n) : Path g' y x := by
  induction p with
  | refl => exact .refl
  | step p e ih => exact (Path.one (h _ _ (p.lt b hx) e)).trans ih
/-- numbers in bounds -/
structure HS.Bd (S : HS) : Prop where
  p : Ps S.ps
  tgl : ∀ i j, i < S.n → j ∈ S.tg i → j < S.n
  srl : ∀ i j, i < S.n → j ∈ S.sr i → j < S.n
  rl : ∀ i, i ∈ S.roots → i < S.n
theorem HS.Wf.bd {S : HS} (w : S.Wf) : S.Bd := ⟨w.p, w.tgl, w.srl, w.rl⟩
theorem HS.Good.upB {S : HS} (g : S.Good) (w : S.Bd) {i h : Nat} (hi : i < S.n) (hd : S.death i ≠ none) (hf : S.freed i = false) (r : Reach S.sr (· = i) h) : h < S.n ∧ S.death h ≠ none ∧ S.freed h = false := by
  induction r with
  | start e =>
    subst e
    exact ⟨hi, hd, hf⟩
  | @step x y r e ih =>
    obtain ⟨h1, h2, h3⟩ := ih
    have hy := w.srl x y h1 e
    have ht := (g.ts y x hy h1).mpr e
    refine ⟨hy, fun z => h2 (g.lv y x hy ht z), ?_⟩
    cases q : S.freed y with
    | false => rfl
    | true =>
      rw [(g.fr y hy q).1] at ht
      cases ht
theorem holder_path {S : HS} (w : S.Bd) (ts : S.TS) {i h : Nat} (hi : i < S.n) : Reach S.sr (· = i) h ↔ h < S.n ∧ Path S.tg h i := by
  rw [reach_one]
  constructor
  · intro p
    have hh := p.lt w.srl hi
    exact ⟨hh, p.rev w.srl (fun a b ha hb => (ts b a (w.srl a b ha hb) ha).mpr hb) hi⟩
  · rintro ⟨hh, p⟩
    exact p.rev w.tgl (fun a b ha hb => (ts a b ha (w.tgl a b ha hb)).mp hb) hh
/-! ### a generation in time -/
theorem div_succ {t p : Nat} (hp : 0 < p) : (t + 1) / p = if (t + 1) % p = 0 then t / p + 1 else t / p := by
  rw [Nat.succ_div]
  by_cases h : (t + 1) % p = 0
  · rw [if_pos h, if_pos (Nat.dvd_of_mod_eq_zero h)]
  · rw [if_neg h, if_neg (fun d => h (Nat.mod_eq_zero_of_dvd d)), Nat.add_zero]
theorem getLast_filter {n m : Nat} {p : Nat → Bool} : ((List.range n).filter p).getLast? = some m → m < n ∧ p m = true ∧ ∀ k, m < k → k < n → p k = false := by
  induction n with
  | zero => intro h; cases h
  | succ n ih =>
    intro h
    rw [List.range_succ, List.filter_append] at h
    cases hp : p n with
    | true =>
      rw [List.filter_cons, if_pos hp, List.filter_nil, List.getLast?_concat] at h
      cases h
      exact ⟨Nat.lt_succ_self _, hp, fun k a b => by omega⟩
    | false =>
      rw [List.filter_cons, if_neg (by rw [hp]; decide), List.filter_nil, List.append_nil] at h
      obtain ⟨a, b, c⟩ := ih h
      refine ⟨by omega, b, fun k x y => ?_⟩
      by_cases e : k = n
      · rw [e]
        exact hp
      · exact c k x (by omega)
theorem getLast_none {n : Nat} {p : Nat → Bool} : ((List.range n).filter p).getLast? = none → ∀ k, k < n → p k = false := by
  intro h k hk
  have e : (List.range n).filter p = [] := List.getLast?_eq_none_iff.mp h
  cases hp : p k with
  | false => rfl
  | true =>
    have : k ∈ (List.range n).filter p := List.mem_filter.mpr ⟨List.mem_range.mpr hk, hp⟩
    rw [e] at this
    cases this
/-- dig tells: at least g iff g is no more than the oldest and the level below differs or a greater one -/
theorem dig_ge {ps : List Nat} (h : Ps ps) {b t g : Nat} (hg : g ≤ lastOf ps) : g ≤ dig ps b t ↔ g = 0 ∨ ∃ j, g ≤ j + 1 ∧ j < ps.length ∧ b / plc ps j ≠ t / plc ps j := by
  unfold dig difs
  cases e : ((List.range ps.length).filter fun j => decide (b / plc ps j ≠ t / plc ps j)).getLast? with
  | none =>
    have q := getLast_none e
    constructor
    · intro z
      exact .inl (Nat.le_zero.mp z)
    · rintro (z | ⟨j, _, hj, hd⟩)
      · rw [z]
        exact Nat.le_refl _
      · exact absurd hd (by simpa using q j hj)
  | some m =>
    obtain ⟨q1, q2, q3⟩ := getLast_filter e
    show g ≤ min (lastOf ps) (1 + m) ↔ _
    constructor
    · intro z
      exact .inr ⟨m, by omega, q1, of_decide_eq_true q2⟩
    · rintro (z | ⟨j, hj1, hj, hd⟩)
      · omega
      · have : j ≤ m := by
          by_cases c : j ≤ m
          · exact c
          · have := q3 j (by omega) hj
            exact absurd hd (by simpa using this)
        omega
theorem dig_le {ps : List Nat} (b t : Nat) : dig ps b t ≤ lastOf ps := by
  unfold dig
  split
  · exact Nat.zero_le _
  · exact Nat.min_le_left _ _
theorem plcP {ps : List Nat} (h : Ps ps) (l : Nat) : 0 < plc ps l := plc_pos h.pos l
theorem le_mx {g a b : Nat} : g ≤ max a b ↔ g ≤ a ∨ g ≤ b := by omega
/-- one collection later -/
theorem dig_succ {ps : List Nat} (h : Ps ps) (c : Ch ps) {b t : Nat} (hb : b ≤ t) : dig ps b (t + 1) = max (min (lastOf ps) (lvl ps (t + 1) + 1)) (dig ps b t) := by
  have hl := h.last
  have le1 := dig_le (ps := ps) b (t + 1)
  have le2 := dig_le (ps := ps) b t
  have lv := lvl_le ps (t + 1)
  have key : ∀ g, g ≤ lastOf ps → (g ≤ dig ps b (t + 1) ↔ g ≤ max (min (lastOf ps) (lvl ps (t + 1) + 1)) (dig ps b t)) := fun g hg => by
    rw [dig_ge h hg, le_mx, Nat.le_min, dig_ge h hg]
    constructor
    · rintro (z | ⟨j, a, hj, d⟩)
      · exact .inr (.inl z)
      · by_cases q : j ≤ lvl ps (t + 1)
        · exact .inl ⟨hg, by omega⟩
        · refine .inr (.inr ⟨j, a, hj, ?_⟩)
          rw [div_succ (plcP h j)] at d
          rw [if_neg (fun z => q (lvl_ge h.one c hj z))] at d
          exact d
    · rintro (⟨_, z⟩ | z | ⟨j, a, hj, d⟩)
      · by_cases g0 : g = 0
        · exact .inl g0
        · refine .inr ⟨lvl ps (t + 1), z, by omega, ?_⟩
          rw [div_succ (plcP h _), if_pos (lvl_dvd h.one (Nat.le_refl _))]
          have := Nat.div_le_div_right (c := plc ps (lvl ps (t + 1))) hb
          omega
      · exact .inl z
      · refine .inr ⟨j, a, hj, ?_⟩
        rw [div_succ (plcP h j)]
        have := Nat.div_le_div_right (c := plc ps j) hb
        split <;> omega
  refine Nat.le_antisymm ?_ ?_
  · exact (key _ le1).mp (Nat.le_refl _)
  · have : max (min (lastOf ps) (lvl ps (t + 1) + 1)) (dig ps b t) ≤ lastOf ps := Nat.max_le.mpr ⟨Nat.min_le_left _ _, le2⟩
    exact (key _ this).mpr (Nat.le_refl _)
theorem gen_succ {S : HS} (h : Ps S.ps) (c : Ch S.ps) {i : Nat} (hb : S.birth i ≤ S.time) : HS.gen { S with time := S.time + 1 } i = max (min (lastOf S.ps) (lvl S.ps (S.time + 1) + 1)) (S.gen i) := by
  show min (lastOf S.ps) (max (dig S.ps (S.birth i) (S.time + 1)) (S.forced i)) = max (min (lastOf S.ps) (lvl S.ps (S.time + 1) + 1)) (min (lastOf S.ps) (max (dig S.ps (S.birth i) S.time) (S.forced i)))
  rw [dig_succ h c hb]
  omega
theorem gen_lift {S : HS} {l i : Nat} : (S.lift l).gen i = max (min (lastOf S.ps) (l + 1)) (S.gen i) := by
  show min (lastOf S.ps) (max (dig S.ps (S.birth i) S.time) (max (S.forced i) (l + 1))) = max (min (lastOf S.ps) (l + 1)) (min (lastOf S.ps) (max (dig S.ps (S.birth i) S.time) (S.forced i)))
  omega
end HD
set_option Elab.async false
set_option linter.all false
/-! Plain: the heap and the world in step. -/
namespace HD
structure Sync (S : HS) (W : WS) : Prop where
  ps : S.ps = W.ps
  time : S.time = W.time
  n : S.n = W.n
  death : ∀ i, i < S.n → S.death i = W.death i
  gone : ∀ i, i < S.n → S.freed i = W.gone i
  will : ∀ i, i < S.n → S.pend i = W.will i
  gen : ∀ i, i < S.n → S.freed i = false → S.gen i = W.gen i
  prs : ∀ i j, i < S.n → (j ∈ S.tg i ↔ (i, j) ∈ W.prs)
  roots : ∀ i, i ∈ S.roots ↔ i ∈ W.roots
  good : S.Good
  ch : Ch S.ps
  rank : ∀ i, i < S.n → S.death i ≠ none → S.freed i = false → ∃ m, S.rank i = some m ∧ S.MaxG i m
  live : ∀ i, i < S.n → (S.death i = none ↔ Reach S.tg (· ∈ S.roots) i)
  birth : ∀ i, i < S.n → S.birth i ≤ S.time
/-- reach by the references, reach by the pairs -/
theorem Sync.reach {S : HS} {W : WS} (y : Sync S W) (w : S.Bd) {s s' : Nat → Prop} (hs : ∀ i, s i ↔ s' i) (hb : ∀ i, s i → i < S.n) {i : Nat} : Reach S.tg s i ↔ Reach (stepP W.prs) s' i := by
  constructor
  · intro r
    induction r with
    | start h => exact .start ((hs _).mp h)
    | step r e ih => exact .step ih (mem_stepP.mpr ((y.prs _ _ (r.lt hb w.tgl)).mp e))
  · intro r
    have key : Reach S.tg s i ∧ i < S.n := by
      induction r with
      | start h => exact ⟨.start ((hs _).mpr h), hb _ ((hs _).mpr h)⟩
      | step r e ih =>
        have := (y.prs _ _ ih.2).mpr (mem_stepP.mp e)
        exact ⟨.step ih.1 this, w.tgl _ _ ih.2 this⟩
    exact key.1
/-- found by the heap's ranks, ripe by the world's rule -/
theorem Sync.found {S : HS} {W : WS} (y : Sync S W) (w : S.Bd) {l i : Nat} : S.fnd l i ↔ W.ripe l i := by
  have hh : ∀ j, j ∈ W.roots → j < S.n := fun j hj => w.rl j ((y.roots j).mpr hj)
  have hheld : i < S.n → (W.held l i ↔ Reach S.tg (· ∈ S.roots) i ∨ ∃ h, h < S.n ∧ S.freed h = false ∧ l < S.gen h ∧ Path S.tg h i) := fun hi => by
    have e : W.held l i ↔ Reach S.tg (fun j => j ∈ S.roots ∨ (j < S.n ∧ S.freed j = false ∧ l < S.gen j)) i := by
      refine (y.reach w (fun j => ?_) fun j hj => ?_).symm
      · refine or_congr (y.roots j) ?_
        rw [y.n]
        constructor
        · rintro ⟨a, b, c⟩
          have a' : j < S.n := y.n ▸ a
          exact ⟨a, (y.gone j a').symm.trans b, by rw [← y.gen j a' b]; exact c⟩
        · rintro ⟨a, b, c⟩
          have a' : j < S.n := y.n ▸ a
          have b' := (y.gone j a').trans b
          exact ⟨a, b', by rw [y.gen j a' b']; exact c⟩
      · rcases hj with z | z
        · exact w.rl j z
        · exact z.1
    rw [e, reach_path, reach_path]
    constructor
    · rintro ⟨x, hx | ⟨a, b, c⟩, p⟩
      · exact .inl ⟨x, hx, p⟩
      · exact .inr ⟨x, a, b, c, p⟩
    · rintro (⟨x, hx, p⟩ | ⟨h, a, b, c, p⟩)
      · exact ⟨x, .inl hx, p⟩
      · exact ⟨h, .inr ⟨a, b, c⟩, p⟩
  constructor
  · rintro ⟨hi, hd, hf, r, hr, hle⟩
    obtain ⟨m, h1, h2⟩ := y.rank i hi hd hf
    rw [h1] at hr
    cases hr
    have self : S.gen i ≤ l := Nat.le_trans (h2.2 i (.start rfl)) hle
    refine ⟨y.n ▸ hi, (y.gone i hi).symm.trans hf, by rw [← y.gen i hi hf]; exact self, fun z => ?_⟩
    rcases (hheld hi).mp z with q | ⟨h, a, b, c, p⟩
    · exact hd ((y.live i hi).mpr q)
    · have := h2.2 h ((holder_path w y.good.ts hi).mpr ⟨a, p⟩)
      omega
  · rintro ⟨hi, hg, hle, hn⟩
    have hi' : i < S.n := y.n ▸ hi
    have hf := (y.gone i hi').trans hg
    have hn' := fun z => hn ((hheld hi').mpr z)
    have hd : S.death i ≠ none := fun z => hn' (.inl ((y.live i hi').mp z))
    obtain ⟨m, h1, h2⟩ := y.rank i hi' hd hf
    refine ⟨hi', hd, hf, m, h1, ?_⟩
    obtain ⟨h, hr, e⟩ := h2.1
    obtain ⟨a, p⟩ := (holder_path w y.good.ts hi').mp hr
    have u := y.good.upB w hi' hd hf hr
    rw [← e]
    by_cases c : S.gen h ≤ l
    · exact c
    · exact absurd (.inr ⟨h, a, u.2.2, by omega, p⟩) hn'
theorem Sync.running {S : HS} {W : WS} (y : Sync S W) (w : S.Bd) {l i : Nat} : S.rng l i ↔ W.rnn l i := by
  constructor
  · rintro ⟨a, b⟩
    exact ⟨(y.found w).mp a, (y.will i a.1).symm.trans b⟩
  · rintro ⟨a, b⟩
    have c := (y.found w).mpr a
    exact ⟨c, (y.will i c.1).trans b⟩
theorem Sync.saved {S : HS} {W : WS} (y : Sync S W) (w : S.Bd) {l i : Nat} : S.kpt l i ↔ W.saved l i := y.reach w (fun _ => y.running w) fun _ h => h.1.1
theorem Sync.lost {S : HS} {W : WS} (y : Sync S W) (w : S.Bd) {l i : Nat} : S.gon l i ↔ W.lost l i := and_congr (y.found w) (not_congr (y.saved w))
/-- a run keeps them in step: S1 is the heap at the run (its time, then its generations), S2 behind it; g2 the world's generations behind all -/
theorem Sync.ran {S : HS} {W : WS} (y : Sync S W) (w : S.Bd) {l : Nat} {pe rk fr t r} {go wi : Nat → Bool} {pr : List (Nat × Nat)} {g : Nat → Nat} (R : Ran S l pe rk fr t r) (V : WRan W l g go wi pr)
    (tm : Nat) (fo : Nat → Nat) (g2 : Nat → Nat) (ht : S.time ≤ tm)
    (hg : ∀ i, i < S.n → HS.gen { S with time := tm, forced := fo } i = max (min (lastOf S.ps) (l + 1)) (S.gen i)) (hg2 : ∀ i, i < S.n → go i = false → g2 i = max (min (lastOf S.ps) (l + 1)) (W.gen i)) :
    Sync { S with time := tm, forced := fo, pend := pe, rank := rk, freed := fr, tg := t, sr := r } { W with time := tm, gen := g2, gone := go, will := wi, prs := pr } := by
  have frz : ∀ i, i < S.n → (fr i = true ↔ go i = true) := fun i hi => by
    rw [R.fr i, V.gone i, y.gone i hi, y.lost w]
  have fre : ∀ i, i < S.n → fr i = go i := fun i hi => by
    have := frz i hi
    cases h1 : fr i <;> cases h2 : go i <;> simp_all
  have nfr : ∀ i, fr i = false ↔ S.freed i = false ∧ ¬ S.gon l i := fun i => by
    have := R.fr i
    cases h1 : fr i with
    | true =>
      rw [h1] at this
      constructor
      · intro z
        cases z
      · rintro ⟨a, b⟩
        rcases this.mp rfl with z | z
        · rw [a] at z
          cases z
        · exact absurd z b
    | false =>
      rw [h1] at this
      refine ⟨fun _ => ⟨?_, fun z => nomatch this.mpr (.inr z)⟩, fun _ => rfl⟩
      cases h2 : S.freed i with
      | false => rfl
      | true => exact nomatch this.mpr (.inl h2)
  have good := R.good y.good
  have gsub : ∀ i j, i < S.n → j ∈ t i → j ∈ S.tg i := fun i j hi h => ((R.cut.tg i j hi).mp h).1
  have w2 : ∀ i j, i < S.n → j ∈ t i → j < S.n := fun i j hi h => w.tgl i j hi (gsub i j hi h)
  -- gone things are dead
  have gd : ∀ i, S.gon l i → S.death i ≠ none := fun i h => h.1.2.1
  have livep : ∀ {x z}, Path S.tg x z → x < S.n → S.death x = none → Path t x z ∧ S.death z = none ∧ z < S.n := fun {x z} p hx hd => by
    induction p with
    | refl => exact ⟨.refl, hd, hx⟩
    | step p e ih =>
      obtain ⟨q, hq, hq2⟩ := ih
      have hz := w.tgl _ _ hq2 e
      have hdz := y.good.lv _ _ hq2 e hq
      exact ⟨.step q ((R.cut.tg _ _ hq2).mpr ⟨e, fun z => gd _ z hq, fun z => gd _ z hdz⟩), hdz, hz⟩
  refine ⟨y.ps, rfl, y.n, y.death, fre, fun i hi => ?_, fun i hi hf => ?_, fun i j hi => ?_, y.roots, ⟨good.ts, good.rk, good.fr, good.fd, good.lv, good.rt⟩, y.ch, fun i hi hd hf => ?_, fun i hi => ?_, fun i hi => Nat.le_trans (y.birth i hi) ht⟩
  · have h1 := R.pend i
    have h2 := V.will i
    rw [← y.will i hi, ← y.found w] at h2
    show pe i = wi i
    have : pe i = true ↔ wi i = true := h1.trans h2.symm
    cases q1 : pe i <;> cases q2 : wi i <;> simp_all
  · have hf : fr i = false := hf
    obtain ⟨f0, _⟩ := (nfr i).mp hf
    show HS.gen { S with time := tm, forced := fo } i = g2 i
    rw [hg i hi, hg2 i hi (by rw [← fre i hi]; exact hf), y.gen i hi f0]
  · show j ∈ t i ↔ (i, j) ∈ pr
    rw [R.cut.tg i j hi, V.prs (i, j), y.prs i j hi, y.lost w, y.lost w]
  · have hf : fr i = false := hf
    have hd : S.death i ≠ none := hd
    obtain ⟨f0, ng⟩ := (nfr i).mp hf
    obtain ⟨m, h1, h2⟩ := y.rank i hi hd f0
    have hol : ∀ h, Reach r (· = i) h → Reach S.sr (· = i) h ∧ h < S.n := fun h q => by
      induction q with
      | start e => exact ⟨.start e, e ▸ hi⟩
      | step q e ih =>
        have e' := ((R.cut.sr _ _ ih.2).mp e).1
        exact ⟨.step ih.1 e', w.srl _ _ ih.2 e'⟩
    by_cases fk : S.fnd l i
    · have kp : S.kpt l i := by
        by_cases c : S.kpt l i
        · exact c
        · exact absurd ⟨fk, c⟩ ng
      obtain ⟨_, _, _, m', hm', hle⟩ := fk
      rw [h1] at hm'
      cases hm'
      refine ⟨min (lastOf S.ps) (l + 1), R.rk1 i ⟨hi, hd, f0, m, h1, hle⟩ kp, ⟨i, .start rfl, ?_⟩, fun h q => ?_⟩
      · show HS.gen { S with time := tm, forced := fo } i = _
        rw [hg i hi]
        have := h2.2 i (.start rfl)
        have := S.gen_le i
        omega
      · show HS.gen { S with time := tm, forced := fo } h ≤ _
        obtain ⟨q1, q2⟩ := hol h q
        rw [hg h q2]
        have := h2.2 h q1
        have := S.gen_le h
        omega
    · have hlt : l < m := by
        by_cases c : m ≤ l
        · exact absurd ⟨hi, hd, f0, m, h1, c⟩ fk
        · omega
      refine ⟨m, (R.rk0 i fun z => fk z.1).trans h1, ?_, fun h q => ?_⟩
      · obtain ⟨h, q, e⟩ := h2.1
        refine ⟨h, ?_, ?_⟩
        · -- the path is kept
          have hq := (holder_path w y.good.ts hi).mp q
          have nf : ∀ x, x < S.n → Path S.tg h x → ¬ S.gon l x := fun x hx p z => by
            obtain ⟨_, a, b, m2, c, d⟩ := z.1
            obtain ⟨m3, c1, c2⟩ := y.rank x hx a b
            rw [c] at c1
            cases c1
            have := c2.2 h ((holder_path w y.good.ts hx).mpr ⟨hq.1, p⟩)
            omega
          have kp : ∀ x, Path S.tg h x → x < S.n → Path t h x := fun x p hx => by
            have : Path t h x ∧ x < S.n := by
              clear hx
              induction p with
              | refl => exact ⟨.refl, hq.1⟩
              | step p e ih =>
                have hz := w.tgl _ _ ih.2 e
                exact ⟨.step ih.1 ((R.cut.tg _ _ ih.2).mpr ⟨e, nf _ ih.2 p, nf _ hz (.step p e)⟩), hz⟩
            exact this.1
          rw [show Reach r (· = i) h ↔ Path r i h from reach_one]
          exact (kp i hq.2 hi).rev w2 (fun a b ha hb => (good.ts a b ha (w2 a b ha hb)).mp hb) hq.1
        · show HS.gen { S with time := tm, forced := fo } h = m
          rw [hg h ((holder_path w y.good.ts hi).mp q).1, e]
          omega
      · obtain ⟨q1, q2⟩ := hol h q
        show HS.gen { S with time := tm, forced := fo } h ≤ m
        rw [hg h q2]
        have := h2.2 h q1
        omega
  · show S.death i = none ↔ Reach t (· ∈ S.roots) i
    rw [y.live i hi, reach_path, reach_path]
    constructor
    · rintro ⟨x, hx, p⟩
      exact ⟨x, hx, (livep p (w.rl x hx) (y.good.rt x hx)).1⟩
    · rintro ⟨x, hx, p⟩
      exact ⟨x, hx, p.same w2 gsub (w.rl x hx)⟩
end HD
set_option Elab.async false
set_option linter.all false
/-! Plain: each action keeps the heap and the world in step. -/
namespace HD
theorem Sync.noted {S : HS} {W : WS} (y : Sync S W) {k : Nat} : Sync { S with nd := k } W :=
  ⟨y.ps, y.time, y.n, y.death, y.gone, y.will, y.gen, y.prs, y.roots, ⟨y.good.ts, y.good.rk, y.good.fr, y.good.fd, y.good.lv, y.good.rt⟩, y.ch, y.rank, y.live, y.birth⟩
theorem Ran.bd {S : HS} {l : Nat} {pe rk fr t r} (w : S.Bd) (R : Ran S l pe rk fr t r) (tm : Nat) (fo : Nat → Nat) : HS.Bd { S with time := tm, forced := fo, pend := pe, rank := rk, freed := fr, tg := t, sr := r } :=
  ⟨w.p, fun i j hi hj => w.tgl i j hi ((R.cut.tg i j hi).mp hj).1, fun i j hi hj => w.srl i j hi ((R.cut.sr i j hi).mp hj).1, w.rl⟩
theorem Sync.tick {S S' : HS} {W W' : WS} (y : Sync S W) (w : S.Bd) (a : Tick S S') (b : WTick W W') : Sync S' W' ∧ S'.Bd := by
  obtain ⟨pe, rk, fr, t, r, R, rfl⟩ := a
  obtain ⟨g, go, wi, pr, V, rfl⟩ := b
  have R : Ran S (lvl S.ps (S.time + 1)) pe rk fr t r := ⟨R.pend, R.rk1, R.rk0, R.fr, ⟨R.cut.tg, R.cut.sr⟩⟩
  have V : WRan W (lvl S.ps (S.time + 1)) g go wi pr := by
    rw [y.ps, y.time]
    exact ⟨V.will, V.gen1, V.gen0, V.gone, V.prs⟩
  have q := y.ran w R V (S.time + 1) S.forced g (Nat.le_succ _) (fun i hi => gen_succ w.p y.ch (y.birth i hi)) (fun i hi hgo => ?_)
  · rw [← y.time]
    exact ⟨q, Ran.bd w R (S.time + 1) S.forced⟩
  · have ng : W.gone i = false := by
      cases e : W.gone i with
      | false => rfl
      | true =>
        rw [(V.gone i).mpr (.inl e)] at hgo
        cases hgo
    have hf := (y.gone i hi).trans ng
    have gl := S.gen_le i
    rw [y.gen i hi hf] at gl
    have hl : lastOf W.ps = lastOf S.ps := by rw [y.ps]
    have hn : i < W.n := y.n ▸ hi
    by_cases c : W.gen i ≤ lvl S.ps (S.time + 1)
    · rw [V.gen1 i hn ng c, hl]
      omega
    · rw [V.gen0 i fun z => c z.2.2]
      omega
theorem Sync.ticks {k : Nat} : ∀ {S S' : HS} {W W' : WS}, Sync S W → S.Bd → Ticks k S S' → WTicks k W W' → Sync S' W' ∧ S'.Bd := by
  induction k with
  | zero =>
    intro S S' W W' y w a b
    cases a
    cases b
    exact ⟨y, w⟩
  | succ k ih =>
    intro S S' W W' y w a b
    cases a with
    | succ a1 a2 =>
      cases b with
      | succ b1 b2 =>
        obtain ⟨y1, w1⟩ := ih y w a1 b1
        exact y1.tick w1 a2 b2
theorem Sync.forced {S : HS} {W : WS} (y : Sync S W) (w : S.Bd) {l : Nat} {pe rk fr t r} {go wi : Nat → Bool} {pr : List (Nat × Nat)} {g : Nat → Nat} (R : Ran S l pe rk fr t r) (V : WRan W l g go wi pr) :
    Sync (HS.lift { S with pend := pe, rank := rk, freed := fr, tg := t, sr := r } l) { W with gen := fun i => max (min (l + 1) (lastOf W.ps)) (g i), gone := go, will := wi, prs := pr } := by
  have q := y.ran w R V S.time (fun i => max (S.forced i) (l + 1)) (fun i => max (min (l + 1) (lastOf W.ps)) (g i)) (Nat.le_refl _) (fun i hi => gen_lift (S := S)) (fun i hi hgo => ?_)
  · rw [y.time] at q
    have e : ({ S with time := W.time, forced := fun i => max (S.forced i) (l + 1), pend := pe, rank := rk, freed := fr, tg := t, sr := r } : HS) = HS.lift { S with pend := pe, rank := rk, freed := fr, tg := t, sr := r } l := by
      rw [← y.time]
      rfl
    rw [e] at q
    exact q
  · have ng : W.gone i = false := by
      cases e : W.gone i with
      | false => rfl
      | true =>
        rw [(V.gone i).mpr (.inl e)] at hgo
        cases hgo
    have hf := (y.gone i hi).trans ng
    have gl := S.gen_le i
    rw [y.gen i hi hf] at gl
    have hl : lastOf W.ps = lastOf S.ps := by rw [y.ps]
    have hn : i < W.n := y.n ▸ hi
    show max (min (l + 1) (lastOf W.ps)) (g i) = _
    rw [hl]
    by_cases c : W.gen i ≤ l
    · rw [V.gen1 i hn ng c, hl]
      omega
    · rw [V.gen0 i fun z => c z.2.2]
      omega
/-- some references between live objects and some roots are gone, then those that died are told -/
theorem Sync.settled {S : HS} {W : WS} (y : Sync S W) (w : S.Bd) {t r : Nat → List Nat} {ro wro : List Nat} {pr : List (Nat × Nat)} {nd : Nat} {d rk d2 : Nat → Option Nat}
    (sub : ∀ i j, i < S.n → j ∈ t i → j ∈ S.tg i) (cut : ∀ i j, i < S.n → j ∈ S.tg i → ¬ j ∈ t i → S.death i = none) (ts : ∀ i j, i < S.n → j < S.n → (j ∈ t i ↔ i ∈ r j)) (rb : ∀ i j, i < S.n → j ∈ r i → j < S.n)
    (hp : ∀ i j, i < S.n → (j ∈ t i ↔ (i, j) ∈ pr)) (hr : ∀ i, i ∈ ro → i ∈ S.roots) (hro : ∀ i, i ∈ ro ↔ i ∈ wro)
    (A : Settled { S with tg := t, sr := r, roots := ro, nd := nd } d rk) (B : WSettled { W with prs := pr, roots := wro } d2) :
    Sync { S with tg := t, sr := r, roots := ro, nd := nd, death := d, rank := rk } { W with prs := pr, roots := wro, death := d2 } := by
  have tb : ∀ i j, i < S.n → j ∈ t i → j < S.n := fun i j hi h => w.tgl i j hi (sub i j hi h)
  have srs : ∀ i j, i < S.n → j ∈ r i → j ∈ S.sr i := fun i j hi h => by
    have hj := rb i j hi h
    exact (y.good.ts j i hj hi).mp (sub j i hj ((ts j i hj hi).mpr h))
  -- the freed have no references
  have rsub : ∀ {i}, i < S.n → Reach t (· ∈ ro) i → Reach S.tg (· ∈ S.roots) i := fun {i} hi q => by
    rw [reach_path] at q ⊢
    obtain ⟨x, hx, p⟩ := q
    exact ⟨x, hr x hx, p.same tb sub (w.rl x (hr x hx))⟩
  have fe : ∀ i, HS.fresh { S with tg := t, sr := r, roots := ro, nd := nd } i ↔ WS.fresh { W with prs := pr, roots := wro } i := fun i => by
    have rr : i < S.n → (Reach t (· ∈ ro) i ↔ Reach (stepP pr) (· ∈ wro) i) := fun hi => by
      rw [reach_path, reach_path]
      constructor
      · rintro ⟨x, hx, p⟩
        exact ⟨x, (hro x).mp hx, p.same tb (fun a b ha hb => mem_stepP.mpr ((hp a b ha).mp hb)) (w.rl x (hr x hx))⟩
      · rintro ⟨x, hx, p⟩
        have hx' := (hro x).mpr hx
        refine ⟨x, hx', ?_⟩
        have xl := w.rl x (hr x hx')
        have : Path t x i ∧ i < S.n := by
          clear hi
          induction p with
          | refl => exact ⟨.refl, xl⟩
          | step p e ih =>
            have := (hp _ _ ih.2).mpr (mem_stepP.mp e)
            exact ⟨.step ih.1 this, tb _ _ ih.2 this⟩
        exact this.1
    constructor
    · rintro ⟨a, b, c⟩
      have a : i < S.n := a
      have b : S.death i = none := b
      exact ⟨y.n ▸ a, (y.gone i a).symm.trans (y.good.liveF a b), (y.death i a).symm.trans b, fun z => c ((rr a).mpr z)⟩
    · rintro ⟨a, b, c, e⟩
      have a : i < W.n := a
      have a' : i < S.n := y.n ▸ a
      have c : W.death i = none := c
      exact ⟨a', (y.death i a').trans c, fun z => e ((rr a').mp z)⟩
  have dn : ∀ i, i < S.n → (d i = none ↔ S.death i = none ∧ Reach t (· ∈ ro) i) := fun i hi => by
    by_cases f : HS.fresh { S with tg := t, sr := r, roots := ro, nd := nd } i
    · obtain ⟨e, _⟩ := A.new i f
      rw [e]
      constructor
      · intro z
        cases z
      · rintro ⟨_, z⟩
        exact absurd z f.2.2
    · rw [(A.old i f).1]
      show S.death i = none ↔ _
      constructor
      · intro z
        refine ⟨z, ?_⟩
        by_cases c : Reach t (· ∈ ro) i
        · exact c
        · exact absurd ⟨hi, z, c⟩ f
      · exact fun z => z.1
  have lvs : ∀ {i}, i < S.n → (d i = none ↔ Reach t (· ∈ ro) i) := fun {i} hi => by
    rw [dn i hi]
    exact ⟨fun z => z.2, fun z => ⟨(y.live i hi).mpr (rsub hi z), z⟩⟩
  -- the holders of those that were dead
  have old : ∀ {i}, i < S.n → S.death i ≠ none → S.freed i = false → ∀ h, Reach r (· = i) h ↔ Reach S.sr (· = i) h := fun {i} hi hd hf h => by
    constructor
    · intro q
      have key : Reach S.sr (· = i) h ∧ h < S.n := by
        induction q with
        | start e => exact ⟨.start e, e ▸ hi⟩
        | step q e ih =>
          have := srs _ _ ih.2 e
          exact ⟨.step ih.1 this, w.srl _ _ ih.2 this⟩
      exact key.1
    · intro q
      induction q with
      | start e => exact .start e
      | @step x z q e ih =>
        have u := y.good.upB w hi hd hf q
        have v := y.good.upB w hi hd hf (.step q e)
        have ez := (y.good.ts z x v.1 u.1).mpr e
        refine .step ih ((ts z x v.1 u.1).mp ?_)
        by_cases c : x ∈ t z
        · exact c
        · exact absurd (cut z x v.1 ez c) v.2.1
  have gl : ∀ i, HS.gen { S with tg := t, sr := r, roots := ro, nd := nd } i = S.gen i := fun i => rfl
  refine ⟨y.ps, y.time, y.n, fun i hi => ?_, y.gone, y.will, y.gen, hp, hro, ⟨ts, fun i hi hd hf => ?_, fun i hi hf => ?_, fun i hi hf => ?_, fun i j hi hj hd => ?_, fun i hi => ?_⟩, y.ch, fun i hi hd hf => ?_, fun i hi => lvs hi, y.birth⟩
  · show d i = d2 i
    by_cases f : HS.fresh { S with tg := t, sr := r, roots := ro, nd := nd } i
    · rw [(A.new i f).1, B.new i ((fe i).mp f)]
      exact congrArg some y.time
    · rw [(A.old i f).1, B.old i fun z => f ((fe i).mpr z)]
      exact y.death i hi
  · by_cases f : HS.fresh { S with tg := t, sr := r, roots := ro, nd := nd } i
    · obtain ⟨_, m, e, mg⟩ := A.new i f
      refine ⟨m, e, ?_⟩
      obtain ⟨h, _, e2⟩ := mg.1
      rw [← e2]
      exact S.gen_le h
    · show ∃ q, rk i = some q ∧ _
      have hd : d i ≠ none := hd
      rw [(A.old i f).2]
      rw [(A.old i f).1] at hd
      exact y.good.rk i hi hd hf
  · obtain ⟨a, b⟩ := y.good.fr i hi hf
    constructor
    · refine List.eq_nil_iff_forall_not_mem.mpr fun j hj => ?_
      have := sub i j hi hj
      rw [a] at this
      cases this
    · refine List.eq_nil_iff_forall_not_mem.mpr fun j hj => ?_
      have := srs i j hi hj
      rw [b] at this
      cases this
  · intro z
    have z : d i = none := z
    exact y.good.fd i hi hf ((dn i hi).mp z).1
  · have hd : d i = none := hd
    have hj : j ∈ t i := hj
    exact (lvs (tb i j hi hj)).mpr (.step ((lvs hi).mp hd) hj)
  · have hi : i ∈ ro := hi
    exact (lvs (w.rl i (hr i hi))).mpr (.start hi)
  · by_cases f : HS.fresh { S with tg := t, sr := r, roots := ro, nd := nd } i
    · exact (A.new i f).2
    · have hd : d i ≠ none := hd
      rw [(A.old i f).1] at hd
      obtain ⟨m, h1, h2⟩ := y.rank i hi hd hf
      refine ⟨m, (A.old i f).2.trans h1, ?_, fun h q => h2.2 h ((old hi hd hf h).mp q)⟩
      obtain ⟨h, q, e⟩ := h2.1
      exact ⟨h, (old hi hd hf h).mpr q, e⟩
end HD
set_option Elab.async false
set_option linter.all false
/-! Plain: refer, hold, create; every action. -/
namespace HD
theorem mem_joinTg {S : HS} {x y a b : Nat} : b ∈ fset S.tg x (addK (S.tg x) y) a ↔ b ∈ S.tg a ∨ (a = x ∧ b = y) := by
  unfold fset
  split
  · rename_i e
    subst e
    rw [mem_addK]
    exact or_congr Iff.rfl ⟨fun z => ⟨rfl, z⟩, fun z => z.2⟩
  · rename_i e
    exact ⟨.inl, fun h => h.elim id fun z => absurd z.1 e⟩
theorem mem_joinSr {S : HS} {x y a b : Nat} : a ∈ fset S.sr y (addK (S.sr y) x) b ↔ a ∈ S.sr b ∨ (a = x ∧ b = y) := by
  unfold fset
  split
  · rename_i e
    subst e
    rw [mem_addK]
    exact or_congr Iff.rfl ⟨fun z => ⟨z, rfl⟩, fun z => z.1⟩
  · rename_i e
    exact ⟨.inl, fun h => h.elim id fun z => absurd z.2 e⟩
/-- a reference between two live objects, the pair too -/
theorem Sync.joined {S : HS} {W : WS} (y : Sync S W) (w : S.Bd) {a b : Nat} (ha : S.isLive a) (hb : S.isLive b) : Sync (S.joined a b) { W with prs := addP W.prs (a, b) } := by
  have af := y.good.liveF ha.1 ha.2
  have bf := y.good.liveF hb.1 hb.2
  have tgi : ∀ {i j}, j ∈ (S.joined a b).tg i ↔ j ∈ S.tg i ∨ (i = a ∧ j = b) := mem_joinTg
  have sri : ∀ {i j}, i ∈ (S.joined a b).sr j ↔ i ∈ S.sr j ∨ (i = a ∧ j = b) := mem_joinSr
  have tb : ∀ i j, i < S.n → j ∈ (S.joined a b).tg i → j < S.n := fun i j hi h => by
    rcases tgi.mp h with z | z
    · exact w.tgl i j hi z
    · rw [z.2]
      exact hb.1
  have lv : ∀ i j, i < S.n → j ∈ (S.joined a b).tg i → S.death i = none → S.death j = none := fun i j hi hj hd => by
    rcases tgi.mp hj with z | z
    · exact y.good.lv i j hi z hd
    · rw [z.2]
      exact hb.2
  have ts : ∀ i j, i < S.n → j < S.n → (j ∈ (S.joined a b).tg i ↔ i ∈ (S.joined a b).sr j) := fun i j hi hj => by
    rw [tgi, sri, y.good.ts i j hi hj]
  -- into the dead no new path
  have deadp : ∀ {x z}, Path (S.joined a b).tg x z → x < S.n → S.death z ≠ none → Path S.tg x z := fun {x z} p hx => by
    induction p with
    | refl => exact fun _ => .refl
    | @step u v p e ih =>
      intro hd
      have hu := p.lt tb hx
      rcases tgi.mp e with q | q
      · exact .step (ih fun z => hd (y.good.lv _ _ hu q z)) q
      · exact absurd hb.2 (q.2 ▸ hd)
  have sub : ∀ {x z}, Path S.tg x z → x < S.n → Path (S.joined a b).tg x z := fun p hx => p.same w.tgl (fun i j _ h => tgi.mpr (.inl h)) hx
  have livep : ∀ {x z}, Path (S.joined a b).tg x z → x < S.n → S.death x = none → S.death z = none := fun {x z} p hx hd => by
    induction p with
    | refl => exact hd
    | step p e ih => exact lv _ _ (p.lt tb hx) e ih
  have bd : HS.Bd (S.joined a b) := ⟨w.p, tb, fun i j hi h => by
    rcases sri.mp h with z | z
    · exact w.srl i j hi z
    · rw [z.1]
      exact ha.1, w.rl⟩
  refine ⟨y.ps, y.time, y.n, y.death, y.gone, y.will, y.gen, fun i j hi => ?_, y.roots, ⟨ts, y.good.rk, fun i hi hf => ?_, y.good.fd, lv, y.good.rt⟩, y.ch, fun i hi hd hf => ?_, fun i hi => ?_, y.birth⟩
  · rw [tgi, mem_addP, y.prs i j hi]
    refine or_congr Iff.rfl ?_
    constructor
    · rintro ⟨rfl, rfl⟩
      rfl
    · intro z
      exact ⟨congrArg Prod.fst z, congrArg Prod.snd z⟩
  · obtain ⟨q1, q2⟩ := y.good.fr i hi hf
    have hf : S.freed i = true := hf
    have na : i ≠ a := fun z => by
      rw [z, af] at hf
      cases hf
    have nb : i ≠ b := fun z => by
      rw [z, bf] at hf
      cases hf
    exact ⟨(fset_ne _ _ na).trans q1, (fset_ne _ _ nb).trans q2⟩
  · obtain ⟨m, h1, h2⟩ := y.rank i hi hd hf
    have hol : ∀ h, Reach (S.joined a b).sr (· = i) h ↔ Reach S.sr (· = i) h := fun h => by
      rw [holder_path bd ts hi, holder_path w y.good.ts hi]
      exact and_congr_right fun hh => ⟨fun p => deadp p hh hd, fun p => sub p hh⟩
    refine ⟨m, h1, ?_, fun h q => h2.2 h ((hol h).mp q)⟩
    obtain ⟨h, q, e⟩ := h2.1
    exact ⟨h, (hol h).mpr q, e⟩
  · show S.death i = none ↔ Reach (S.joined a b).tg (· ∈ S.roots) i
    rw [reach_path]
    constructor
    · intro z
      obtain ⟨x, hx, p⟩ := reach_path.mp ((y.live i hi).mp z)
      exact ⟨x, hx, sub p (w.rl x hx)⟩
    · rintro ⟨x, hx, p⟩
      exact livep p (w.rl x hx) (y.good.rt x hx)
theorem Sync.held {S : HS} {W : WS} (y : Sync S W) (w : S.Bd) {a : Nat} (ha : S.isLive a) {k : Nat} : Sync { S with roots := addK S.roots a, nd := k } { W with roots := addK W.roots a } := by
  refine ⟨y.ps, y.time, y.n, y.death, y.gone, y.will, y.gen, y.prs, fun i => ?_, ⟨y.good.ts, y.good.rk, y.good.fr, y.good.fd, y.good.lv, fun i hi => ?_⟩, y.ch, y.rank, fun i hi => ?_, y.birth⟩
  · rw [mem_addK, mem_addK, y.roots i]
  · rcases mem_addK.mp hi with z | z
    · exact y.good.rt i z
    · rw [z]
      exact ha.2
  · show S.death i = none ↔ Reach S.tg (· ∈ addK S.roots a) i
    rw [y.live i hi]
    constructor
    · exact Reach.mono (fun x h => mem_addK.mpr (.inl h)) fun _ _ e => e
    · intro r
      have key : Reach S.tg (· ∈ S.roots) i ∧ i < S.n := by
        induction r with
        | start h =>
          rcases mem_addK.mp h with z | z
          · exact ⟨.start z, w.rl _ z⟩
          · rw [z]
            exact ⟨(y.live a ha.1).mp ha.2, ha.1⟩
        | step r e ih =>
          have := w.tgl _ _ (r.lt (fun x h => (mem_addK.mp h).elim (w.rl x) fun z => z ▸ ha.1) w.tgl) e
          exact ⟨.step (ih (r.lt (fun x h => (mem_addK.mp h).elim (w.rl x) fun z => z ▸ ha.1) w.tgl)).1 e, this⟩
      exact key.1
end HD
set_option Elab.async false
set_option linter.all false
/-! Plain: create; every action. -/
namespace HD
theorem fset_lt {α : Type} {f : Nat → α} {n i : Nat} {x : α} (h : i < n) : fset f n x i = f i := fset_ne _ _ (by omega)
theorem split_lt {n i : Nat} (h : i < n + 1) : i < n ∨ i = n := by omega
theorem HS.Bd.grown {S : HS} (w : S.Bd) (f : Bool) : HS.Bd { S.grown f with roots := addK S.roots S.n } := by
  refine ⟨w.p, fun i j hi hj => ?_, fun i j hi hj => ?_, fun i hi => ?_⟩
  · have hj : j ∈ fset S.tg S.n [] i := hj
    rcases split_lt hi with q | rfl
    · rw [fset_lt q] at hj
      exact Nat.lt_succ_of_lt (w.tgl i j q hj)
    · rw [fset_same] at hj
      cases hj
  · have hj : j ∈ fset S.sr S.n [] i := hj
    rcases split_lt hi with q | rfl
    · rw [fset_lt q] at hj
      exact Nat.lt_succ_of_lt (w.srl i j q hj)
    · rw [fset_same] at hj
      cases hj
  · rcases mem_addK.mp hi with z | z
    · exact Nat.lt_succ_of_lt (w.rl i z)
    · rw [z]
      exact Nat.lt_succ_self _
theorem gen_new {S : HS} {f : Bool} : (S.grown f).gen S.n = 0 := by
  show min (lastOf S.ps) (max (dig S.ps (fset S.birth S.n S.time S.n) S.time) (fset S.forced S.n 0 S.n)) = 0
  rw [fset_same, fset_same]
  have : dig S.ps S.time S.time = 0 := by
    unfold dig difs
    have e : ((List.range S.ps.length).filter fun j => decide (S.time / plc S.ps j ≠ S.time / plc S.ps j)) = [] := List.filter_eq_nil_iff.mpr fun a _ => by simp
    rw [e]
    rfl
  rw [this]
  omega
theorem gen_old {S : HS} {f : Bool} {i : Nat} (h : i < S.n) : (S.grown f).gen i = S.gen i := by
  show min (lastOf S.ps) (max (dig S.ps (fset S.birth S.n S.time i) S.time) (fset S.forced S.n 0 i)) = _
  rw [fset_lt h, fset_lt h]
  rfl
theorem Sync.rooted {S : HS} {W : WS} (y : Sync S W) (w : S.Bd) (wb : ∀ q ∈ W.prs, q.1 < W.n) (f : Bool) : Sync { S.grown f with roots := addK S.roots S.n } { W.grown f with roots := addK W.roots W.n } := by
  have nn := y.n
  have tgo : ∀ {i}, i < S.n → (S.grown f).tg i = S.tg i := fun h => fset_lt h
  have tgn : (S.grown f).tg S.n = [] := fset_same _ _ _
  have sro : ∀ {i}, i < S.n → (S.grown f).sr i = S.sr i := fun h => fset_lt h
  have srn : (S.grown f).sr S.n = [] := fset_same _ _ _
  have so : ∀ {x z}, Path S.tg x z → x < S.n → Path (S.grown f).tg x z := fun p hx => p.same w.tgl (fun i j hi h => by rw [tgo hi]; exact h) hx
  have os : ∀ {x z}, Path (S.grown f).tg x z → x < S.n → Path S.tg x z ∧ z < S.n := fun {x z} p hx => by
    induction p with
    | refl => exact ⟨.refl, hx⟩
    | step p e ih =>
      rw [tgo ih.2] at e
      exact ⟨.step ih.1 e, w.tgl _ _ ih.2 e⟩
  have nz : ∀ {z}, Path (S.grown f).tg S.n z → z = S.n := fun {z} p => by
    induction p with
    | refl => rfl
    | step p e ih =>
      rw [ih, tgn] at e
      cases e
  refine ⟨y.ps, y.time, congrArg Nat.succ y.n, fun i hi => ?_, fun i hi => ?_, fun i hi => ?_, fun i hi hf => ?_, fun i j hi => ?_, fun i => ?_, ⟨fun i j hi hj => ?_, fun i hi hd hf => ?_, fun i hi hf => ?_, fun i hi hf => ?_, fun i j hi hj hd => ?_, fun i hi => ?_⟩, y.ch, fun i hi hd hf => ?_, fun i hi => ?_, fun i hi => ?_⟩
  · show fset S.death S.n none i = fset W.death W.n none i
    rw [← nn]
    rcases split_lt hi with q | rfl
    · rw [fset_lt q, fset_lt q, y.death i q]
    · rw [fset_same, fset_same]
  · show fset S.freed S.n false i = fset W.gone W.n false i
    rw [← nn]
    rcases split_lt hi with q | rfl
    · rw [fset_lt q, fset_lt q, y.gone i q]
    · rw [fset_same, fset_same]
  · show fset S.pend S.n f i = fset W.will W.n f i
    rw [← nn]
    rcases split_lt hi with q | rfl
    · rw [fset_lt q, fset_lt q, y.will i q]
    · rw [fset_same, fset_same]
  · show (S.grown f).gen i = fset W.gen W.n 0 i
    rw [← nn]
    rcases split_lt hi with q | rfl
    · have hf : fset S.freed S.n false i = false := hf
      rw [fset_lt q] at hf
      rw [gen_old q, fset_lt q, y.gen i q hf]
    · rw [gen_new, fset_same]
  · show j ∈ (S.grown f).tg i ↔ (i, j) ∈ W.prs
    rcases split_lt hi with q | rfl
    · rw [tgo q]
      exact y.prs i j q
    · rw [tgn]
      refine ⟨fun z => (by cases z), fun z => ?_⟩
      have := wb _ z
      have : S.n < W.n := this
      omega
  · show i ∈ addK S.roots S.n ↔ i ∈ addK W.roots W.n
    rw [mem_addK, mem_addK, y.roots i, nn]
  · show j ∈ (S.grown f).tg i ↔ i ∈ (S.grown f).sr j
    rcases split_lt hi with q | rfl
    · rcases split_lt hj with q' | rfl
      · rw [tgo q, sro q']
        exact y.good.ts i j q q'
      · rw [tgo q, srn]
        exact ⟨fun z => absurd (w.tgl i _ q z) (Nat.lt_irrefl _), fun z => by cases z⟩
    · rcases split_lt hj with q' | rfl
      · rw [tgn, sro q']
        exact ⟨fun z => (by cases z), fun z => absurd (w.srl j _ q' z) (Nat.lt_irrefl _)⟩
      · rw [tgn, srn]
  · have hd : fset S.death S.n none i ≠ none := hd
    have hf : fset S.freed S.n false i = false := hf
    rcases split_lt hi with q | rfl
    · rw [fset_lt q] at hd hf
      show ∃ r, fset S.rank S.n none i = some r ∧ _
      rw [fset_lt q]
      exact y.good.rk i q hd hf
    · rw [fset_same] at hd
      exact absurd rfl hd
  · have hf : fset S.freed S.n false i = true := hf
    rcases split_lt hi with q | rfl
    · rw [fset_lt q] at hf
      show (S.grown f).tg i = [] ∧ (S.grown f).sr i = []
      rw [tgo q, sro q]
      exact y.good.fr i q hf
    · rw [fset_same] at hf
      cases hf
  · have hf : fset S.freed S.n false i = true := hf
    rcases split_lt hi with q | rfl
    · rw [fset_lt q] at hf
      show fset S.death S.n none i ≠ none
      rw [fset_lt q]
      exact y.good.fd i q hf
    · rw [fset_same] at hf
      cases hf
  · have hj : j ∈ (S.grown f).tg i := hj
    have hd : fset S.death S.n none i = none := hd
    rcases split_lt hi with q | rfl
    · rw [tgo q] at hj
      rw [fset_lt q] at hd
      show fset S.death S.n none j = none
      rw [fset_lt (w.tgl i j q hj)]
      exact y.good.lv i j q hj hd
    · rw [tgn] at hj
      cases hj
  · show fset S.death S.n none i = none
    rcases mem_addK.mp hi with z | rfl
    · rw [fset_lt (w.rl i z)]
      exact y.good.rt i z
    · rw [fset_same]
  · have hd : fset S.death S.n none i ≠ none := hd
    have hf : fset S.freed S.n false i = false := hf
    rcases split_lt hi with q | rfl
    · rw [fset_lt q] at hd hf
      obtain ⟨m, h1, h2⟩ := y.rank i q hd hf
      have hol : ∀ h, Reach (S.grown f).sr (· = i) h ↔ Reach S.sr (· = i) h := fun h => by
        rw [reach_one, reach_one]
        constructor
        · intro p
          have key : Path S.sr i h ∧ h < S.n := by
            induction p with
            | refl => exact ⟨.refl, q⟩
            | step p e ih =>
              rw [sro ih.2] at e
              exact ⟨.step ih.1 e, w.srl _ _ ih.2 e⟩
          exact key.1
        · exact fun p => p.same w.srl (fun a b ha hb => by rw [sro ha]; exact hb) q
      have hlt : ∀ {h}, Reach S.sr (· = i) h → h < S.n := fun r => r.lt (fun x e => by rw [e]; exact q) w.srl
      refine ⟨m, ?_, ?_, fun h r => ?_⟩
      · show fset S.rank S.n none i = some m
        rw [fset_lt q]
        exact h1
      · obtain ⟨h, r, e⟩ := h2.1
        exact ⟨h, (hol h).mpr r, (gen_old (f := f) (hlt r)).trans e⟩
      · have r' := (hol h).mp r
        have := h2.2 h r'
        rw [← gen_old (f := f) (hlt r')] at this
        exact this
    · rw [fset_same] at hd
      exact absurd rfl hd
  · show fset S.death S.n none i = none ↔ Reach (S.grown f).tg (· ∈ addK S.roots S.n) i
    rw [reach_path]
    rcases split_lt hi with q | rfl
    · rw [fset_lt q, y.live i q, reach_path]
      constructor
      · rintro ⟨x, hx, p⟩
        exact ⟨x, mem_addK.mpr (.inl hx), so p (w.rl x hx)⟩
      · rintro ⟨x, hx, p⟩
        rcases mem_addK.mp hx with z | rfl
        · exact ⟨x, z, (os p (w.rl x z)).1⟩
        · have := nz p
          omega
    · rw [fset_same]
      exact ⟨fun _ => ⟨S.n, mem_addK.mpr (.inr rfl), .refl⟩, fun _ => rfl⟩
  · show fset S.birth S.n S.time i ≤ S.time
    rcases split_lt hi with q | rfl
    · rw [fset_lt q]
      exact y.birth i q
    · rw [fset_same]
      exact Nat.le_refl _
theorem Sync.isLive {S : HS} {W : WS} (y : Sync S W) {a : Nat} (h : W.alive a) : S.isLive a := by
  have ha : a < S.n := y.n ▸ h.1
  exact ⟨ha, (y.death a ha).trans h.2⟩
theorem Sync.made {S : HS} {W : WS} (y : Sync S W) (w : S.Bd) (wb : ∀ q ∈ W.prs, q.1 < W.n) (ow : Option Nat) (f : Bool) (ho : ∀ a, ow = some a → S.isLive a) : Sync (S.made ow f) (W.made ow f) := by
  have y1 := y.rooted w wb f
  cases ow with
  | none => exact y1
  | some a =>
    have la := ho a rfl
    have b1 := w.grown f
    have hn : fset S.death S.n none S.n = none := fset_same _ _ _
    have ha' : fset S.death S.n none a = none := by
      rw [fset_lt la.1]
      exact la.2
    have y2 := y1.joined b1 (a := a) (b := S.n) ⟨Nat.lt_succ_of_lt la.1, ha'⟩ ⟨Nat.lt_succ_self _, hn⟩
    generalize hS2 : HS.joined { S.grown f with roots := addK S.roots S.n } a S.n = S2 at y2
    -- the root is taken back: none dies
    have e1 : (S.grown f).joined a S.n = { S2 with tg := S2.tg, sr := S2.sr, roots := S.roots, nd := S2.nd, death := S2.death, rank := S2.rank } := by
      rw [← hS2]
      rfl
    have tgi : ∀ {i j}, j ∈ S2.tg i ↔ j ∈ (S.grown f).tg i ∨ (i = a ∧ j = S.n) := fun {i j} => by
      rw [← hS2]
      exact mem_joinTg
    have sri : ∀ {i j}, i ∈ S2.sr j ↔ i ∈ (S.grown f).sr j ∨ (i = a ∧ j = S.n) := fun {i j} => by
      rw [← hS2]
      exact mem_joinSr
    have n2 : S2.n = S.n + 1 := by rw [← hS2]; rfl
    have b2 : S2.Bd := by
      refine ⟨by rw [← hS2]; exact w.p, fun i j hi h => ?_, fun i j hi h => ?_, fun i hi => ?_⟩
      · rw [n2] at hi ⊢
        rcases tgi.mp h with z | z
        · exact b1.tgl i j hi z
        · rw [z.2]
          exact Nat.lt_succ_self _
      · rw [n2] at hi ⊢
        rcases sri.mp h with z | z
        · exact b1.srl i j hi z
        · rw [z.1]
          exact Nat.lt_succ_of_lt la.1
      · rw [n2]
        have hi : i ∈ addK S.roots S.n := by
          rw [← hS2] at hi
          exact hi
        exact b1.rl i hi
    have r2 : S2.roots = addK S.roots S.n := by rw [← hS2]; rfl
    have old : ∀ {x z}, Path S.tg x z → x < S.n → Path S2.tg x z ∧ z < S.n := fun {x z} p hx => by
      induction p with
      | refl => exact ⟨.refl, hx⟩
      | step p e ih =>
        have e' := e
        rw [← fset_lt (f := S.tg) (n := S.n) (x := []) ih.2] at e
        exact ⟨.step ih.1 (tgi.mpr (.inl e)), w.tgl _ _ ih.2 e'⟩
    have nf : ∀ i, ¬ HS.fresh { S2 with tg := S2.tg, sr := S2.sr, roots := S.roots, nd := S2.nd } i := fun i z => by
      obtain ⟨hi, hd, hr⟩ := z
      have hi : i < S2.n := hi
      have hl := (y2.live i hi).mp hd
      apply hr
      show Reach S2.tg (· ∈ S.roots) i
      rw [reach_path] at hl ⊢
      obtain ⟨x, hx, p⟩ := hl
      rw [r2] at hx
      rcases mem_addK.mp hx with q | rfl
      · exact ⟨x, q, p⟩
      · obtain ⟨x0, hx0, p0⟩ := reach_path.mp ((y.live a la.1).mp la.2)
        have q0 := (old p0 (w.rl x0 hx0)).1
        exact ⟨x0, hx0, (Path.step q0 (tgi.mpr (.inr ⟨rfl, rfl⟩))).trans p⟩
    have A : Settled { S2 with tg := S2.tg, sr := S2.sr, roots := S.roots, nd := S2.nd } S2.death S2.rank := ⟨fun i h => absurd h (nf i), fun i _ => ⟨rfl, rfl⟩⟩
    have B : WSettled { { W.grown f with roots := addK W.roots W.n, prs := addP W.prs (a, S.n) } with prs := addP W.prs (a, S.n), roots := W.roots } (W.grown f).death := by
      refine ⟨fun i h => ?_, fun i _ => rfl⟩
      obtain ⟨h1, h2, h3, h4⟩ := h
      have hi : i < S2.n := by
        rw [n2, y.n]
        exact h1
      have hd : S2.death i = none := (y2.death i hi).trans h3
      refine absurd ⟨hi, hd, fun r => h4 ?_⟩ (nf i)
      have r : Reach S2.tg (· ∈ S.roots) i := r
      exact (y2.reach b2 (fun j => y.roots j) (fun j hj => by rw [n2]; exact Nat.lt_succ_of_lt (w.rl j hj))).mp r
    have y3 := y2.settled b2 (t := S2.tg) (r := S2.sr) (ro := S.roots) (wro := W.roots) (pr := addP W.prs (a, S.n)) (nd := S2.nd) (fun i j _ h => h) (fun i j _ h k => absurd h k) y2.good.ts b2.srl y2.prs (fun i h => by rw [r2]; exact mem_addK.mpr (.inl h)) y.roots A B
    show Sync ((S.grown f).joined a S.n) { W.grown f with prs := addP W.prs (a, W.n) }
    rw [e1, ← y.n]
    exact y3
/-- an action the world allows, the heap allows -/
theorem Sync.ok {S : HS} {W : WS} (y : Sync S W) (w : S.Bd) (hn : S.n ≤ 14) {a : Act} (ok : W.Ok a) : S.Ok a := by
  cases a with
  | create ow f => exact ⟨by rw [y.n]; exact ok.1, fun a ha => y.isLive (ok.2 a ha)⟩
  | refer a b => exact ⟨y.isLive ok.1, y.isLive ok.2, hn⟩
  | clear a b =>
    have ha := y.isLive ok.2
    have hm := (y.prs a b ha.1).mpr ok.1
    have hb := w.tgl a b ha.1 hm
    exact ⟨ha, ⟨hb, y.good.lv a b ha.1 hm ha.2⟩, hm, (y.good.ts a b ha.1 hb).mp hm⟩
  | hold a => exact y.isLive ok
  | drop a =>
    have hm := (y.roots a).mpr ok
    exact ⟨⟨w.rl a hm, y.good.rt a hm⟩, hm⟩
  | collect k => exact ok
  | force l =>
    show l < S.ps.length
    rw [y.ps]
    exact ok
/-- every action keeps them in step -/
theorem Sync.step {S S' : HS} {W W' : WS} (y : Sync S W) (w : S.Bd) (wb : ∀ q ∈ W.prs, q.1 < W.n) {a : Act} (ok : W.Ok a) (hs : HAct S a S') (hw : WAct W a W') : Sync S' W' := by
  cases a with
  | create ow f =>
    have hs : S' = (S.made ow f).noted := hs
    have hw : W' = W.made ow f := hw
    rw [hs, hw]
    exact (y.made w wb ow f fun a ha => y.isLive (ok.2 a ha)).noted
  | refer a b =>
    have hs : S' = (S.joined a b).noted := hs
    have hw : W' = { W with prs := addP W.prs (a, b) } := hw
    rw [hs, hw]
    exact (y.joined w (y.isLive ok.1) (y.isLive ok.2)).noted
  | clear a b =>
    obtain ⟨d, r, A, rfl⟩ := hs
    obtain ⟨d2, B, rfl⟩ := hw
    have ha := y.isLive ok.2
    have hm := (y.prs a b ha.1).mpr ok.1
    have hb := w.tgl a b ha.1 hm
    refine y.settled w (t := (S.parted a b).tg) (r := (S.parted a b).sr) (ro := S.roots) (wro := W.roots) (pr := delP W.prs (a, b)) (nd := S.nd + 1) (fun i j _ h => (mem_partTg.mp h).1) (fun i j hi h k => ?_) (fun i j hi hj => ?_) (fun i j hi h => w.srl i j hi (mem_partSr.mp h).1) (fun i j hi => ?_) (fun i h => h) y.roots A B
    · by_cases c : i = a ∧ j = b
      · rw [c.1]
        exact ha.2
      · exact absurd (mem_partTg.mpr ⟨h, c⟩) k
    · refine mem_partTg.trans (Iff.trans ?_ mem_partSr.symm)
      rw [y.good.ts i j hi hj]
    · refine mem_partTg.trans ?_
      rw [mem_delP, y.prs i j hi]
      refine and_congr_right fun _ => not_congr ?_
      constructor
      · rintro ⟨rfl, rfl⟩
        rfl
      · intro z
        exact ⟨congrArg Prod.fst z, congrArg Prod.snd z⟩
  | hold a =>
    have hs : S' = { S with roots := addK S.roots a, nd := S.nd + 1 } := hs
    have hw : W' = { W with roots := addK W.roots a } := hw
    rw [hs, hw]
    exact y.held w (y.isLive ok)
  | drop a =>
    obtain ⟨d, r, A, rfl⟩ := hs
    obtain ⟨d2, B, rfl⟩ := hw
    refine y.settled w (t := S.tg) (r := S.sr) (ro := delK S.roots a) (wro := delK W.roots a) (pr := W.prs) (nd := S.nd + 1) (fun i j _ h => h) (fun i j _ h k => absurd h k) y.good.ts w.srl y.prs (fun i h => (mem_delK.mp h).1) (fun i => ?_) A B
    rw [mem_delK, mem_delK, y.roots i]
  | collect k =>
    obtain ⟨S1, tk, rfl⟩ := hs
    exact (y.ticks w tk hw).1.noted
  | force l =>
    obtain ⟨pe, rk, fr, t, r, R, rfl⟩ := hs
    obtain ⟨g, go, wi, pr, V, rfl⟩ := hw
    exact (y.forced w R V).noted
end HD
set_option Elab.async false
set_option linter.all false
set_option maxRecDepth 100000
set_option maxHeartbeats 4000000
/-! The law's digits, radices, built. -/
namespace HD
open PySem PySem.Spec PyProof.Rows L2 Evl
theorem cutV_nat {ds : List Nat} {a b : Nat} : cutV (nVs ds) (some (a : Int)) (some (b : Int)) = nVs ((ds.drop (min a ds.length)).take (min b ds.length - min a ds.length)) := by
  unfold cutV
  rw [HT.sIx_nat, HT.sIx_nat, nVs_len]
  unfold nVs
  rw [List.map_take, List.map_drop]
theorem cutV_natN {ds : List Nat} {a : Nat} : cutV (nVs ds) (some (a : Int)) none = nVs (ds.drop (min a ds.length)) := by
  unfold cutV
  rw [HT.sIx_nat, HT.sIx_none, nVs_len]
  unfold nVs
  rw [← List.map_drop, ← List.map_take, List.take_of_length_le (by rw [List.length_drop]; exact Nat.le_refl _)]
section
variable {P : Program} {w : World} {K : PySem.W.Frag} {mg : Str → Option Value} {base : Heap}
theorem sc_Ldigits : FnScope ["_law_cell_here", "_law_many", "_law_digits_here", "_law_rest", "_law_number", "_law_k"] ["_law_cell_here", "_law_many"] (defScope s_Ldigits) := ⟨rfl, rfl, rfl, by decide +kernel, rfl, by decide +kernel, by decide +kernel⟩
def sp_Ldigits : Sp := fun vs H Q _ => ∃ (z : Int) (m : Nat), vs = [.int z, nV m] ∧ m ≤ 1000 ∧ ∀ (ds : List Nat) p H2, ds.length = m → (∀ d ∈ ds, d < 1009) → H p = none → Ex H H2 → H2 p = some (.lst (nVs ds)) → Q (.ref p) H2
theorem ok_Ldigits (T : TX K mg) : Glob P w K mg base 1 "_law_digits" ["_law_cell_here", "_law_many"] sp_Ldigits := by
  have SC := sc_Ldigits
  refine glob_mk (F_Ldigits T) (g_Ldigits T) sc_Ldigits (fun _ _ _ _ _ _ us hl => match us, hl with | [_, _], _ => rfl) (fun vs H Q E h => ?_) (fun cdv A outer s H vs Q E hr h => ?_)
  · obtain ⟨z, m, rfl, _⟩ := h
    rfl
  · obtain ⟨z, m, rfl, hm, k⟩ := h
    refine ⟨_, (pss_cons (ps_set (i := 2) SC.nd rfl (Or.inl rfl) (pe_lst pa_nil))
    (pss_cons (ps_set (i := 3) SC.nd rfl (Or.inl rfl) pe_int)
    (pss_cons (ps_if (pt_cmpR op_ge (pv 0) (pe_op op_pow pe_int pe_int) (nomark _))
      (pss_one (ps_set (i := 3) SC.nd rfl (Or.inl rfl) (pv 0)))
      pss_nil)
    (pss_cons (ps_set (i := 4) SC.nd rfl (Or.inl rfl) (pe_op op_mod (pv 0) pe_int))
    (pss_cons (ps_for PassesOwn.never rfl (pi_range1 rfl (b_range T) (pa_cons (pv 1) pa_nil)) (pg_name (i := 5) SC.nd rfl (Or.inl rfl))
      (pss_cons (ps_set (i := 4) SC.nd rfl (Or.inl rfl) (pe_op op_mod (pe_op op_add (pe_op op_add (pe_op op_mulW (pv 4) pe_int) (pe_op op_mulW pe_int (pv 5))) pe_int) pe_int))
    (pss_cons (ps_set (i := 4) SC.nd rfl (Or.inl rfl) (pe_op op_mod (pe_op op_mulW (pv 4) (pe_op op_add (pe_op op_fdivW (pv 4) pe_int) pe_int)) pe_int))
    (pss_one (ps_if (pt_cmpR op_gt (pv 3) pe_int (nomark _))
      (pss_cons (ps_expr (pe_bm PySem.F.plainAttrs_list PySem.F.slot_list_append PySem.F.type_list_append mt_append (pv 2) (pa_cons (pe_op op_mod (pv 3) pe_int) pa_nil)))
    (pss_one (ps_set (i := 3) SC.nd rfl (Or.inl rfl) (pe_op op_fdivW (pv 3) pe_int))))
      (pss_one (ps_expr (pe_bm PySem.F.plainAttrs_list PySem.F.slot_list_append PySem.F.type_list_append mt_append (pv 2) (pa_cons (pe_op op_mod (pe_op op_fdivW (pv 4) pe_int) pe_int) pa_nil)))))))))
    (pss_one (ps_ret (pv 2)))))))), ?_⟩
    refine q_asgL (el_lst ea_nil (Nat.zero_le _)) fun p H1 np e1 hp => ?_
    refine q_asg (v := nV 0) ev_c fun H2 e2 => ?_
    -- behind the if
    have rest : ∀ (re : Nat) (H3 : Hp), Ex H1 H3 → tSeq (tAsg (tOp (rI (fun _ j => 0 < j) fun i j => .int (i % j)) (tVar 0) (tC (.int 2147483647))) (gName 4)) (tSeq (tFor (iRng1 (tCons (tVar 1) tNil)) (gName 5)
        (tSeq (tAsg (tOp (rI (fun _ j => 0 < j) fun i j => .int (i % j)) (tOp (rI0 fun i j => .int (i + j)) (tOp (rI0 fun i j => .int (i + j)) (tOp (rI CMulW fun i j => .int (i * j)) (tVar 4) (tC (.int 48271))) (tOp (rI CMulW fun i j => .int (i * j)) (tC (.int 30103)) (tVar 5))) (tC (.int 11))) (tC (.int 2147483647))) (gName 4))
        (tSeq (tAsg (tOp (rI (fun _ j => 0 < j) fun i j => .int (i % j)) (tOp (rI CMulW fun i j => .int (i * j)) (tVar 4) (tOp (rI0 fun i j => .int (i + j)) (tOp (rI CDivW fun i j => .int (i / j)) (tVar 4) (tC (.int 1009))) (tC (.int 69621)))) (tC (.int 2147483629))) (gName 4))
          (tIfS (tTest (tOp (rI0 fun i j => .bl (decide (j < i))) (tVar 3) (tC (.int 0))))
            (tSeq (tDrop (tBM K "list" rAppend (tVar 2) (tCons (tOp (rI (fun _ j => 0 < j) fun i j => .int (i % j)) (tVar 3) (tC (.int 1009))) tNil))) (tAsg (tOp (rI CDivW fun i j => .int (i / j)) (tVar 3) (tC (.int 1009))) (gName 3)))
            (tDrop (tBM K "list" rAppend (tVar 2) (tCons (tOp (rI (fun _ j => 0 < j) fun i j => .int (i % j)) (tOp (rI CDivW fun i j => .int (i / j)) (tVar 4) (tC (.int 7))) (tC (.int 1009))) tNil)))))))
        (tRet (tVar 2))) { nx := fun _ H' => Q .non H', rt := Q } [some (.int z), some (nV m), some (.ref p), some (nV re), none, none] H3 := by
      intro re H3 e3
      have zm : V.int (z % 2147483647) = nV (z % 2147483647).toNat := by
        have : 0 ≤ z % 2147483647 := Int.emod_nonneg _ (by decide)
        refine congrArg V.int ?_
        omega
      have zlt : (z % 2147483647).toNat < 2147483647 := by
        have h1 : 0 ≤ z % 2147483647 := Int.emod_nonneg _ (by decide)
        have h2 : z % 2147483647 < 2147483647 := Int.emod_lt_of_pos _ (by decide)
        omega
      refine q_asg (ev_is (ev_op (ev_var rfl) ev_c (rv_I (by decide))) zm) fun H4 e4 => ?_
      refine u_seq (s_forR1 (ea_cons (ev_var rfl) ea_nil) (by omega) (fun j σ H' => ∃ re nu ds x, σ = [some (.int z), some (nV m), some (.ref p), some (nV re), some (nV nu), x] ∧ Ex H H' ∧ H' p = some (.lst (nVs ds)) ∧ ds.length = j ∧ (∀ d ∈ ds, d < 1009) ∧ nu < 2147483647)
        (fun H5 e5 => ⟨re, _, [], none, rfl, ((e1.trans e3).trans e4).trans e5, e5 _ _ (e4 _ _ (e3 _ _ hp)), rfl, fun d hd => (by cases hd), zlt⟩) (fun j σ' H' hj q => ?_) (fun σ' H' q => ?_))
      · obtain ⟨re, nu, ds, x, rfl, ex, hp', hl, hb, hn⟩ := q
        have hn31 : nu < 2 ^ 31 := Nat.lt_of_lt_of_le hn (by decide)
        refine q_asg (ev_op (ev_op (ev_op (ev_op (ev_var rfl) (ev_c (v := nV 48271)) (rv_mulN 31 16 hn31 (by decide))) (ev_op (ev_c (v := nV 30103)) (ev_var (v := nV j) rfl) (rv_mulN 15 20 (by decide) (by omega))) rv_addN) (ev_c (v := nV 11)) rv_addN) (ev_c (v := nV 2147483647)) (rv_modN (by decide))) fun H5 e5 => ?_
        have n1 : (nu * 48271 + 30103 * j + 11) % 2147483647 < 2 ^ 31 := Nat.lt_of_lt_of_le (Nat.mod_lt _ (by decide)) (by decide)
        generalize (nu * 48271 + 30103 * j + 11) % 2147483647 = nu1 at n1
        have d1 : nu1 / 1009 + 69621 < 2 ^ 31 := by
          have := Nat.div_le_self nu1 1009
          have h2 : nu1 / 1009 ≤ 2 ^ 31 / 1009 := Nat.div_le_div_right (Nat.le_of_lt n1)
          have h3 : 2 ^ 31 / 1009 + 69621 < 2 ^ 31 := by decide
          omega
        refine q_asg (ev_op (ev_op (ev_var (v := nV nu1) rfl) (ev_op (ev_op (ev_var (v := nV nu1) rfl) (ev_c (v := nV 1009)) (rv_divN 10 (by decide) (by decide))) (ev_c (v := nV 69621)) rv_addN) (rv_mulN 31 31 n1 d1)) (ev_c (v := nV 2147483629)) (rv_modN (by decide))) fun H6 e6 => ?_
        have n2 : nu1 * (nu1 / 1009 + 69621) % 2147483629 < 2147483647 := Nat.lt_of_lt_of_le (Nat.mod_lt _ (by decide)) (by decide)
        generalize nu1 * (nu1 / 1009 + 69621) % 2147483629 = nu2 at n2
        have hp6 := e6 _ _ (e5 _ _ hp')
        have ex6 := (ex.trans e5).trans e6
        have snoc : ∀ d, d < 1009 → ∀ x ∈ ds ++ [d], x < 1009 := fun d hd x hx => by
          rcases List.mem_append.mp hx with q | q
          · exact hb x q
          · rw [List.mem_singleton.mp q]
            exact hd
        have np0 : H p = none := np
        refine s_if (b := decide (0 < re)) (et_test (ev_op (ev_var (v := nV re) rfl) (ev_c (v := nV 0)) rv_gtN)) (fun hb H7 e7 => ?_) (fun hb H7 e7 => ?_)
        · refine u_seq (s_app (e7 _ _ hp6) (ev_var rfl) (ev_op (ev_var (v := nV re) rfl) (ev_c (v := nV 1009)) (rv_modN (by decide))) (by rw [nVs_len]; omega) fun H8 e8 => ?_)
          refine s_asg (ev_op (ev_var (v := nV re) rfl) (ev_c (v := nV 1009)) (rv_divN 10 (by decide) (by decide))) fun H9 e9 => ?_
          refine ⟨_, nu2, ds ++ [re % 1009], _, rfl, (Ex.mut ((ex6.trans e7).trans e8) np0).trans e9, ?_, by rw [List.length_append, hl]; rfl, snoc _ (Nat.mod_lt _ (by decide)), n2⟩
          refine e9 _ _ ?_
          rw [upd_same, nVs_app]
        · refine s_app (e7 _ _ hp6) (ev_var rfl) (ev_op (ev_op (ev_var (v := nV nu2) rfl) (ev_c (v := nV 7)) (rv_divN 10 (by decide) (by decide))) (ev_c (v := nV 1009)) (rv_modN (by decide))) (by rw [nVs_len]; omega) fun H8 e8 => ?_
          refine ⟨re, nu2, ds ++ [nu2 / 7 % 1009], _, rfl, Ex.mut ((ex6.trans e7).trans e8) np0, ?_, by rw [List.length_append, hl]; rfl, snoc _ (Nat.mod_lt _ (by decide)), n2⟩
          rw [upd_same, nVs_app]
      · obtain ⟨re, nu, ds, x, rfl, ex, hp', hl, hb, hn⟩ := q
        rw [Int.toNat_natCast] at hl
        exact s_ret (ev_var rfl) fun H5 e5 => k ds p H5 hl hb np (ex.trans e5) (e5 _ _ hp')
    have hpow : V.int ((10 : Int) ^ (18 : Int).toNat) = .int 1000000000000000000 := by decide
    refine q_when (b := decide ((1000000000000000000 : Int) ≤ z)) (et_test (ev_op (ev_var rfl) (ev_is (ev_op ev_c ev_c (rv_I ⟨by decide, by decide, by decide⟩)) hpow) rv_I0)) (fun hb H3 e3 => ?_) (fun hb H3 e3 => ?_)
    · have hz := of_decide_eq_true hb
      have e : V.int z = nV z.toNat := congrArg V.int (by omega)
      refine s_asg (ev_is (ev_var rfl) e) fun H4 e4 => ?_
      exact rest z.toNat H4 ((e2.trans e3).trans e4)
    · exact rest 0 H3 (e2.trans e3)
end
end HD
set_option Elab.async false
set_option linter.all false
set_option maxRecDepth 100000
set_option maxHeartbeats 4000000
/-! The law's radices, built. -/
namespace HD
open PySem PySem.Spec PyProof.Rows L2 Evl
theorem HAct.facts {S S' : HS} {a : Act} (h : HAct S a S') (ok : S.Ok a) (hn : S.n ≤ 14) : S'.ps = S.ps ∧ S'.nd = S.nd + 1 ∧ S'.time ≤ S.time + 9 ∧ S'.n ≤ 14 := by
  cases a with
  | create ow f =>
    have h : S' = (S.made ow f).noted := h
    have ok : S.n ≤ 13 ∧ _ := ok
    rw [h]
    cases ow with
    | none => exact ⟨rfl, rfl, Nat.le_add_right _ _, by show S.n + 1 ≤ 14; omega⟩
    | some a => exact ⟨rfl, rfl, Nat.le_add_right _ _, by show S.n + 1 ≤ 14; omega⟩
  | refer a b =>
    have h : S' = (S.joined a b).noted := h
    rw [h]
    exact ⟨rfl, rfl, Nat.le_add_right _ _, hn⟩
  | clear a b =>
    obtain ⟨d, r, _, rfl⟩ := h
    exact ⟨rfl, rfl, Nat.le_add_right _ _, hn⟩
  | hold a =>
    have h : S' = { S with roots := addK S.roots a, nd := S.nd + 1 } := h
    rw [h]
    exact ⟨rfl, rfl, Nat.le_add_right _ _, hn⟩
  | drop a =>
    obtain ⟨d, r, _, rfl⟩ := h
    exact ⟨rfl, rfl, Nat.le_add_right _ _, hn⟩
  | collect k =>
    obtain ⟨S1, tk, rfl⟩ := h
    have ok : 1 ≤ k ∧ k ≤ 9 := ok
    obtain ⟨a, b, c, d⟩ := tk.same
    exact ⟨b, congrArg Nat.succ d, by show S1.time ≤ _; omega, by show S1.n ≤ 14; omega⟩
  | force l =>
    obtain ⟨pe, rk, fr, t, r, _, rfl⟩ := h
    exact ⟨rfl, rfl, Nat.le_add_right _ _, hn⟩
theorem sync0 {rs : List Nat} (h : Rad rs) (c : Ch (pl 1 rs)) : Sync (newS (pl 1 rs)) (newW (pl 1 rs) 0) :=
  ⟨rfl, rfl, rfl, fun i hi => absurd hi (Nat.not_lt_zero _), fun i hi => absurd hi (Nat.not_lt_zero _), fun i hi => absurd hi (Nat.not_lt_zero _), fun i hi => absurd hi (Nat.not_lt_zero _), fun i j hi => absurd hi (Nat.not_lt_zero _), fun i => Iff.rfl,
    ⟨fun i j hi => absurd hi (Nat.not_lt_zero _), fun i hi => absurd hi (Nat.not_lt_zero _), fun i hi => absurd hi (Nat.not_lt_zero _), fun i hi => absurd hi (Nat.not_lt_zero _), fun i j hi => absurd hi (Nat.not_lt_zero _), fun i hi => (by cases hi)⟩, c, fun i hi => absurd hi (Nat.not_lt_zero _), fun i hi => absurd hi (Nat.not_lt_zero _), fun i hi => absurd hi (Nat.not_lt_zero _)⟩
theorem pl_ch : ∀ {p : Nat} {rs : List Nat}, Ch (pl p rs)
  | p, [], j, h => absurd h (by show ¬ j + 1 < 1; omega)
  | p, r :: rs, 0, h => by
    show p ∣ plc (pl (p * r) rs) 0
    cases rs with
    | nil => exact ⟨r, rfl⟩
    | cons a b => exact ⟨r, rfl⟩
  | p, r :: rs, j + 1, h => by
    have := pl_ch (p := p * r) (rs := rs) j (by
      have : j + 1 + 1 < (pl (p * r) rs).length + 1 := h
      omega)
    exact this
/-- small radices -/
structure Few (rs : List Nat) : Prop where
  len : rs.length ≤ 3
  lo : ∀ r ∈ rs, 2 ≤ r
  hi : ∀ r ∈ rs, r ≤ 4
theorem Few.rad {rs : List Nat} (h : Few rs) : Rad rs := ⟨Nat.le_trans h.len (by decide), h.lo, fun r hr => Nat.le_trans (h.hi r hr) (by decide)⟩
section
variable {P : Program} {w : World} {K : PySem.W.Frag} {mg : Str → Option Value} {base : Heap}
theorem sc_Lradices : FnScope ["_law_digits_here", "_law_digit"] ["_law_digits_here"] (defScope s_Lradices) := ⟨rfl, rfl, rfl, by decide +kernel, rfl, by decide +kernel, by decide +kernel⟩
def sp_Lradices : Sp := fun vs H Q _ => ∃ (l : Addr) (ds : List Nat), vs = [.ref l] ∧ H l = some (.lst (nVs ds)) ∧ 4 ≤ ds.length ∧ ds.length ≤ 1000 ∧ ∀ rs p H2, Few rs → H p = none → Ex H H2 → H2 p = some (.lst (nVs rs)) → Q (.ref p) H2
theorem ok_Lradices (T : TX K mg) : Glob P w K mg base 1 "_law_radices" ["_law_digits_here"] sp_Lradices := by
  have SC := sc_Lradices
  refine glob_mk (F_Lradices T) (g_Lradices T) sc_Lradices (fun _ _ _ _ _ _ us hl => match us, hl with | [_], _ => rfl) (fun vs H Q E h => ?_) (fun cdv A outer s H vs Q E hr h => ?_)
  · obtain ⟨l, ds, rfl, _⟩ := h
    rfl
  · obtain ⟨l, ds, rfl, hl, h4, hz, k⟩ := h
    refine ⟨_, (pss_one (ps_ret (pe_lc (own := [("_law_digit", 1)]) rfl SC.nd (pi_list (pe_slice sl_list (pv 0) (po_some pe_int) (po_some (pe_op op_add pe_int (pe_op op_mod (kix (K := K) (pv 0) pe_int) pe_int))))) (blkOk_by (own := [("_law_digit", 1)]) (N := ["_law_digits_here", "_law_digit"]) (sc := defScope s_Lradices) (by decide +kernel)) (fun _ _ _ _ _ => (pg_name (i := 1) SC.nd rfl (Or.inl rfl))) (fun _ _ _ _ _ => pts_nil) (fun _ _ _ _ _ => (pe_op op_add pe_int (pe_op op_mod (pv 1) pe_int)))))), ?_⟩
    have sl := el_sl (K := K) (σ := start ["_law_digits_here", "_law_digit"] [.ref l]) (ev_var (i := 0) rfl) (eo_some (ev_c (v := .int ((1 : Nat) : Int)))) (eo_some (ev_op (ev_c (v := nV 1)) (ev_op (ev_op (ev_var (i := 0) rfl) (ev_c (v := .int ((0 : Nat) : Int))) (rv_ixL (K := K) (sq_of hl) (atI_nat (v := nV (ds.getD 0 0)) (by rw [List.getElem?_map, getD_at (by omega)]; rfl)))) (ev_c (v := nV 4)) (rv_modN (by decide))) rv_addN)) (sq_of hl)
    rw [cutV_nat] at sl
    generalize hd : (ds.drop (min 1 ds.length)).take (min (1 + ds.getD 0 0 % 4) ds.length - min 1 ds.length) = d2 at sl
    have l2 : d2.length ≤ 3 := by
      rw [← hd, List.length_take]
      have := Nat.mod_lt (ds.getD 0 0) (show 0 < 4 by decide)
      omega
    refine s_retL (el_lcNL (fun _ => true) (fun i => nV (2 + d2.getD i 0 % 3)) sl (by rw [nVs_len]; omega) (fun _ => rfl) (fun i x H1 e1 hx => EvT.yes (fun H Q q => q) H1) (fun i x H1 e1 hx _ => ?_)) fun p H1 np e1 hp => ?_
    · obtain ⟨hj, rfl⟩ := nVs_at hx
      exact ev_op (ev_c (v := nV 2)) (ev_op (ev_var rfl) (ev_c (v := nV 3)) (rv_modN (by decide))) rv_addN
    · rw [nVs_len, map_at d2 (fun d => 2 + d % 3)] at hp
      refine k _ p H1 ⟨by rw [List.length_map]; exact l2, fun r hr => ?_, fun r hr => ?_⟩ np e1 hp
      · obtain ⟨d, _, rfl⟩ := List.mem_map.mp hr
        omega
      · obtain ⟨d, _, rfl⟩ := List.mem_map.mp hr
        have := Nat.mod_lt d (show 0 < 3 by decide)
        omega
/-- a heap and a world in step, apart from one another, above what stood in H -/
structure Both (K : PySem.W.Frag) (H H' : Hp) (A : Rep) (S : HS) (B : WRep) (W : WS) : Prop where
  ha : HeapAt K H' A S
  wa : WorldAt H' B W
  sy : Sync S W
  ex : Ex H H'
  dj : ∀ b, Own A S.n b → ¬ WOwn B b
  fa : ∀ b, Own A S.n b → H b = none
  fb : ∀ b, WOwn B b → H b = none
  n14 : S.n ≤ 14
theorem Own.some {K : PySem.W.Frag} {H : Hp} {A : Rep} {S : HS} (h : HeapAt K H A S) {b : Addr} (o : Own A S.n b) : H b ≠ none := by
  obtain ⟨l, hl, rfl⟩ := o
  rw [h.ob l hl]
  exact fun z => nomatch z
theorem WOwn.some {H : Hp} {B : WRep} {W : WS} (h : WorldAt H B W) {b : Addr} (o : WOwn B b) : H b ≠ none := by
  obtain ⟨l, rfl⟩ := o
  rw [h.ob l]
  exact fun z => nomatch z
theorem Both.mid {K : PySem.W.Frag} {H H1 H2 : Hp} {A : Rep} {S : HS} {B B' : WRep} {W W' : WS} (h : Both K H H1 A S B W) (st : WStep H1 H2 B B' W W') : HeapAt K H2 A S :=
  h.ha.frame st.chg fun b o o2 => h.dj b o2 o
theorem Both.step {K : PySem.W.Frag} {H H1 H2 H3 : Hp} {A A' : Rep} {S S' : HS} {B B' : WRep} {W W' : WS} (h : Both K H H1 A S B W) (st : WStep H1 H2 B B' W W') (su : Step K H2 H3 A A' S S') (sy : Sync S' W') (n14 : S'.n ≤ 14) : Both K H H3 A' S' B' W' := by
  have hm := h.mid st
  have dm : ∀ b, Own A S.n b → ¬ WOwn B' b := fun b o o2 => by
    rcases st.own b o2 with z | z
    · exact h.dj b o z
    · exact Own.some h.ha o z
  have hw : WorldAt H3 B' W' := st.ha.frame su.chg dm
  have xm : Ex H H2 := fun b o hb => st.chg b o (h.ex b o hb) fun z => by
    rw [h.fb b z] at hb
    cases hb
  have x3 : Ex H H3 := fun b o hb => su.chg b o (xm b o hb) fun z => by
    rw [h.fa b z] at hb
    cases hb
  refine ⟨su.ha, hw, sy, x3, fun b o o2 => ?_, fun b o => ?_, fun b o => ?_, n14⟩
  · rcases su.own b o with z | z
    · exact dm b z o2
    · exact WOwn.some st.ha o2 z
  · rcases su.own b o with z | z
    · exact h.fa b z
    · exact fresh_back xm z
  · rcases st.own b o with z | z
    · exact h.fb b z
    · exact fresh_back h.ex z
theorem Both.to {K : PySem.W.Frag} {H H1 H2 : Hp} {A : Rep} {S : HS} {B : WRep} {W : WS} (h : Both K H H1 A S B W) (e : Ex H1 H2) : Both K H H2 A S B W :=
  ⟨h.ha.ex e, h.wa.ex e, h.sy, h.ex.trans e, h.dj, h.fa, h.fb, h.n14⟩
theorem q_dropE {te : TE} {D : Ends} {tz : TS} {σ : L2.St} {H : Hp} (h : te σ H fun _ H1 => tz D σ H1) : tSeq (tDrop te) tz D σ H := h
theorem ea_argL {ta tl : TE} {tc : TA} {σ : L2.St} {H : Hp} {x : V} {xs vs : List V} {Q : List V → Hp → Prop} (h : Ev ta σ H x) (hl : EvL tl σ H xs) (hc : EvA tc σ H vs) (k : ∀ p H1, H p = none → Ex H H1 → H1 p = some (.lst xs) → Q (x :: .ref p :: vs) H1) : tCons ta (tCons tl tc) σ H Q :=
  h H (Ex.refl _) _ fun H1 e1 => hl H1 e1 _ fun p H2 np e2 hp => hc H2 (e1.trans e2) _ fun H3 e3 => k p H3 (fresh_back e1 np) ((e1.trans e2).trans e3) (e3 _ _ hp)
theorem sc_Lbuilt : FnScope ["_law_digits_here", "_law_most", "_law_radices_here", "_law_world_here", "_law_heap", "_law_k", "_law_action"] ["_law_digits_here", "_law_most"] (defScope s_Lbuilt) := ⟨rfl, rfl, rfl, by decide +kernel, rfl, by decide +kernel, by decide +kernel⟩
def sp_Lbuilt (K : PySem.W.Frag) : Sp := fun vs H Q _ => ∃ (l : Addr) (ds : List Nat), vs = [.ref l, .int 30] ∧ H l = some (.lst (nVs ds)) ∧ ds.length = 150 ∧
  ∀ A S B W rs p H2, Both K H H2 A S B W → Few rs → S.ps = pl 1 rs → S.time ≤ 270 → H p = none → H2 p = some (.tup [.ref (A.at_ .inst), .ref (B.at_ .dict)]) → ¬ Own A S.n p → ¬ WOwn B p → Q (.ref p) H2
theorem ok_Lbuilt (T : TX K mg) : Glob P w K mg base 7 "_law_built" ["_law_digits_here", "_law_most"] (sp_Lbuilt K) := by
  have SC := sc_Lbuilt
  refine glob_mk (F_Lbuilt T) (g_Lbuilt T) sc_Lbuilt (fun _ _ _ _ _ _ us hl => match us, hl with | [_, _], _ => rfl) (fun vs H Q E h => ?_) (fun cdv A outer s H vs Q E hr h => ?_)
  · obtain ⟨l, ds, rfl, _⟩ := h
    rfl
  · obtain ⟨l, ds, rfl, hl, h150, k⟩ := h
    refine ⟨_, (pss_cons (ps_set (i := 2) SC.nd rfl (Or.inl rfl) (pg_call (ok_Lradices T) hr (by decide) rfl (pa_cons (pv 0) pa_nil)))
    (pss_cons (ps_set (i := 3) SC.nd rfl (Or.inl rfl) (pg_call (ok_Lworld T) hr (by decide) rfl (pa_cons (pv 2) (pa_cons pe_int pa_nil))))
    (pss_cons (ps_set (i := 4) SC.nd rfl (Or.inl rfl) (pk_make (ok_H_init T) hr (by decide) rfl (g_Heap T) (pa_cons (pk_make (ok_S_init T) hr (by decide) rfl (g_Scheme T) (pa_cons (pv 2) pa_nil)) pa_nil)))
    (pss_cons (ps_for PassesOwn.never rfl (pi_range1 rfl (b_range T) (pa_cons (pv 1) pa_nil)) (pg_name (i := 5) SC.nd rfl (Or.inl rfl))
      (pss_cons (ps_set (i := 6) SC.nd rfl (Or.inl rfl) (pg_call (ok_Lchosen T) hr (by decide) rfl (pa_cons (pv 3) (pa_cons (pe_slice sl_list (pv 0) (po_some (pe_op op_add pe_int (pe_op op_mulW pe_int (pv 5)))) (po_some (pe_op op_add pe_int (pe_op op_mulW pe_int (pv 5))))) (pa_cons pe_int (pa_cons pe_bl pa_nil))))))
    (pss_cons (ps_expr (pg_call (ok_Lperform T) hr (by decide) rfl (pa_cons (pv 3) (pa_cons (pv 6) pa_nil))))
    (pss_one (ps_expr (pg_call (ok_Ldo T) hr (by decide) rfl (pa_cons (pv 4) (pa_cons (pv 6) pa_nil))))))))
    (pss_one (ps_ret (pe_tup (pa_cons (pv 4) (pa_cons (pv 3) pa_nil))))))))), ?_⟩
    have ev1 : EvA (tCons (tVar 0) tNil) [some (.ref l), some (.int 30), none, none, none, none, none] H [.ref l] := ea_cons (ev_var rfl) ea_nil
    refine q_asgE ?_
    refine ev1 H (Ex.refl _) _ fun H1 e1 => ?_
    refine ⟨l, ds, rfl, e1 _ _ hl, by omega, by omega, fun rs pr H2 few npr e2 hpr => ?_⟩
    have ev2 : EvA (tCons (tVar 2) (tCons (tC (.int 0)) tNil)) [some (.ref l), some (.int 30), some (.ref pr), none, none, none, none] H2 [.ref pr, nV 0] := ea_cons (ev_var rfl) (ea_cons ev_c ea_nil)
    refine q_asgE ?_
    refine ev2 H2 (Ex.refl _) _ fun H3 e3 => ?_
    refine ⟨pr, rs, 0, rfl, sq_of (e3 _ _ hpr), few.rad, Nat.pos_of_ne_zero (by simp), fun H4 B hB e4 fb => ?_⟩
    have hpr4 := e4 _ _ (e3 _ _ hpr)
    refine q_asgE ?_
    refine u_heap T (l := pr) (rs := rs) (ev_var rfl) hpr4 few.rad fun H5 A hA e5 fa => ?_
    have x3 : Ex H H3 := (e1.trans e2).trans e3
    have b0 : Both K H H5 A (newS (pl 1 rs)) B (newW (pl 1 rs) 0) := ⟨hA, hB.ex e5, sync0 few.rad pl_ch, (x3.trans e4).trans e5, fun b o o2 => WOwn.some hB o2 (fa b o), fun b o => fresh_back (x3.trans e4) (fa b o), fun b o => fresh_back x3 (fb b o), Nat.zero_le _⟩
    generalize hd0 : B.at_ .dict = d0
    generalize hp0 : A.at_ .inst = p0
    show tSeq _ _ _ [some (.ref l), some (.int 30), some (.ref pr), some (.ref d0), some (.ref p0), none, none] H5
    refine u_seq (s_forR1 (ea_cons (ev_var rfl) ea_nil) (by decide) (fun j σ H' => ∃ x y A S B W, σ = [some (.ref l), some (.int 30), some (.ref pr), some (.ref d0), some (.ref p0), x, y] ∧ A.at_ .inst = p0 ∧ B.at_ .dict = d0 ∧ Both K H H' A S B W ∧ S.ps = pl 1 rs ∧ S.nd = j ∧ S.time ≤ 9 * j)
      (fun H6 e6 => ⟨none, none, A, _, B, _, rfl, hp0, hd0, b0.to e6, rfl, rfl, Nat.zero_le _⟩) (fun j σ' H' hj q => ?_) (fun σ' H' q => ?_))
    · clear b0 hA hB fa fb hd0 hp0
      obtain ⟨x, y, A, S, B, W, rfl, rfl, rfl, hb, hps, hnd, htm⟩ := q
      have hl6 := hb.ex _ _ hl
      have hj : j < 30 := by omega
      have t30 : S.time + 9 < 2 ^ 300 := Nat.lt_of_le_of_lt (show S.time + 9 ≤ 2 ^ 10 by have : (2 : Nat) ^ 10 = 1024 := rfl; omega) (Nat.pow_lt_pow_right (by decide) (by decide))
      refine q_asgE ?_
      have sl := el_sl (K := K) (σ := [some (.ref l), some (.int 30), some (.ref pr), some (.ref (B.at_ .dict)), some (.ref (A.at_ .inst)), some (.int (j : Int)), y]) (ev_var (i := 0) rfl) (eo_some (ev_op (ev_c (v := nV 4)) (ev_op (ev_c (v := nV 4)) (ev_var (v := nV j) (i := 5) rfl) (rv_mulN 3 20 (by decide) (by omega))) rv_addN)) (eo_some (ev_op (ev_c (v := nV 8)) (ev_op (ev_c (v := nV 4)) (ev_var (v := nV j) (i := 5) rfl) (rv_mulN 3 20 (by decide) (by omega))) rv_addN)) (sq_of hl6)
      rw [cutV_nat] at sl
      have l4 : ((ds.drop (min (4 + 4 * j) ds.length)).take (min (8 + 4 * j) ds.length - min (4 + 4 * j) ds.length)).length = 4 := by
        rw [List.length_take, List.length_drop, h150]
        omega
      generalize (ds.drop (min (4 + 4 * j) ds.length)).take (min (8 + 4 * j) ds.length - min (4 + 4 * j) ds.length) = d4 at sl l4
      refine ea_argL (ev_var rfl) sl (ea_cons ev_c (ea_cons ev_c ea_nil)) fun q H9 nq x9 hq => ?_
      refine ⟨B, W, q, d4, rfl, hb.wa.ex x9, hq, l4, fun a pa H10 ok npa e10 ha => ?_⟩
      have b10 := hb.to (x9.trans e10)
      show tSeq _ _ _ [some (.ref l), some (.int 30), some (.ref pr), some (.ref (B.at_ .dict)), some (.ref (A.at_ .inst)), some (.int (j : Int)), some (.ref pa)] H10
      have ev3 : EvA (tCons (tVar 3) (tCons (tVar 6) tNil)) [some (.ref l), some (.int 30), some (.ref pr), some (.ref (B.at_ .dict)), some (.ref (A.at_ .inst)), some (.int (j : Int)), some (.ref pa)] H10 [.ref (B.at_ .dict), .ref pa] := ea_cons (ev_var rfl) (ea_cons (ev_var rfl) ea_nil)
      refine q_dropE ?_
      refine ev3 H10 (Ex.refl _) _ fun H11 e11 => ?_
      have b11 := b10.to e11
      have n1 := WorldAt.notOwn (hb.wa.ex x9) npa
      have n2 : ¬ Own A S.n pa := fun o => Own.some (hb.ha.ex x9) o npa
      have tW : W.time = S.time := hb.sy.time.symm
      refine ⟨B, W, pa, a, rfl, b11.wa, e11 _ _ ha, ok, by rw [← hb.sy.ps]; exact hb.sy.ch, by rw [tW]; exact t30, fun H12 B' W' st wact => ?_⟩
      have h12 := b11.mid st
      have ha12 : ActAt H12 pa a := st.chg _ _ (e11 _ _ ha) n1
      have ev4 : EvA (tCons (tVar 4) (tCons (tVar 6) tNil)) [some (.ref l), some (.int 30), some (.ref pr), some (.ref (B.at_ .dict)), some (.ref (A.at_ .inst)), some (.int (j : Int)), some (.ref pa)] H12 [.ref (A.at_ .inst), .ref pa] := ea_cons (ev_var rfl) (ea_cons (ev_var rfl) ea_nil)
      refine u_drop ?_
      refine ev4 H12 (Ex.refl _) _ fun H13 e13 => ?_
      have oks : S.Ok a := hb.sy.ok hb.ha.wf.bd hb.n14 ok
      refine ⟨A, S, pa, a, rfl, h12.ex e13, e13 _ _ ha12, oks, hb.sy.good, by omega, t30, fun H14 A' S' v su hact => ?_⟩
      obtain ⟨f1, f2, f3, f4⟩ := hact.facts oks hb.n14
      have sy' := hb.sy.step hb.ha.wf.bd (fun q hq => (hb.wa.wf.pl q hq).1) ok hact wact
      exact ⟨_, _, A', S', B', W', rfl, su.inst, st.inst, b11.step (st.to e13) su sy' f4, f1.trans hps, by rw [f2, hnd], by omega⟩
    · obtain ⟨x, y, A, S, B, W, rfl, rfl, rfl, hb, hps, hnd, htm⟩ := q
      refine s_retU (eu_tup (ea_cons (ev_var rfl) (ea_cons (ev_var rfl) ea_nil)) (by show 2 ≤ 100000; decide)) fun p H9 np e9 hp => ?_
      exact k A S B W rs p H9 (hb.to e9) few hps htm (fresh_back hb.ex np) hp (fun o => Own.some hb.ha o np) (fun o => WOwn.some hb.wa o np)
end
end HD
set_option Elab.async false
set_option linter.all false
set_option maxRecDepth 100000
set_option maxHeartbeats 4000000
/-! Plain: looks far away. -/
namespace HD
theorem plc_dvd {ps : List Nat} (c : Ch ps) {g : Nat} (hg : g ≤ lastOf ps) (h0 : 0 < ps.length) : plc ps g ∣ plc ps (lastOf ps) :=
  c.dvd hg (by unfold lastOf; omega)
theorem nxt_le_of {ps : List Nat} (pos : ∀ p ∈ ps, 0 < p) (c : Ch ps) (h0 : 0 < ps.length) {t N g : Nat} (hg : g ≤ lastOf ps) (hN : N % plc ps (lastOf ps) = 0) (h : t < N) : nxt ps t g ≤ N :=
  nxt_le pos (Nat.mod_eq_zero_of_dvd (Nat.dvd_trans (plc_dvd c hg h0) (Nat.dvd_of_mod_eq_zero hN))) h
theorem vis_le {ps : List Nat} (p : Ps ps) (c : Ch ps) {N : Nat} (hN : N % plc ps (lastOf ps) = 0) : ∀ (f t g : Nat), t < N → ∀ x ∈ vis ps f t g, x ≤ N
  | 0, _, _, _, x, hx => by cases hx
  | f + 1, t, g, ht, x, hx => by
    unfold vis at hx
    by_cases hg : g < lastOf ps
    · rw [if_pos hg] at hx
      have hn := nxt_le_of p.pos c p.len (Nat.le_of_lt hg) hN ht
      rcases List.mem_cons.mp hx with z | z
      · rw [z]
        exact hn
      · by_cases e : nxt ps t g < N
        · exact vis_le p c hN f _ _ e x z
        · have e : nxt ps t g = N := by omega
          have hl : lastOf ps ≤ lvl ps N := lvl_ge p.one c (by have := p.len; unfold lastOf; omega) hN
          rw [e, vis_end _ _ _ _ (by omega)] at z
          cases z
    · rw [if_neg hg] at hx
      cases hx
theorem endT_le {N : Nat} : ∀ {t : Nat} {vs : List Nat}, t ≤ N → (∀ x ∈ vs, x ≤ N) → endT t vs ≤ N
  | t, [], h, _ => h
  | t, a :: r, _, k => endT_le (t := a) (vs := r) (k a (List.mem_cons_self ..)) fun x hx => k x (List.mem_cons_of_mem _ hx)
theorem cntT_cons {f e a : Nat} {vs : List Nat} : cntT f e (a :: vs) = (if f < a ∧ a ≤ e then 1 else 0) + cntT f e vs := by
  unfold cntT
  rw [List.filter_cons]
  by_cases h : f < a ∧ a ≤ e
  · rw [if_pos h, if_pos (by rw [Bool.and_eq_true, decide_eq_true_eq, decide_eq_true_eq]; exact h), List.length_cons]
    omega
  · rw [if_neg h, if_neg (by rw [Bool.and_eq_true, decide_eq_true_eq, decide_eq_true_eq]; exact h)]
    omega
theorem cntT_zero {f e : Nat} : ∀ {vs : List Nat}, (∀ x ∈ vs, x ≤ f ∨ e < x) → cntT f e vs = 0
  | [], _ => rfl
  | a :: r, h => by
    have := h a (List.mem_cons_self ..)
    rw [cntT_cons, cntT_zero (vs := r) fun x hx => h x (List.mem_cons_of_mem _ hx), if_neg (by omega)]
theorem endB_min {d : Option Nat} {e : Nat} : endB d e ≤ e := by
  cases d with
  | none => exact Nat.le_refl _
  | some d => exact Nat.min_le_left _ _
theorem endB_two {d : Option Nat} {m e : Nat} (h : m ≤ e) : (endB d m = m ∧ m ≤ endB d e) ∨ (endB d m = endB d e ∧ endB d e ≤ m) := by
  cases d with
  | none => exact .inl ⟨rfl, h⟩
  | some d =>
    show (min m d = m ∧ m ≤ min e d) ∨ (min m d = min e d ∧ min e d ≤ m)
    omega
theorem cntT_add {f m d1 d2 : Nat} (hf : f ≤ m) (h : (d1 = m ∧ m ≤ d2) ∨ (d1 = d2 ∧ d2 ≤ m)) : ∀ {vs : List Nat}, cntT f d1 vs + cntT m d2 vs = cntT f d2 vs
  | [] => rfl
  | a :: r => by
    have ih := cntT_add hf h (vs := r)
    rw [cntT_cons, cntT_cons, cntT_cons]
    have : (if f < a ∧ a ≤ d1 then 1 else 0) + (if m < a ∧ a ≤ d2 then 1 else 0) = if f < a ∧ a ≤ d2 then 1 else 0 := by
      split <;> split <;> split <;> omega
    omega
theorem lookV_eq {ps : List Nat} {t f e : Nat} {vs : List Nat} : lookV ps t vs f e = cntT f e vs + (e / plc ps (lastOf ps) - max f (endT t vs) / plc ps (lastOf ps)) := by
  unfold lookV
  split
  · rfl
  · rename_i h
    have := Nat.div_le_div_right (c := plc ps (lastOf ps)) (show e ≤ max f (endT t vs) by omega)
    omega
theorem HS.looks_add {S : HS} {i f m e : Nat} (hf : f ≤ m) (hm : m ≤ e) : S.looks i f m + S.looks i m e = S.looks i f e := by
  unfold HS.looks
  rw [lookV_eq, lookV_eq, lookV_eq]
  have h := endB_two (d := S.due i) hm
  have h1 := cntT_add hf h (vs := S.vis i)
  generalize endB (S.due i) m = d1 at h h1 ⊢
  generalize endB (S.due i) e = d2 at h h1 ⊢
  generalize endT S.time (S.vis i) = b
  have mono : ∀ {x y : Nat}, x ≤ y → x / plc S.ps (lastOf S.ps) ≤ y / plc S.ps (lastOf S.ps) := fun h => Nat.div_le_div_right h
  generalize plc S.ps (lastOf S.ps) = P at mono ⊢
  have key : (d1 / P - max f b / P) + (d2 / P - max m b / P) = d2 / P - max f b / P := by
    rcases h with ⟨rfl, h⟩ | ⟨rfl, h⟩
    · by_cases hb : b ≤ d1
      · rw [Nat.max_eq_left hb]
        have k1 := mono h
        have k2 := mono (show max f b ≤ d1 by omega)
        omega
      · rw [Nat.max_eq_right (show d1 ≤ b by omega), Nat.max_eq_right (show f ≤ b by omega)]
        have k1 := mono (show d1 ≤ b by omega)
        omega
    · have k1 := mono (show d1 ≤ max m b by omega)
      omega
  omega
/-- the next full collection -/
def HS.full (S : HS) : Nat := nxt S.ps S.time (lastOf S.ps)
def HS.per (S : HS) : Nat := plc S.ps (lastOf S.ps)
theorem HS.per_pos {S : HS} (w : S.Wf) : 0 < S.per := plc_pos w.pos _
theorem HS.full_gt {S : HS} (w : S.Wf) : S.time < S.full := nxt_gt w.pos _ _
theorem HS.full_mod {S : HS} : S.full % S.per = 0 := nxt_mod _ _
theorem HS.full_le {S : HS} : S.full ≤ S.time + S.per := nxt_up _ _
theorem HS.vis_full {S : HS} (w : S.Wf) (c : Ch S.ps) {i x : Nat} (h : x ∈ S.vis i) : x ≤ S.full :=
  vis_le w.p c HS.full_mod _ _ _ (HS.full_gt w) x h
theorem HS.end_full {S : HS} (w : S.Wf) (c : Ch S.ps) (i : Nat) : endT S.time (S.vis i) ≤ S.full :=
  endT_le (Nat.le_of_lt (HS.full_gt w)) fun x hx => HS.vis_full w c hx
theorem HS.due_le {S : HS} (w : S.Wf) (g : S.Good) (c : Ch S.ps) {i : Nat} (hi : i < S.n) (hd : S.death i ≠ none) (hf : S.freed i = false) : ∃ d, S.due i = some d ∧ d ≤ S.full + S.per := by
  obtain ⟨r, hr, hl⟩ := g.rk i hi hd hf
  have h1 : S.fat i ≤ S.full := by
    unfold HS.fat
    rw [hr]
    exact nxt_le_of w.pos c w.p.len hl HS.full_mod (HS.full_gt w)
  unfold HS.due
  rw [if_neg hd]
  split
  · refine ⟨_, rfl, ?_⟩
    have h2 := nxt_up (ps := S.ps) (S.fat i) (min (lastOf S.ps) (lvl S.ps (S.fat i) + 1))
    have h3 : plc S.ps (min (lastOf S.ps) (lvl S.ps (S.fat i) + 1)) ≤ S.per := Nat.le_of_dvd (HS.per_pos w) (plc_dvd c (Nat.min_le_left _ _) w.p.len)
    omega
  · exact ⟨_, rfl, by omega⟩
theorem HS.looks_live {S : HS} (w : S.Wf) (c : Ch S.ps) {i f e : Nat} (hd : S.death i = none) (hf : S.full ≤ f) : S.looks i f e = e / S.per - f / S.per := by
  have e1 : S.due i = none := if_pos hd
  unfold HS.looks
  rw [lookV_eq, e1]
  have h1 := HS.end_full w c i
  rw [Nat.max_eq_left (by omega), cntT_zero fun x hx => .inl (Nat.le_trans (HS.vis_full w c hx) hf), Nat.zero_add]
  rfl
theorem HS.looks_dead {S : HS} (w : S.Wf) (g : S.Good) (c : Ch S.ps) {i f e : Nat} (hi : i < S.n) (hd : S.death i ≠ none) (hr : S.freed i = false) (hf : S.full + S.per ≤ f) : S.looks i f e = 0 := by
  obtain ⟨d, e1, hl⟩ := HS.due_le w g c hi hd hr
  unfold HS.looks
  rw [lookV_eq, e1]
  have h2 : endB (some d) e ≤ f := by
    show min e d ≤ f
    omega
  have h3 := Nat.div_le_div_right (c := plc S.ps (lastOf S.ps)) (show endB (some d) e ≤ max f (endT S.time (S.vis i)) by omega)
  rw [cntT_zero fun x hx => by omega]
  omega
theorem sum_add {f g h : Nat → Nat} : ∀ {l : List Nat}, (∀ i ∈ l, f i + g i = h i) → (l.map f).sum + (l.map g).sum = (l.map h).sum
  | [], _ => rfl
  | a :: l, k => by
    rw [List.map_cons, List.map_cons, List.map_cons, List.sum_cons, List.sum_cons, List.sum_cons]
    have h1 := k a (List.mem_cons_self ..)
    have h2 := sum_add (l := l) fun i hi => k i (List.mem_cons_of_mem _ hi)
    omega
theorem sum_const {f : Nat → Nat} {k : Nat} : ∀ {l : List Nat}, (∀ i ∈ l, f i = k) → (l.map f).sum = l.length * k
  | [], _ => (Nat.zero_mul k).symm
  | a :: l, h => by
    rw [List.map_cons, List.sum_cons, h a (List.mem_cons_self ..), sum_const fun i hi => h i (List.mem_cons_of_mem _ hi), List.length_cons, Nat.add_mul, Nat.one_mul]
    omega
theorem sum_split {f : Nat → Nat} {p q r : Nat → Bool} : ∀ {l : List Nat}, (∀ i ∈ l, (p i = true ∧ q i = false ∧ r i = true) ∨ (p i = false ∧ q i = true ∧ r i = true) ∨ (p i = false ∧ q i = false ∧ r i = false)) → ((l.filter p).map f).sum + ((l.filter q).map f).sum = ((l.filter r).map f).sum
  | [], _ => rfl
  | a :: l, h => by
    have ih := sum_split (f := f) (l := l) fun i hi => h i (List.mem_cons_of_mem _ hi)
    rw [List.filter_cons, List.filter_cons, List.filter_cons]
    rcases h a (List.mem_cons_self ..) with ⟨x, y, z⟩ | ⟨x, y, z⟩ | ⟨x, y, z⟩
    · rw [x, y, z]
      show ((a :: l.filter p).map f).sum + ((l.filter q).map f).sum = ((a :: l.filter r).map f).sum
      rw [List.map_cons, List.map_cons, List.sum_cons, List.sum_cons]
      omega
    · rw [x, y, z]
      show ((l.filter p).map f).sum + ((a :: l.filter q).map f).sum = ((a :: l.filter r).map f).sum
      rw [List.map_cons, List.map_cons, List.sum_cons, List.sum_cons]
      omega
    · rw [x, y, z]
      exact ih
theorem HS.work_add {S : HS} {f m e : Nat} (hf : f ≤ m) (hm : m ≤ e) : S.work f m + S.work m e = S.work f e :=
  sum_add fun i _ => HS.looks_add hf hm
theorem HS.work_late {S : HS} (w : S.Wf) (g : S.Good) (c : Ch S.ps) {f e : Nat} (hf : S.full + S.per ≤ f) : S.work f e = S.live.length * (e / S.per - f / S.per) := by
  unfold HS.work
  rw [List.map_append, List.sum_append, sum_const (k := e / S.per - f / S.per) fun i hi => ?_, sum_const (k := 0) fun i hi => ?_, Nat.mul_zero, Nat.add_zero]
  · obtain ⟨a, b, d⟩ := mem_dead.mp hi
    exact HS.looks_dead w g c a b d hf
  · exact HS.looks_live w c (mem_live.mp hi).2 (by omega)
theorem HS.work_kept {S : HS} (g : S.Good) {f e : Nat} : ((sel S.n fun i => !S.freed i).map fun i => S.looks i f e).sum = S.work f e := by
  unfold HS.work
  rw [List.map_append, List.sum_append]
  refine (sum_split fun i hi => ?_).symm
  have hi := List.mem_range.mp hi
  cases e1 : S.death i with
  | none =>
    have e2 := g.liveF hi e1
    rw [e2]
    exact .inl ⟨rfl, rfl, rfl⟩
  | some d =>
    cases e2 : S.freed i with
    | false => exact .inr (.inl ⟨rfl, rfl, rfl⟩)
    | true => exact .inr (.inr ⟨rfl, rfl, rfl⟩)
theorem dig_last {ps : List Nat} (h : Ps ps) {b t : Nat} (hb : b / plc ps (lastOf ps) ≠ t / plc ps (lastOf ps)) : dig ps b t = lastOf ps := by
  have h1 := dig_le (ps := ps) b t
  have h2 := (dig_ge h (b := b) (t := t) (Nat.le_refl _)).mpr (.inr ⟨lastOf ps, by omega, by have := h.len; unfold lastOf; omega, hb⟩)
  omega
theorem full_div {ps : List Nat} (h : Ps ps) {b t : Nat} (hb : b ≤ t) : b / plc ps (lastOf ps) ≠ nxt ps t (lastOf ps) / plc ps (lastOf ps) := by
  have h1 := Nat.div_le_div_right (c := plc ps (lastOf ps)) hb
  unfold nxt
  rw [Nat.mul_div_cancel _ (plc_pos h.pos _)]
  omega
theorem HS.full_meets {S : HS} (w : S.Wf) {a b : Nat} (ha : S.birth a ≤ S.time) (hb : S.birth b ≤ S.time) : S.full ∈ S.meets a b := by
  have hl : lastOf S.ps < S.ps.length := by
    have := w.p.len
    unfold lastOf
    omega
  unfold HS.meets
  rw [List.mem_filter]
  refine ⟨List.mem_cons_of_mem _ (List.mem_map.mpr ⟨lastOf S.ps, List.mem_range.mpr hl, rfl⟩), ?_⟩
  rw [decide_eq_true_eq]
  unfold HS.genAt HS.full
  rw [dig_last w.p (full_div w.p ha), dig_last w.p (full_div w.p hb)]
  omega
end HD
set_option Elab.async false
set_option linter.all false
set_option maxRecDepth 100000
set_option maxHeartbeats 4000000
/-! The law's right. -/
namespace HD
open PySem PySem.Spec PyProof.Rows L2 Evl
theorem pl_le : ∀ {rs : List Nat} {p x : Nat}, (∀ r ∈ rs, r ≤ 4) → x ∈ pl p rs → x ≤ p * 4 ^ rs.length
  | [], p, x, _, hx => by
    rw [List.mem_singleton.mp hx]
    show p ≤ p * 1
    omega
  | r :: rs, p, x, h, hx => by
    have hr := h r (List.mem_cons_self ..)
    have h4 : 1 ≤ 4 ^ rs.length := Nat.pow_pos (by decide)
    rw [List.length_cons, Nat.pow_succ, Nat.mul_comm (4 ^ rs.length) 4, ← Nat.mul_assoc]
    rcases List.mem_cons.mp hx with rfl | hx
    · exact Nat.le_trans (Nat.le_mul_of_pos_right x (by decide)) (Nat.le_mul_of_pos_right _ h4)
    · exact Nat.le_trans (pl_le (fun r hr => h r (List.mem_cons_of_mem _ hr)) hx) (Nat.mul_le_mul_right _ (Nat.mul_le_mul_left p hr))
theorem Few.per {rs : List Nat} (h : Few rs) {S : HS} (e : S.ps = pl 1 rs) : S.per ≤ 64 := by
  have hm : S.per ∈ pl 1 rs := by
    unfold HS.per plc lastOf
    rw [e, List.getD_eq_getElem?_getD, List.getElem?_eq_getElem (by rw [pl_len]; omega)]
    exact List.getElem_mem _
  have h1 := pl_le h.hi hm
  have h2 : 4 ^ rs.length ≤ 4 ^ 3 := Nat.pow_le_pow_right (by decide) h.len
  omega
theorem Sync.kept {S : HS} {W : WS} (y : Sync S W) : W.kept = sel S.n fun i => !S.freed i := by
  unfold WS.kept sel
  rw [y.n]
  exact List.filter_congr fun i hi => by rw [y.gone i (by rw [y.n]; exact List.mem_range.mp hi)]
theorem Sync.liveL {S : HS} {W : WS} (y : Sync S W) : (W.kept.filter fun i => decide (W.death i = none)) = S.live := by
  rw [y.kept]
  unfold HS.live sel
  rw [List.filter_filter]
  refine List.filter_congr fun i hi => ?_
  have hi := List.mem_range.mp hi
  rw [← y.death i hi]
  cases e : S.death i with
  | none =>
    rw [y.good.liveF hi e]
    rfl
  | some d =>
    rw [decide_eq_false (fun z => nomatch z)]
    rfl
theorem div_pred {q P : Nat} (hP : 0 < P) (hq : 0 < q) : (q * P - 1) / P = q - 1 := by
  obtain ⟨j, rfl⟩ : ∃ j, q = j + 1 := ⟨q - 1, by omega⟩
  have e : (j + 1) * P - 1 = P - 1 + j * P := by
    rw [Nat.add_mul, Nat.one_mul]
    omega
  rw [e, Nat.add_mul_div_right _ _ hP, Nat.div_eq_of_lt (by omega)]
  omega
theorem HS.work_full {S : HS} (w : S.Wf) (g : S.Good) (c : Ch S.ps) {q : Nat} (h : S.full + S.per + 1 ≤ q * S.per) : S.work (q * S.per - 1) (q * S.per) = S.live.length := by
  have hP := HS.per_pos w
  have hq : 0 < q := Nat.pos_of_ne_zero fun z => by
    rw [z, Nat.zero_mul] at h
    omega
  rw [HS.work_late w g c (by omega), div_pred hP hq, Nat.mul_div_cancel _ hP]
  have : q - (q - 1) = 1 := by omega
  rw [this, Nat.mul_one]
theorem HS.work_none {S : HS} (w : S.Wf) (g : S.Good) (c : Ch S.ps) {q r : Nat} (h : S.full + S.per ≤ q * S.per) (hr : r + 1 < S.per) : S.work (q * S.per + 1 + r - 1) (q * S.per + 1 + r) = 0 := by
  have hP := HS.per_pos w
  have e1 : q * S.per + 1 + r - 1 = r + q * S.per := by omega
  have e2 : q * S.per + 1 + r = (r + 1) + q * S.per := by omega
  rw [HS.work_late w g c (by omega), e1, e2, Nat.add_mul_div_right _ _ hP, Nat.add_mul_div_right _ _ hP, Nat.div_eq_of_lt hr, Nat.div_eq_of_lt (by omega), Nat.sub_self, Nat.mul_zero]
theorem far_div {P f m : Nat} (hP : 0 < P) : (f + P * m) / P - f / P = m := by
  rw [Nat.add_mul_div_left _ _ hP]
  omega
section
variable {K : PySem.W.Frag} {σ : L2.St} {H : Hp} {te : TE} {xs : List V} {z : V}
theorem ev_cbL {r : List V → Hp → VK → Prop} (h : EvL te σ H xs) (k : ∀ p H1 (Q : VK), H1 p = some (.lst xs) → Q z H1 → r [.ref p] H1 Q) : Ev (tCB r (tCons te tNil)) σ H z := fun H1 e Q q =>
  h H1 e _ fun p H2 np e2 hp => k p H2 Q hp (q H2 e2)
theorem ev_now (T : TX K mg) {A : Rep} {S : HS} {ta : TE} {E : XK} (h : HeapAt K H A S) (e : Ev ta σ H (.ref (A.at_ .inst))) : Ev (tMeth (CH K) "now" (sp_H_now K) [] E ta tNil) σ H (nV S.time) :=
  ev_meth e (h.ob .inst trivial) (hm_now A S.time) ea_nil fun H1 e3 Q q E => ⟨A, S, rfl, h.ex e3, q⟩
theorem ev_work_at {A : Rep} {S : HS} {ts : TA} {E : XK} (h : HeapAt K H A S) (g : S.Fit) {c : Nat} (h1 : S.time + 1 ≤ c) (h2 : c ≤ 10000000000000000000000000000000000000000) (e : EvA ts σ H [.ref (A.at_ .inst), nV c]) : Ev (tCall (sp_work_at K) [] E ts) σ H (nV (S.work (c - 1) c)) :=
  ev_call e fun H1 e1 Q q E => ⟨A, S, c, rfl, h.ex e1, g, h1, h2, q⟩
theorem ev_total {A : Rep} {S : HS} {ts : TA} {E : XK} (h : HeapAt K H A S) (g : S.Fit) {f c : Nat} (hs : S.Str f c) (e : EvA ts σ H [.ref (A.at_ .inst), nV f, nV c]) : Ev (tCall (sp_total_work K) [] E ts) σ H (nV (S.work f c)) :=
  ev_call e fun H1 e1 Q q E => ⟨A, S, f, c, rfl, h.ex e1, g, hs, q⟩
theorem ev_looks {A : Rep} {S : HS} {ts : TA} {E : XK} (h : HeapAt K H A S) (g : S.Fit) {i f c : Nat} (hi : i < S.n) (hf : S.freed i = false) (hs : S.Str f c) (e : EvA ts σ H [.ref (A.at_ .inst), nV i, nV f, nV c]) : Ev (tCall (sp_looks K) [] E ts) σ H (nV (S.looks i f c)) :=
  ev_call e fun H1 e1 Q q E => ⟨A, S, i, f, c, rfl, h.ex e1, g, hi, hf, hs, q⟩
theorem ev_until {A : Rep} {S : HS} {ts : TA} {E : XK} (h : HeapAt K H A S) (g : S.Fit) {a b m : Nat} (ha : a < S.n) (hb : b < S.n) (ht : b ∈ S.tg a) (hm : m ∈ S.meets a b ++ S.ends a b) (hl : ∀ y ∈ S.meets a b ++ S.ends a b, m ≤ y) (e : EvA ts σ H [.ref (A.at_ .inst), nV a, nV b]) :
    Ev (tCall (sp_remembered_until K) [] E ts) σ H (nV m) :=
  ev_call e fun H1 e1 Q q E => ⟨A, S, a, b, rfl, h.ex e1, g, ha, hb, ht, fun z => (by rw [z] at hm; cases hm), fun m' h1 h2 => by
    have : m' = m := Nat.le_antisymm (h2 m hm) (hl m' h1)
    rw [this]
    exact q⟩
theorem ev_ten {ts : TA} {E : XK} {m : Nat} (hm : m ≤ 40) (e : EvA ts σ H [nV m]) : Ev (tCall (sp_Lten K) [] E ts) σ H (nV (10 ^ m)) :=
  ev_call e fun H1 e1 Q q E => ⟨m, rfl, hm, q⟩
theorem s_forR {tl : TE} {D : Ends} {tu : TS} {g : TG} (p : List V → Hp → Prop) (h : ∀ Q : VK, (∀ a ys H1, H a = none → Ex H H1 → H1 a = some (.lst ys) → p ys H1 → Q (.ref a) H1) → tl σ H Q) (Pv : Addr → List V → Nat → L2.St → Hp → Prop) (h0 : ∀ a ys H1, H a = none → Ex H H1 → H1 a = some (.lst ys) → p ys H1 → Pv a ys 0 σ H1)
    (hl : ∀ a ys i σ' H', i ≤ ys.length → Pv a ys i σ' H' → SqL K H' a ys) (hs : ∀ a ys i x σ' H', ys[i]? = some x → Pv a ys i σ' H' → g x σ' H' fun σ2 H2 => tu { D with nx := Pv a ys (i + 1), ct := Pv a ys (i + 1), bk := D.nx } σ2 H2) (hd : ∀ a ys σ' H', Pv a ys ys.length σ' H' → D.nx σ' H') : tFor (iList K tl) g tu D σ H :=
  h _ fun a ys H1 na e ha hp => ⟨a, rfl, ⟨ys, sq_of ha⟩, for_list (Pv a ys) (h0 a ys H1 na e ha hp) (hl a ys) (hs a ys) (hd a ys)⟩
theorem q_forR {tl : TE} {D : Ends} {tu tz : TS} {g : TG} (p : List V → Hp → Prop) (h : ∀ Q : VK, (∀ a ys H1, H a = none → Ex H H1 → H1 a = some (.lst ys) → p ys H1 → Q (.ref a) H1) → tl σ H Q) (Pv : Addr → List V → Nat → L2.St → Hp → Prop) (h0 : ∀ a ys H1, H a = none → Ex H H1 → H1 a = some (.lst ys) → p ys H1 → Pv a ys 0 σ H1)
    (hl : ∀ a ys i σ' H', i ≤ ys.length → Pv a ys i σ' H' → SqL K H' a ys) (hs : ∀ a ys i x σ' H', ys[i]? = some x → Pv a ys i σ' H' → g x σ' H' fun σ2 H2 => tu { D with nx := Pv a ys (i + 1), ct := Pv a ys (i + 1), bk := tz D } σ2 H2) (hd : ∀ a ys σ' H', Pv a ys ys.length σ' H' → tz D σ' H') : tSeq (tFor (iList K tl) g tu) tz D σ H :=
  s_forR (D := { D with nx := tz D }) p h Pv h0 hl hs hd
end
theorem inV_nat {i : Nat} : ∀ {l : List Nat}, inV (nV i) (nVs l) = decide (i ∈ l)
  | [] => rfl
  | a :: l => by
    show (((a : Int) == (i : Int)) || inV (nV i) (nVs l)) = decide (i ∈ a :: l)
    rw [inV_nat (l := l)]
    by_cases h : a = i
    · rw [h, beq_self_eq_true, Bool.true_or]
      exact (decide_eq_true (List.mem_cons_self ..)).symm
    · have h2 : ((a : Int) == (i : Int)) = false := beq_eq_false_iff_ne.mpr fun z => h (by omega)
      rw [h2, Bool.false_or]
      refine decide_eq_decide.mpr ⟨fun z => List.mem_cons_of_mem _ z, fun z => ?_⟩
      rcases List.mem_cons.mp z with q | q
      · exact absurd q.symm h
      · exact q
theorem flat_nat {l : List Nat} : (nVs l).all flatV = true := List.all_eq_true.mpr fun x hx => by
  obtain ⟨a, _, rfl⟩ := List.mem_map.mp hx
  rfl
theorem exists_min : ∀ {l : List Nat}, l ≠ [] → ∃ m ∈ l, ∀ y ∈ l, m ≤ y
  | [], h => absurd rfl h
  | [a], _ => ⟨a, List.mem_cons_self .., fun y hy => by rw [List.mem_singleton.mp hy]; exact Nat.le_refl _⟩
  | a :: b :: r, _ => by
    obtain ⟨m, h1, h2⟩ := exists_min (l := b :: r) (fun z => nomatch z)
    by_cases h : a ≤ m
    · refine ⟨a, List.mem_cons_self .., fun y hy => ?_⟩
      rcases List.mem_cons.mp hy with z | z
      · omega
      · have := h2 y z
        omega
    · refine ⟨m, List.mem_cons_of_mem _ h1, fun y hy => ?_⟩
      rcases List.mem_cons.mp hy with z | z
      · omega
      · exact h2 y z
section
variable {P : Program} {w : World} {K : PySem.W.Frag} {mg : Str → Option Value} {base : Heap}
theorem sc_Lright : FnScope ["_law_digits_here", "_law_heap", "_law_world_here", "_law_period", "_law_items", "_law_live_so", "_law_late", "_law_far", "_law_shift", "_law_full", "_law_middle", "_law_parts", "_law_item", "_law_pair"] ["_law_digits_here"] (defScope s_Lright) := ⟨rfl, rfl, rfl, by decide +kernel, rfl, by decide +kernel, by decide +kernel⟩
def sp_Lright : Sp := fun vs H Q _ => ∃ (l : Addr) (ds : List Nat), vs = [.ref l] ∧ H l = some (.lst (nVs ds)) ∧ ds.length = 150 ∧ (∀ d ∈ ds, d < 1009) ∧ RetV (.bl true) H Q
theorem ok_Lright (T : TX K mg) : Glob P w K mg base 9 "_law_right" ["_law_digits_here"] sp_Lright := by
  have SC := sc_Lright
  refine glob_mk (F_Lright T) (g_Lright T) sc_Lright (fun _ _ _ _ _ _ us hl => match us, hl with | [_], _ => rfl) (fun vs H Q E h => ?_) (fun cdv A outer s H vs Q E hr h => ?_)
  · obtain ⟨l, ds, rfl, _⟩ := h
    rfl
  · obtain ⟨l, ds, rfl, hl, h150, hds, k⟩ := h
    have hu := hu_of hr
    refine ⟨_, (pss_cons (ps_asg (pg_call (ok_Lbuilt T) hr (by decide) rfl (pa_cons (pv 0) (pa_cons pe_int pa_nil))) (ktup (K := K) 2 rfl (pgs_cons (pg_name (i := 1) SC.nd rfl (Or.inr rfl)) (pgs_cons (pg_name (i := 2) SC.nd rfl (Or.inr rfl)) pgs_nil))))
    (pss_cons (ps_set (i := 3) SC.nd rfl (Or.inl rfl) (kix (K := K) (pe_dget hu (pv 2) pe_str (fun _ _ => rfl)) (pe_un un_neg pe_int)))
    (pss_cons (ps_set (i := 4) SC.nd rfl (Or.inl rfl) (pg_call (ok_Lkept T) hr (by decide) rfl (pa_cons (pv 2) pa_nil)))
    (pss_cons (ps_setLc (i := 5) (own := [("_law_item", 12)]) rfl SC.nd rfl rfl (sw_true rfl rfl rfl (by decide +kernel)) (pi_list (pv 4)) (blkOk_by (own := [("_law_item", 12)]) (N := ["_law_digits_here", "_law_heap", "_law_world_here", "_law_period", "_law_items", "_law_live_so", "_law_late", "_law_far", "_law_shift", "_law_full", "_law_middle", "_law_parts", "_law_item", "_law_pair"]) (sc := defScope s_Lright) (by decide +kernel)) (fun _ _ _ _ _ => (pg_name (i := 12) SC.nd rfl (Or.inl rfl))) (fun _ _ _ _ _ => pts_one (pt_cmp (pc_isN (kix (K := K) (pe_dget hu (pv 2) pe_str (fun _ _ => rfl)) (pv 12))))) (fun _ _ _ _ _ => (pv 12)))
    (pss_cons (ps_set (i := 6) SC.nd rfl (Or.inl rfl) (pe_op op_mulW (pe_op op_add (pe_op op_fdivW (pm_call0 (ok_H_now T) (cls_H T) hr (by decide) (pv 1)) (pv 3)) pe_int) (pv 3)))
    (pss_cons (ps_set (i := 7) SC.nd rfl (Or.inr rfl) (pe_op op_add (pv 6) (pe_op op_mulW (pe_op op_mulW (pv 3) (pe_op op_add (kix (K := K) (pv 0) pe_int) pe_int)) (pg_call (ok_Lten T) hr (by decide) rfl (pa_cons (pe_op op_mod (kix (K := K) (pv 0) pe_int) pe_int) pa_nil)))))
    (pss_cons (ps_for PassesOwn.never rfl (pi_tup (pe_tup (pa_cons pe_int (pa_cons (pv 7) pa_nil)))) (pg_name (i := 8) SC.nd rfl (Or.inl rfl))
      (pss_cons (ps_if (pt_cmpR op_ne (pg_call (ok_work_at T) hr (by decide) rfl (pa_cons (pv 1) (pa_cons (pe_op op_add (pv 6) (pv 8)) pa_nil))) (klen (K := K) rfl (b_len T) (pa_cons (pv 5) pa_nil)) (nomark _))
      (pss_one (ps_ret pe_bl))
      pss_nil)
    (pss_one (ps_if (PW.pt (pw_and (pt_cmpR op_gt (pv 3) pe_int (nomark _)) (pw_and1 (pt_cmpR op_ne (pg_call (ok_work_at T) hr (by decide) rfl (pa_cons (pv 1) (pa_cons (pe_op op_add (pe_op op_add (pe_op op_add (pv 6) (pv 8)) pe_int) (pe_op op_mod (kix (K := K) (pv 0) pe_int) (pe_op op_sub (pv 3) pe_int))) pa_nil))) pe_int (nomark _)))))
      (pss_one (ps_ret pe_bl))
      pss_nil))))
    (pss_cons (ps_set (i := 9) SC.nd rfl (Or.inl rfl) (pe_op op_fdivW (pe_op op_sub (pv 7) (pv 6)) (pv 3)))
    (pss_cons (ps_if (pt_cmpR op_ne (pg_call (ok_total_work T) hr (by decide) rfl (pa_cons (pv 1) (pa_cons (pv 6) (pa_cons (pv 7) pa_nil)))) (pe_op op_mulW (pv 9) (klen (K := K) rfl (b_len T) (pa_cons (pv 5) pa_nil))) (nomark _))
      (pss_one (ps_ret pe_bl))
      pss_nil)
    (pss_cons (ps_set (i := 10) SC.nd rfl (Or.inl rfl) (pe_op op_add (pm_call0 (ok_H_now T) (cls_H T) hr (by decide) (pv 1)) (pe_op op_mod (kix (K := K) (pv 0) pe_int) (pe_op op_add (pe_op op_mulW pe_int (pv 3)) pe_int))))
    (pss_cons (ps_set (i := 11) SC.nd rfl (Or.inl rfl) (pe_op op_add (pg_call (ok_total_work T) hr (by decide) rfl (pa_cons (pv 1) (pa_cons (pm_call0 (ok_H_now T) (cls_H T) hr (by decide) (pv 1)) (pa_cons (pv 10) pa_nil)))) (pg_call (ok_total_work T) hr (by decide) rfl (pa_cons (pv 1) (pa_cons (pv 10) (pa_cons (pv 7) pa_nil))))))
    (pss_cons (ps_if (pt_cmpR op_ne (pg_call (ok_total_work T) hr (by decide) rfl (pa_cons (pv 1) (pa_cons (pm_call0 (ok_H_now T) (cls_H T) hr (by decide) (pv 1)) (pa_cons (pv 7) pa_nil)))) (pv 11) (nomark _))
      (pss_one (ps_ret pe_bl))
      pss_nil)
    (pss_cons (ps_if (pt_cmpR op_ne (pe_callB (cr_sum rfl) rfl (b_sum T) (by decide +kernel) (pa_cons (pe_lc (own := [("_law_item", 12)]) rfl SC.nd (pi_list (pv 4)) (blkOk_by (own := [("_law_item", 12)]) (N := ["_law_digits_here", "_law_heap", "_law_world_here", "_law_period", "_law_items", "_law_live_so", "_law_late", "_law_far", "_law_shift", "_law_full", "_law_middle", "_law_parts", "_law_item", "_law_pair"]) (sc := defScope s_Lright) (by decide +kernel)) (fun _ _ _ _ _ => (pg_name (i := 12) SC.nd rfl (Or.inl rfl))) (fun _ _ _ _ _ => pts_nil) (fun _ _ _ _ _ => (pg_call (ok_looks T) hr (by decide) rfl (pa_cons (pv 1) (pa_cons (pv 12) (pa_cons (pm_call0 (ok_H_now T) (cls_H T) hr (by decide) (pv 1)) (pa_cons (pv 7) pa_nil))))))) pa_nil)) (pv 11) (nomark _))
      (pss_one (ps_ret pe_bl))
      pss_nil)
    (pss_cons (ps_for PassesOwn.never rfl (pi_list (pv 4)) (pg_name (i := 12) SC.nd rfl (Or.inl rfl))
      (pss_one (ps_if (pt_cmpR op_ne (pg_call (ok_looks T) hr (by decide) rfl (pa_cons (pv 1) (pa_cons (pv 12) (pa_cons (pv 6) (pa_cons (pv 7) pa_nil))))) (pe_op op_mulW (pv 9) (pe_callTy call_int1 rfl (b_int T) (by decide +kernel) (pa_cons (kin (K := K) (pv 12) (pv 5)) pa_nil))) (nomark _))
      (pss_one (ps_ret pe_bl))
      pss_nil)))
    (pss_cons (ps_for PassesOwn.never rfl (pi_list (pm_call0 (ok_H_references T) (cls_H T) hr (by decide) (pv 1))) (pg_name (i := 13) SC.nd rfl (Or.inl rfl))
      (pss_one (ps_if (pt_cmpR op_gt (pg_call (ok_remembered_until T) hr (by decide) rfl (pa_cons (pv 1) (pa_cons (kixT (K := K) (pv 13) pe_int) (pa_cons (kixT (K := K) (pv 13) pe_int) pa_nil)))) (pe_op op_add (pm_call0 (ok_H_now T) (cls_H T) hr (by decide) (pv 1)) (pv 3)) (nomark _))
      (pss_one (ps_ret pe_bl))
      pss_nil)))
    (pss_one (ps_ret pe_bl))))))))))))))))), ?_⟩
    have ev1 : EvA (tCons (tVar 0) (tCons (tC (.int 30)) tNil)) [some (.ref l), none, none, none, none, none, none, none, none, none, none, none, none, none] H [.ref l, .int 30] := ea_cons (ev_var rfl) (ea_cons ev_c ea_nil)
    refine u_seq (u_asg ?_)
    refine ev1 H (Ex.refl _) _ fun H1 e1 => ?_
    refine ⟨l, ds, rfl, e1 _ _ hl, h150, fun A S B W rs p H2 hb few hps htm npp hp no1 no2 => ?_⟩
    refine ⟨p, _, rfl, st_of hp, rfl, _, _, rfl, _, _, rfl, rfl, ?_⟩
    show tSeq _ _ _ [some (.ref l), some (.ref (A.at_ .inst)), some (.ref (B.at_ .dict)), none, none, none, none, none, none, none, none, none, none, none] H2
    have hl2 := hb.ex _ _ (e1 _ _ hl)
    have hbx := hb.ex
    have ha := hb.ha
    have hw := hb.wa
    have y := hb.sy
    have w := ha.wf
    have g := y.good
    have c := y.ch
    have fit : S.Fit := ⟨g, c⟩
    have hP0 := HS.per_pos w
    have hP : S.per ≤ 64 := few.per hps
    have hF1 := HS.full_gt w
    have hF2 := HS.full_le (S := S)
    have hFm := HS.full_mod (S := S)
    have n14 := hb.n14
    have ekept := y.kept
    have elive := y.liveL
    have hT : S.time ≤ 270 := htm
    clear htm hb few hps no1 no2 npp hp ev1
    have dk : ∀ {σ : L2.St} {H' : Hp} (k : Nat), k < 150 → σ[0]? = some (some (.ref l)) → Ex H2 H' → Ev (tOp (rIxL K) (tVar 0) (tC (.int (k : Int)))) σ H' (nV (ds.getD k 0)) := fun k hk s e =>
      ev_op (ev_var s) ev_c (rv_ixL (sq_of (e _ _ hl2)) (atI_nat (by rw [List.getElem?_map, getD_at (by omega)]; rfl)))
    have lastv : (W.ps.map fun p => nV p).getLast? = some (nV S.per) := by
      have hps : W.ps = S.ps := y.ps.symm
      rw [hps, List.getLast?_map, List.getLast?_eq_getElem?, plc_at (l := S.ps.length - 1) (by have := w.p.len; omega)]
      rfl
    refine q_asg (ev_op (ew_places hw (ev_var rfl)) (ev_un ev_c ru_neg) (rv_ixL (sq_of (hw.ob .places)) (atI_neg1 lastv))) fun H3 e3 => ?_
    refine q_asgL (el_Lkept (hw.ex e3) (ea_cons (ev_var rfl) ea_nil)) fun p4 H4 np4 e4 hp4 => ?_
    have x4 := e3.trans e4
    have kl : W.kept.length ≤ 14 := by
      rw [ekept]
      exact Nat.le_trans (len_sel _ _) n14
    have kn : ∀ i ∈ W.kept, i < S.n ∧ S.freed i = false := fun i hi => by
      rw [ekept, mem_sel, Bool.not_eq_true'] at hi
      exact hi
    refine q_asgL (el_lcL (fun j => decide (W.death (W.kept.getD j 0) = none)) (fun j => nV (W.kept.getD j 0)) (ev_var rfl) (sq_of hp4) (by rw [nVs_len]; omega) (fun _ => rfl) (fun j x H5 e5 hx => ?_) (fun j x H5 e5 hx _ => ?_)) fun p5 H5 np5 e5 hp5 => ?_
    · obtain ⟨hj, rfl⟩ := nVs_at hx
      refine et_B (ev_is (ev_isN (ewi_deaths (hw.ex (x4.trans e5)) (ev_var rfl) (by rw [← y.n]; exact (kn _ hj).1) (ev_var rfl))) (congrArg V.bl ?_))
      rw [oV_dec]
      cases W.death (W.kept.getD j 0) <;> rfl
    · obtain ⟨hj, rfl⟩ := nVs_at hx
      exact ev_var rfl
    rw [nVs_len, filter_at W.kept (fun i => decide (W.death i = none)), elive] at hp5
    have x5 := x4.trans e5
    have a5 := ha.ex x5
    obtain ⟨la, hla⟩ : ∃ x, x = (S.time / S.per + 3) * S.per := ⟨_, rfl⟩
    have hla2 : la = S.full + 2 * S.per := by
      rw [hla]
      show _ = (S.time / S.per + 1) * S.per + 2 * S.per
      rw [← Nat.add_mul]
    have hq : S.time / S.per ≤ 270 := Nat.le_trans (Nat.div_le_self _ _) hT
    refine q_asg (v := nV la) (ev_is (ev_op (ev_op (ev_op (ev_now T a5 (ev_var rfl)) (ev_var rfl) (rv_divN 7 hP0 (by omega))) (ev_c (v := nV 3)) rv_addN) (ev_var rfl) (rv_mulN 20 7 (by omega) (by omega))) (by rw [hla])) fun H6 e6 => ?_
    have x6 := x5.trans e6
    have d130 := hds (ds.getD 130 0) (by rw [List.getD_eq_getElem?_getD, List.getElem?_eq_getElem (by omega)]; exact List.getElem_mem _)
    have m33 : ds.getD 131 0 % 33 ≤ 32 := by
      have := Nat.mod_lt (ds.getD 131 0) (show 0 < 33 by decide)
      omega
    obtain ⟨m, hm⟩ : ∃ x, x = (ds.getD 130 0 + 1) * 10 ^ (ds.getD 131 0 % 33) := ⟨_, rfl⟩
    obtain ⟨fa, hfa⟩ : ∃ x, x = la + S.per * m := ⟨_, rfl⟩
    have hten : 10 ^ (ds.getD 131 0 % 33) ≤ 10 ^ 32 := Nat.pow_le_pow_right (by decide) m33
    have hten0 : 0 < 10 ^ (ds.getD 131 0 % 33) := Nat.pow_pos (by decide)
    have hm1 : 1 ≤ m := by
      rw [hm]
      exact Nat.mul_pos (Nat.succ_pos _) hten0
    have hm2 : m ≤ 1009 * 10 ^ 32 := by
      rw [hm]
      exact Nat.mul_le_mul (by omega) hten
    have hpm : S.per * m ≤ 64 * (1009 * 10 ^ 32) := Nat.mul_le_mul hP hm2
    refine q_asg (v := nV fa) (ev_is (ev_op (ev_var rfl) (ev_op (ev_op (ev_var rfl) (ev_op (dk 130 (by decide) rfl x6) (ev_c (v := nV 1)) rv_addN) (rv_mulN 7 11 (by omega) (by omega))) (ev_ten (K := K) (by omega) (ea_cons (ev_op (dk 131 (by decide) rfl x6) (ev_c (v := nV 33)) (rv_modN (by decide))) ea_nil)) (rv_mulN 20 110 ?_ (Nat.lt_of_le_of_lt hten (by decide)))) rv_addN) (by rw [hfa, hm, ← Nat.mul_assoc])) fun H7 e7 => ?_
    · have := Nat.mul_le_mul hP (show ds.getD 130 0 + 1 ≤ 1009 by omega)
      exact Nat.lt_of_le_of_lt this (by decide)
    have x7 := x6.trans e7
    have hmP : S.per ≤ S.per * m := Nat.le_mul_of_pos_right _ hm1
    have faN : la + fa + 70 ≤ 10000000000000000000000000000000000000000 := by
      have : la ≤ 10000 := by omega
      rw [hfa]
      have h9 : 64 * (1009 * 10 ^ 32) ≤ 1000000000000000000000000000000000000000 := by decide
      omega
    have fa120 : fa < 2 ^ 140 := Nat.lt_of_le_of_lt (show fa ≤ 10000000000000000000000000000000000000000 by omega) (by decide)
    clear hten hten0 hm
    have a7 := ha.ex x7
    have k5 := e7 _ _ (e6 _ _ hp5)
    have k4 := e7 _ _ (e6 _ _ (e5 _ _ hp4))
    have q1 : la = (S.time / S.per + 3) * S.per := hla
    have q2 : fa = (S.time / S.per + 3 + m) * S.per := by
      rw [hfa, q1, Nat.add_mul (S.time / S.per + 3) m, Nat.mul_comm S.per m]
    have q3 : ∀ sh, sh = 0 ∨ sh = fa → ∃ q, la + sh = q * S.per := fun sh h => by
      rcases h with rfl | rfl
      · exact ⟨_, q1⟩
      · exact ⟨_, by rw [q1]; rw [q2, ← Nat.add_mul]⟩
    have lle : S.live.length ≤ 14 := Nat.le_trans (len_sel _ _) n14
    show tSeq _ _ _ [some (.ref l), some (.ref (A.at_ .inst)), some (.ref (B.at_ .dict)), some (nV S.per), some (.ref p4), some (.ref p5), some (nV la), some (nV fa), none, none, none, none, none, none] H7
    refine u_seq (s_forNU (xs := [nV 0, nV fa]) (eu_tup (ea_cons ev_c (ea_cons (ev_var rfl) ea_nil)) (by show 2 ≤ 100000; decide))
      (fun q j σ H' => ∃ x, σ = [some (.ref l), some (.ref (A.at_ .inst)), some (.ref (B.at_ .dict)), some (nV S.per), some (.ref p4), some (.ref p5), some (nV la), some (nV fa), x, none, none, none, none, none] ∧ H' q = some (.tup [nV 0, nV fa]) ∧ Ex H7 H')
      (fun q H8 nq e8 hq => ⟨none, rfl, hq, e8⟩) (fun q j σ' H' _ p => let ⟨_, _, z, _⟩ := p; st_of z) (fun q j x σ' H' hx p => ?_) (fun q σ' H' p => ?_))
    · obtain ⟨x0, rfl, hq, e8⟩ := p
      obtain ⟨sh, rfl, hsh⟩ : ∃ sh, x = nV sh ∧ (sh = 0 ∨ sh = fa) := by
        rcases j with _ | _ | j
        · exact ⟨0, (Option.some.inj hx).symm, .inl rfl⟩
        · exact ⟨fa, (Option.some.inj hx).symm, .inr rfl⟩
        · exact absurd hx (by simp)
      obtain ⟨q, hq9⟩ := q3 sh hsh
      have shl : la + sh + 70 ≤ 10000000000000000000000000000000000000000 := by
        rcases hsh with rfl | rfl <;> omega
      show tSeq _ _ _ [some (.ref l), some (.ref (A.at_ .inst)), some (.ref (B.at_ .dict)), some (nV S.per), some (.ref p4), some (.ref p5), some (nV la), some (nV fa), some (nV sh), none, none, none, none, none] H'
      have a8 := a7.ex e8
      have w1 : S.work (la + sh - 1) (la + sh) = S.live.length := by
        rw [hq9]
        exact HS.work_full w g c (by rw [← hq9]; omega)
      refine q_when (b := false) (et_is (et_test (ev_op (ev_work_at a8 fit (c := la + sh) (by omega) (by omega) (ea_cons (ev_var rfl) (ea_cons (ev_op (ev_var rfl) (ev_var rfl) rv_addN) ea_nil))) (ev_is (w := nV S.live.length) (ev_len (ev_var rfl) (sq_of (e8 _ _ k5))) (by rw [nVs_len])) rv_neN)) (by rw [w1]; exact decide_eq_false fun z => z rfl)) (fun z => nomatch z) fun _ H9 e9 => ?_
      have a9 := a8.ex e9
      refine s_when (b := false) (et_is (et_and (b := decide (S.work (la + sh + 1 + ds.getD 132 0 % (S.per - 1) - 1) (la + sh + 1 + ds.getD 132 0 % (S.per - 1)) ≠ 0)) (et_test (ev_op (ev_var rfl) (ev_c (v := nV 1)) rv_gtN)) fun hb => ?_) ?_) (fun z => nomatch z) fun _ H10 e10 => ⟨_, rfl, e10 _ _ (e9 _ _ hq), (e8.trans e9).trans e10⟩
      · have hb := of_decide_eq_true hb
        have hr := Nat.mod_lt (ds.getD 132 0) (show 0 < S.per - 1 by omega)
        exact et_test (ev_op (ev_work_at a9 fit (c := la + sh + 1 + ds.getD 132 0 % (S.per - 1)) (by omega) (by omega) (ea_cons (ev_var rfl) (ea_cons (ev_op (ev_op (ev_op (ev_var rfl) (ev_var rfl) rv_addN) (ev_c (v := nV 1)) rv_addN) (ev_op (dk 132 (by decide) rfl ((x7.trans e8).trans e9)) (ev_op (ev_var rfl) (ev_c (v := nV 1)) (rv_subN (by omega))) (rv_modN (by omega))) rv_addN) ea_nil))) (ev_c (v := nV 0)) rv_neN)
      · by_cases h1 : 1 < S.per
        · have hr := Nat.mod_lt (ds.getD 132 0) (show 0 < S.per - 1 by omega)
          rw [hq9, HS.work_none w g c (by rw [← hq9]; omega) (by omega)]
          exact Bool.and_false _
        · rw [decide_eq_false h1, Bool.false_and]
    obtain ⟨x8, rfl, _, e8⟩ := p
    have a8 := a7.ex e8
    show tSeq _ _ _ [some (.ref l), some (.ref (A.at_ .inst)), some (.ref (B.at_ .dict)), some (nV S.per), some (.ref p4), some (.ref p5), some (nV la), some (nV fa), x8, none, none, none, none, none] H'
    have hm9 : (fa - la) / S.per = m := by rw [hfa, Nat.add_sub_cancel_left, Nat.mul_div_cancel_left _ hP0]
    refine q_asg (v := nV m) (ev_is (ev_op (ev_op (ev_var rfl) (ev_var rfl) (rv_subN (by omega))) (ev_var rfl) (rv_divN 7 hP0 (by omega))) (by rw [hm9])) fun H9 e9 => ?_
    have a9 := a8.ex e9
    have x9 := (x7.trans e8).trans e9
    have sLF : S.Str la fa := ⟨by omega, by omega, by omega⟩
    have w2 : S.work la fa = m * S.live.length := by
      rw [HS.work_late w g c (by omega : S.full + S.per ≤ la), hfa, far_div hP0, Nat.mul_comm]
    have m120 : m < 2 ^ 120 := Nat.lt_of_le_of_lt hm2 (by decide)
    refine q_when (b := false) (et_is (et_test (ev_op (ev_total a9 fit sLF (ea_cons (ev_var rfl) (ea_cons (ev_var rfl) (ea_cons (ev_var rfl) ea_nil)))) (ev_op (ev_var rfl) (ev_is (w := nV S.live.length) (ev_len (ev_var rfl) (sq_of (e9 _ _ (e8 _ _ k5)))) (by rw [nVs_len])) (rv_mulN 120 4 m120 (by omega))) rv_neN)) (by rw [w2]; exact decide_eq_false fun z => z rfl)) (fun z => nomatch z) fun _ H10 e10 => ?_
    have a10 := a9.ex e10
    have x10 := x9.trans e10
    obtain ⟨mi, hmi⟩ : ∃ x, x = S.time + ds.getD 133 0 % (3 * S.per + 1) := ⟨_, rfl⟩
    have hmi2 : mi ≤ S.time + 3 * S.per := by
      have := Nat.mod_lt (ds.getD 133 0) (show 0 < 3 * S.per + 1 by omega)
      omega
    refine q_asg (v := nV mi) (ev_is (ev_op (ev_now T a10 (ev_var rfl)) (ev_op (dk 133 (by decide) rfl x10) (ev_op (ev_op (ev_c (v := nV 3)) (ev_var rfl) (rv_mulN 3 7 (by decide) (by omega))) (ev_c (v := nV 1)) rv_addN) (rv_modN (by omega))) rv_addN) (by rw [hmi])) fun H11 e11 => ?_
    have a11 := a10.ex e11
    have x11 := x10.trans e11
    have sTM : S.Str S.time mi := ⟨Nat.le_refl _, by omega, by omega⟩
    have sMF : S.Str mi fa := ⟨by omega, by omega, by omega⟩
    have sTF : S.Str S.time fa := ⟨Nat.le_refl _, by omega, by omega⟩
    obtain ⟨wk, hwk⟩ : ∃ x, x = S.work S.time fa := ⟨_, rfl⟩
    refine q_asg (v := nV wk) (ev_is (ev_op (ev_total a11 fit sTM (ea_cons (ev_var rfl) (ea_cons (ev_now T a11 (ev_var rfl)) (ea_cons (ev_var rfl) ea_nil)))) (ev_total a11 fit sMF (ea_cons (ev_var rfl) (ea_cons (ev_var rfl) (ea_cons (ev_var rfl) ea_nil)))) rv_addN) (by rw [HS.work_add sTM.2.1 sMF.2.1, hwk])) fun H12 e12 => ?_
    have a12 := a11.ex e12
    have x12 := x11.trans e12
    refine q_when (b := false) (et_is (et_test (ev_op (ev_total a12 fit sTF (ea_cons (ev_var rfl) (ea_cons (ev_now T a12 (ev_var rfl)) (ea_cons (ev_var rfl) ea_nil)))) (ev_var rfl) rv_neN)) (by rw [hwk]; exact decide_eq_false fun z => z rfl)) (fun z => nomatch z) fun _ H13 e13 => ?_
    have a13 := a12.ex e13
    have x13 := x12.trans e13
    have e713 : Ex H7 H13 := ((((e8.trans e9).trans e10).trans e11).trans e12).trans e13
    have k4' := e713 _ _ k4
    have ek : (W.kept.map fun i => S.looks i S.time fa).sum = wk := by
      rw [ekept, hwk]
      exact HS.work_kept g
    refine q_when (b := false) (et_is (et_test (ev_op (x := nV wk) (ev_cbL (el_lcL (fun _ => true) (fun j => nV (S.looks (W.kept.getD j 0) S.time fa)) (ev_var rfl) (sq_of k4') (by rw [nVs_len]; omega) (fun _ => rfl) (fun j x H2 e2 hx => EvT.yes (fun H Q q => q) H2) (fun j x H2 e2 hx _ => ?_)) (fun p H2 Q hp q => ?_)) (ev_var rfl) rv_neN)) (decide_eq_false fun z => z rfl)) (fun z => nomatch z) fun _ H14 e14 => ?_
    · obtain ⟨hj, rfl⟩ := nVs_at hx
      have hj2 := kn _ hj
      exact ev_looks (a13.ex e2) fit hj2.1 hj2.2 sTF (ea_cons (ev_var rfl) (ea_cons (ev_var rfl) (ea_cons (ev_now T (a13.ex e2) (ev_var rfl)) (ea_cons (ev_var rfl) ea_nil))))
    · rw [nVs_len, map_at W.kept (fun i => S.looks i S.time fa)] at hp
      refine ⟨p, (W.kept.map fun i => S.looks i S.time fa).map fun (i : Nat) => (i : Int), rfl, sq_of (by rw [hp]; unfold nVs; rw [List.map_map, List.map_map, List.map_map]; rfl), ?_⟩
      rw [sum_ints, ek]
      exact q
    have a14 := a13.ex e14
    have x14 := x13.trans e14
    have k4t := e14 _ _ k4'
    have k5t := e14 _ _ (e713 _ _ k5)
    refine q_forLn (ev_var rfl) (sq_of k4t) (fun j σ H' => ∃ x, σ = [some (.ref l), some (.ref (A.at_ .inst)), some (.ref (B.at_ .dict)), some (nV S.per), some (.ref p4), some (.ref p5), some (nV la), some (nV fa), x8, some (nV m), some (nV mi), some (nV wk), x, none] ∧ Ex H14 H') (fun H15 e15 => ⟨none, rfl, e15⟩) (fun j σ' H' _ q => let ⟨_, _, e⟩ := q; sq_of (e _ _ k4t)) (fun j y' σ' H' hy q => ?_) (fun σ' H' q => ?_)
    · obtain ⟨x0, rfl, e15⟩ := q
      obtain ⟨hj, rfl⟩ := nVs_at hy
      have hj2 := kn _ hj
      generalize W.kept.getD j 0 = i at hj hj2
      have a15 := a14.ex e15
      have lk : S.looks i la fa = m * (if i ∈ S.live then 1 else 0) := by
        by_cases q : i ∈ S.live
        · rw [if_pos q, HS.looks_live w c (mem_live.mp q).2 (by omega), hfa, far_div hP0, Nat.mul_one]
        · rw [if_neg q, HS.looks_dead w g c hj2.1 (fun z => q (mem_live.mpr ⟨hj2.1, z⟩)) hj2.2 (by omega), Nat.mul_zero]
      refine s_when (b := false) (et_is (et_test (ev_op (ev_looks a15 fit hj2.1 hj2.2 sLF (ea_cons (ev_var rfl) (ea_cons (ev_var rfl) (ea_cons (ev_var rfl) (ea_cons (ev_var rfl) ea_nil))))) (ev_op (ev_var rfl) (ev_is (w := nV (if i ∈ S.live then 1 else 0)) (ev_intb (ea_cons (ev_op (ev_var rfl) (ev_var rfl) (rv_isL (sq_of (e15 _ _ k5t)) rfl flat_nat)) ea_nil)) ?_) (rv_mulN 120 1 m120 (by split <;> decide))) rv_neN)) (by rw [lk]; exact decide_eq_false fun z => z rfl)) (fun z => nomatch z) fun _ H16 e16 => ⟨_, rfl, e15.trans e16⟩
      rw [inV_nat]
      by_cases q : i ∈ S.live
      · rw [decide_eq_true q, if_pos rfl, if_pos q]
        rfl
      · rw [decide_eq_false q, if_neg q]
        rfl
    obtain ⟨x12', rfl, e15⟩ := q
    have a15 := a14.ex e15
    refine q_forR (p := fun ys H1 => PairsAt H1 ys (fun a b => a < S.n ∧ b ∈ S.tg a)) (fun Q kk => u_meth0 (ev_var rfl) (a15.ob .inst trivial) (hm_references A S.time) fun H1 e1 => ⟨A, S, rfl, a15.ex e1, fun p ys H2 np e2 hp _ hps => kk p ys H2 (fresh_back e1 np) (e1.trans e2) hp hps⟩)
      (fun a ys j σ H'' => ∃ x, σ = [some (.ref l), some (.ref (A.at_ .inst)), some (.ref (B.at_ .dict)), some (nV S.per), some (.ref p4), some (.ref p5), some (nV la), some (nV fa), x8, some (nV m), some (nV mi), some (nV wk), x12', x] ∧ Ex H' H'' ∧ H'' a = some (.lst ys) ∧ PairsAt H'' ys (fun a b => a < S.n ∧ b ∈ S.tg a))
      (fun a ys H1 na e1 ha1 hps => ⟨none, rfl, e1, ha1, hps⟩) (fun a ys j σ' H'' _ q => let ⟨_, _, _, h1, _⟩ := q; sq_of h1) (fun a ys j x σ' H'' hx q => ?_) (fun a ys σ' H'' q => ?_)
    · obtain ⟨x0, rfl, e16, hys, hps⟩ := q
      obtain ⟨T1, s1, s2, rfl, hT1, hs1, hs2⟩ := hps x (List.mem_of_getElem? hx)
      have a16 := a15.ex e16
      have hs3 := w.tgl s1 s2 hs1 hs2
      have mf := HS.full_meets w (y.birth s1 hs1) (y.birth s2 hs3)
      obtain ⟨mn, hmn, hle⟩ := exists_min (l := S.meets s1 s2 ++ S.ends s1 s2) (List.ne_nil_of_mem (List.mem_append_left _ mf))
      have hmn2 := hle _ (List.mem_append_left _ mf)
      show tIfS _ _ _ _ [some (.ref l), some (.ref (A.at_ .inst)), some (.ref (B.at_ .dict)), some (nV S.per), some (.ref p4), some (.ref p5), some (nV la), some (nV fa), x8, some (nV m), some (nV mi), some (nV wk), x12', some (.ref T1)] H''
      refine s_when (b := false) (et_is (et_test (ev_op (ev_until a16 fit hs1 hs3 hs2 hmn hle (ea_cons (ev_var rfl) (ea_cons (ev_op (ev_var rfl) ev_c (rv_ixT (st_of hT1) (atI_nat (j := 0) rfl))) (ea_cons (ev_op (ev_var rfl) ev_c (rv_ixT (st_of hT1) (atI_nat (j := 1) rfl))) ea_nil)))) (ev_op (ev_now T a16 (ev_var rfl)) (ev_var rfl) rv_addN) rv_gtN)) (decide_eq_false (by omega))) (fun z => nomatch z) fun _ H17 e17 => ⟨_, rfl, e16.trans e17, e17 _ _ hys, hps.to fun b o z => e17 _ _ z⟩
    · obtain ⟨x0, rfl, e16, _⟩ := q
      have xx : Ex H H'' := (e1.trans hbx).trans ((x14.trans e15).trans e16)
      exact s_ret ev_c fun H17 e17 => k H17 (xx.trans e17)
end
end HD
set_option Elab.async false
set_option linter.all false
set_option maxRecDepth 100000
set_option maxHeartbeats 4000000
/-! Plain: a heap of two objects, the first holds the second. -/
namespace HD
/-- what collections leave of a heap where no object is dead -/
structure Calm (S S' : HS) (k : Nat) : Prop where
  ps : S'.ps = S.ps
  time : S'.time = S.time + k
  n : S'.n = S.n
  birth : S'.birth = S.birth
  death : S'.death = S.death
  forced : S'.forced = S.forced
  roots : S'.roots = S.roots
  freed : ∀ i, S'.freed i = S.freed i
  pend : ∀ i, S'.pend i = S.pend i
  tg : ∀ i j, i < S.n → (j ∈ S'.tg i ↔ j ∈ S.tg i)
  sr : ∀ i j, i < S.n → (j ∈ S'.sr i ↔ j ∈ S.sr i)
theorem Calm.tick {S S1 S2 : HS} {k : Nat} (c : Calm S S1 k) (hd : ∀ i, i < S.n → S.death i = none) (t : Tick S1 S2) : Calm S S2 (k + 1) := by
  obtain ⟨pe, rk, fr, t, r, R, rfl⟩ := t
  have nf : ∀ l i, ¬ HS.fnd { S1 with time := S1.time + 1 } l i := fun l i z => by
    have h1 : i < S1.n := z.1
    have h2 : S1.death i ≠ none := z.2.1
    rw [c.death] at h2
    exact h2 (hd i (c.n ▸ h1))
  refine ⟨c.ps, ?_, c.n, c.birth, c.death, c.forced, c.roots, fun i => ?_, fun i => ?_, fun i j hi => ?_, fun i j hi => ?_⟩
  · show S1.time + 1 = S.time + (k + 1)
    rw [c.time]
    omega
  · show fr i = S.freed i
    rw [← c.freed i]
    exact Bool.eq_iff_iff.mpr ((R.fr i).trans ⟨fun z => z.elim id fun q => absurd q.1 (nf _ i), .inl⟩)
  · show pe i = S.pend i
    rw [← c.pend i]
    exact Bool.eq_iff_iff.mpr ((R.pend i).trans ⟨fun z => z.1, fun z => ⟨z, nf _ i⟩⟩)
  · have hi' : i < S1.n := c.n.symm ▸ hi
    refine (R.cut.tg i j hi').trans (Iff.trans ?_ (c.tg i j hi))
    exact ⟨fun z => z.1, fun z => ⟨z, fun q => nf _ i q.1, fun q => nf _ j q.1⟩⟩
  · have hi' : i < S1.n := c.n.symm ▸ hi
    refine (R.cut.sr i j hi').trans (Iff.trans ?_ (c.sr i j hi))
    exact ⟨fun z => z.1, fun z => ⟨z, fun q => nf _ i q.1, fun q => nf _ j q.1⟩⟩
theorem Ticks.calm {k : Nat} {S S' : HS} (h : Ticks k S S') (hd : ∀ i, i < S.n → S.death i = none) : Calm S S' k := by
  induction h with
  | zero => exact ⟨rfl, rfl, rfl, rfl, rfl, rfl, rfl, fun _ => rfl, fun _ => rfl, fun _ _ _ => Iff.rfl, fun _ _ _ => Iff.rfl⟩
  | succ h t ih => exact (ih hd).tick hd t
/-- one root -/
structure One (S : HS) (ps : List Nat) (t : Nat) : Prop where
  ps : S.ps = ps
  time : S.time = t
  n : S.n = 1
  b0 : S.birth 0 = 0
  death : S.death 0 = none
  freed : S.freed 0 = false
  forced : S.forced 0 = 0
  pend : S.pend 0 = false
  t0 : ∀ j, ¬ j ∈ S.tg 0
  s0 : ∀ j, ¬ j ∈ S.sr 0
  roots : ∀ j, j ∈ S.roots ↔ j = 0
/-- two live objects, the first a root that holds the second -/
structure Two (S : HS) (ps : List Nat) (b t : Nat) : Prop where
  ps : S.ps = ps
  time : S.time = t
  n : S.n = 2
  b0 : S.birth 0 = 0
  b1 : S.birth 1 = b
  death : ∀ i, i < 2 → S.death i = none
  freed : ∀ i, i < 2 → S.freed i = false
  forced : ∀ i, i < 2 → S.forced i = 0
  pend : ∀ i, i < 2 → S.pend i = false
  t0 : ∀ j, j ∈ S.tg 0 ↔ j = 1
  t1 : ∀ j, ¬ j ∈ S.tg 1
  s0 : ∀ j, ¬ j ∈ S.sr 0
  s1 : ∀ j, j ∈ S.sr 1 ↔ j = 0
  roots : ∀ j, j ∈ S.roots ↔ j = 0
theorem One.new (ps : List Nat) : One (((newS ps).made none false).noted) ps 0 :=
  ⟨rfl, rfl, rfl, rfl, rfl, rfl, rfl, rfl, fun j h => (by have h : j ∈ ([] : List Nat) := h; cases h), fun j h => (by have h : j ∈ ([] : List Nat) := h; cases h), fun j => (mem_addK (l := []) (k := 0)).trans ⟨fun z => z.elim (fun q => by cases q) id, .inr⟩⟩
theorem One.noted {S : HS} {ps : List Nat} {t : Nat} (o : One S ps t) : One S.noted ps t := ⟨o.ps, o.time, o.n, o.b0, o.death, o.freed, o.forced, o.pend, o.t0, o.s0, o.roots⟩
theorem One.one {S : HS} {ps : List Nat} {t : Nat} (o : One S ps t) {i : Nat} (h : i < S.n) : i = 0 := by
  rw [o.n] at h
  omega
theorem One.calm {S S' : HS} {ps : List Nat} {t k : Nat} (o : One S ps t) (c : Calm S S' k) : One S' ps (t + k) := by
  have h0 : 0 < S.n := by rw [o.n]; exact Nat.one_pos
  refine ⟨c.ps.trans o.ps, by rw [c.time, o.time], c.n.trans o.n, by rw [c.birth, o.b0], by rw [c.death, o.death], by rw [c.freed, o.freed], by rw [c.forced, o.forced], by rw [c.pend, o.pend], fun j => ?_, fun j => ?_, fun j => ?_⟩
  · rw [c.tg 0 j h0]
    exact o.t0 j
  · rw [c.sr 0 j h0]
    exact o.s0 j
  · rw [c.roots]
    exact o.roots j
theorem One.good {S : HS} {ps : List Nat} {t : Nat} (o : One S ps t) : S.Good := by
  refine ⟨fun i j hi hj => ?_, fun i hi hd _ => ?_, fun i hi hf => ?_, fun i hi hf => ?_, fun i j hi hj _ => ?_, fun i hi => ?_⟩
  · rw [o.one hi, o.one hj]
    exact ⟨fun z => absurd z (o.t0 0), fun z => absurd z (o.s0 0)⟩
  · rw [o.one hi] at hd
    exact absurd o.death hd
  · rw [o.one hi, o.freed] at hf
    cases hf
  · rw [o.one hi, o.freed] at hf
    cases hf
  · rw [o.one hi] at hj
    exact absurd hj (o.t0 j)
  · rw [(o.roots i).mp hi]
    exact o.death
theorem One.two {S : HS} {ps : List Nat} {t : Nat} (o : One S ps t) : Two ((S.made (some 0) false).noted) ps t t := by
  have e1 : ∀ {α : Type} (f : Nat → α) (x : α), fset f S.n x 0 = f 0 := fun f x => fset_ne _ _ (by rw [o.n]; decide)
  have e2 : ∀ {α : Type} (f : Nat → α) (x : α), fset f S.n x 1 = x := fun f x => by
    rw [o.n]
    exact fset_same _ _ _
  have two : ∀ {p : Nat → Prop}, p 0 → p 1 → ∀ i, i < 2 → p i := fun {p} h0 h1 i hi => by
    have : i = 0 ∨ i = 1 := by omega
    rcases this with rfl | rfl
    · exact h0
    · exact h1
  have tgi : ∀ {i j}, j ∈ ((S.made (some 0) false).noted).tg i ↔ j ∈ (S.grown false).tg i ∨ (i = 0 ∧ j = S.n) := mem_joinTg
  have sri : ∀ {i j}, i ∈ ((S.made (some 0) false).noted).sr j ↔ i ∈ (S.grown false).sr j ∨ (i = 0 ∧ j = S.n) := mem_joinSr
  have g0 : (S.grown false).tg 0 = S.tg 0 := e1 _ _
  have g1 : (S.grown false).tg 1 = [] := e2 _ _
  have r0 : (S.grown false).sr 0 = S.sr 0 := e1 _ _
  have r1 : (S.grown false).sr 1 = [] := e2 _ _
  refine ⟨o.ps, o.time, congrArg Nat.succ o.n, (e1 _ _).trans o.b0, (e2 _ _).trans o.time, two ((e1 _ _).trans o.death) (e2 _ _), two ((e1 _ _).trans o.freed) (e2 _ _), two ((e1 _ _).trans o.forced) (e2 _ _), two ((e1 _ _).trans o.pend) (e2 _ _), fun j => ?_, fun j => ?_, fun j => ?_, fun j => ?_, o.roots⟩
  · rw [tgi, g0, o.n]
    exact ⟨fun z => z.elim (fun q => absurd q (o.t0 j)) fun q => q.2, fun z => .inr ⟨rfl, z⟩⟩
  · rw [tgi, g1]
    exact fun z => z.elim (fun q => by cases q) fun q => absurd q.1 (by decide)
  · rw [sri, r0, o.n]
    exact fun z => z.elim (fun q => o.s0 j q) fun q => absurd q.2 (by decide)
  · rw [sri, r1, o.n]
    exact ⟨fun z => z.elim (fun q => by cases q) fun q => q.1, fun z => .inr ⟨z, rfl⟩⟩
theorem Two.noted {S : HS} {ps : List Nat} {b t : Nat} (o : Two S ps b t) : Two S.noted ps b t := ⟨o.ps, o.time, o.n, o.b0, o.b1, o.death, o.freed, o.forced, o.pend, o.t0, o.t1, o.s0, o.s1, o.roots⟩
theorem Two.lt {S : HS} {ps : List Nat} {b t : Nat} (o : Two S ps b t) {i : Nat} (h : i < S.n) : i < 2 := o.n ▸ h
theorem Two.cases {S : HS} {ps : List Nat} {b t : Nat} (o : Two S ps b t) {i : Nat} (h : i < S.n) : i = 0 ∨ i = 1 := by
  have := o.lt h
  omega
theorem Two.calm {S S' : HS} {ps : List Nat} {b t k : Nat} (o : Two S ps b t) (c : Calm S S' k) : Two S' ps b (t + k) := by
  have h0 : 0 < S.n := by rw [o.n]; decide
  have h1 : 1 < S.n := by rw [o.n]; decide
  refine ⟨c.ps.trans o.ps, by rw [c.time, o.time], c.n.trans o.n, by rw [c.birth, o.b0], by rw [c.birth, o.b1], fun i hi => by rw [c.death, o.death i hi], fun i hi => by rw [c.freed, o.freed i hi], fun i hi => by rw [c.forced, o.forced i hi], fun i hi => by rw [c.pend, o.pend i hi], fun j => ?_, fun j => ?_, fun j => ?_, fun j => ?_, fun j => ?_⟩
  · rw [c.tg 0 j h0]
    exact o.t0 j
  · rw [c.tg 1 j h1]
    exact o.t1 j
  · rw [c.sr 0 j h0]
    exact o.s0 j
  · rw [c.sr 1 j h1]
    exact o.s1 j
  · rw [c.roots]
    exact o.roots j
theorem Two.ts {S : HS} {ps : List Nat} {b t : Nat} (o : Two S ps b t) : ∀ i j, i < S.n → j < S.n → (j ∈ S.tg i ↔ i ∈ S.sr j) := fun i j hi hj => by
  rcases o.cases hi with rfl | rfl <;> rcases o.cases hj with rfl | rfl
  · exact ⟨fun z => absurd ((o.t0 0).mp z) (by decide), fun z => absurd z (o.s0 0)⟩
  · exact ⟨fun _ => (o.s1 0).mpr rfl, fun _ => (o.t0 1).mpr rfl⟩
  · exact ⟨fun z => absurd z (o.t1 0), fun z => absurd z (o.s0 1)⟩
  · exact ⟨fun z => absurd z (o.t1 1), fun z => absurd ((o.s1 1).mp z) (by decide)⟩
theorem Two.good {S : HS} {ps : List Nat} {b t : Nat} (o : Two S ps b t) : S.Good := by
  refine ⟨o.ts, fun i hi hd _ => absurd (o.death i (o.lt hi)) hd, fun i hi hf => ?_, fun i hi hf => ?_, fun i j hi hj _ => ?_, fun i hi => ?_⟩
  · rw [o.freed i (o.lt hi)] at hf
    cases hf
  · rw [o.freed i (o.lt hi)] at hf
    cases hf
  · rcases o.cases hi with rfl | rfl
    · rw [(o.t0 j).mp hj]
      exact o.death 1 (by decide)
    · exact absurd hj (o.t1 j)
  · rw [(o.roots i).mp hi]
    exact o.death 0 (by decide)
/-- when both generations meet, by digits -/
def mts (ps : List Nat) (b t : Nat) : List Nat := (t :: (List.range ps.length).map (nxt ps t)).filter fun x => decide (dig ps 0 x ≤ dig ps b x)
theorem genAt_dig {S : HS} {i x : Nat} (h : S.forced i = 0) : S.genAt i x = dig S.ps (S.birth i) x := by
  have := dig_le (ps := S.ps) (S.birth i) x
  unfold HS.genAt
  rw [h]
  omega
theorem meets_of {S : HS} {ps : List Nat} {b t : Nat} (h1 : S.ps = ps) (h2 : S.time = t) (h3 : S.birth 0 = 0) (h4 : S.birth 1 = b) (h5 : ∀ i, i < 2 → S.forced i = 0) : S.meets 0 1 = mts ps b t := by
  unfold HS.meets mts
  rw [h2, h1]
  refine List.filter_congr fun x _ => ?_
  rw [genAt_dig (h5 0 (by decide)), genAt_dig (h5 1 (by decide)), h1, h3, h4]
theorem Two.meets {S : HS} {ps : List Nat} {b t : Nat} (o : Two S ps b t) : S.meets 0 1 = mts ps b t := meets_of o.ps o.time o.b0 o.b1 o.forced
theorem Two.ends {S : HS} {ps : List Nat} {b t : Nat} (o : Two S ps b t) : S.ends 0 1 = [] := by
  have d0 : S.due 0 = none := if_pos (o.death 0 (by decide))
  have d1 : S.due 1 = none := if_pos (o.death 1 (by decide))
  unfold HS.ends
  rw [d0, d1]
  rfl
theorem dig_mono {ps : List Nat} (h : Ps ps) {a b t : Nat} (hab : a ≤ b) (hb : b ≤ t) : dig ps b t ≤ dig ps a t := by
  have hl := dig_le (ps := ps) b t
  refine (dig_ge h hl).mpr ?_
  rcases (dig_ge h hl).mp (Nat.le_refl _) with z | ⟨j, h1, h2, h3⟩
  · exact .inl z
  · refine .inr ⟨j, h1, h2, ?_⟩
    have k1 := Nat.div_le_div_right (c := plc ps j) hab
    have k2 := Nat.div_le_div_right (c := plc ps j) hb
    omega
/-- the root dropped, both died -/
theorem Two.dead {S : HS} {ps : List Nat} {b t : Nat} (o : Two S ps b t) (p : Ps ps) (hb : b ≤ t) {d r : Nat → Option Nat} (A : Settled (S.dropped 0) d r) :
    HS.Good { S.dropped 0 with death := d, rank := r } ∧ HS.meets { S.dropped 0 with death := d, rank := r } 0 1 = mts ps b t ∧ HS.ends { S.dropped 0 with death := d, rank := r } 0 1 = [nxt ps t (dig ps 0 t), nxt ps t (dig ps 0 t)] := by
  have nr : ∀ i, ¬ Reach S.tg (· ∈ delK S.roots 0) i := fun i z => by
    obtain ⟨x, hx, _⟩ := reach_path.mp z
    have := mem_delK.mp hx
    exact this.2 ((o.roots x).mp this.1)
  have fr : ∀ i, i < 2 → (S.dropped 0).fresh i := fun i hi => ⟨by show i < S.n; rw [o.n]; exact hi, o.death i hi, nr i⟩
  have gen0 : S.gen 0 = dig ps 0 t := by
    unfold HS.gen
    rw [genAt_dig (o.forced 0 (by decide)), o.b0, o.ps, o.time]
  have gen1 : S.gen 1 = dig ps b t := by
    unfold HS.gen
    rw [genAt_dig (o.forced 1 (by decide)), o.b1, o.ps, o.time]
  have mono := dig_mono p (Nat.zero_le b) hb
  have up0 : ∀ {h}, Reach S.sr (· = 0) h → h = 0 := fun {h} z => by
    induction z with
    | start e => exact e
    | step _ e ih =>
      rw [ih] at e
      exact absurd e (o.s0 _)
  have up1 : ∀ {h}, Reach S.sr (· = 1) h → h = 0 ∨ h = 1 := fun {h} z => by
    induction z with
    | start e => exact .inr e
    | step _ e ih =>
      rcases ih with q | q
      · rw [q] at e
        exact absurd e (o.s0 _)
      · rw [q] at e
        exact .inl ((o.s1 _).mp e)
  have d0 := (A.new 0 (fr 0 (by decide))).1
  have d1 := (A.new 1 (fr 1 (by decide))).1
  obtain ⟨m0, k0, g0⟩ := (A.new 0 (fr 0 (by decide))).2
  obtain ⟨m1, k1, g1⟩ := (A.new 1 (fr 1 (by decide))).2
  have e0 : m0 = dig ps 0 t := by
    obtain ⟨h, hh, e⟩ := g0.1
    have e : S.gen h = m0 := e
    rw [← e, up0 hh, gen0]
  have e1 : m1 = dig ps 0 t := by
    obtain ⟨h, hh, e⟩ := g1.1
    have e : S.gen h = m1 := e
    have l0 : S.gen 0 ≤ m1 := g1.2 0 (.step (.start rfl) ((o.s1 0).mpr rfl))
    rw [gen0] at l0
    rcases up1 hh with q | q
    · rw [← e, q, gen0]
    · rw [q, gen1] at e
      omega
  subst e0
  subst e1
  refine ⟨⟨o.ts, fun i hi hd hf => ?_, fun i hi hf => ?_, fun i hi hf => ?_, fun i j hi hj hd => ?_, fun i hi => ?_⟩, meets_of o.ps o.time o.b0 o.b1 o.forced, ?_⟩
  · have hl : dig ps 0 t ≤ lastOf S.ps := by
      rw [o.ps]
      exact dig_le 0 t
    rcases o.cases hi with rfl | rfl
    · exact ⟨_, k0, hl⟩
    · exact ⟨_, k1, hl⟩
  · have hf : S.freed i = true := hf
    rw [o.freed i (o.lt hi)] at hf
    cases hf
  · have hf : S.freed i = true := hf
    rw [o.freed i (o.lt hi)] at hf
    cases hf
  · have hd : d i = none := hd
    rcases o.cases hi with rfl | rfl
    · rw [d0] at hd
      cases hd
    · rw [d1] at hd
      cases hd
  · have hi : i ∈ delK S.roots 0 := hi
    have := mem_delK.mp hi
    exact absurd ((o.roots i).mp this.1) this.2
  · have fat : ∀ i, r i = some (dig ps 0 t) → HS.fat { S.dropped 0 with death := d, rank := r } i = nxt ps t (dig ps 0 t) := fun i hi => by
      show nxt S.ps S.time ((r i).getD 0) = _
      rw [hi, o.ps, o.time]
      rfl
    have due : ∀ i, i < 2 → d i = some S.time → r i = some (dig ps 0 t) → (∀ h, Reach S.sr (· = i) h → h < 2) → HS.due { S.dropped 0 with death := d, rank := r } i = some (nxt ps t (dig ps 0 t)) := fun i hi hd hr hu => by
      have nd : ¬ HS.death { S.dropped 0 with death := d, rank := r } i = none := fun z => by
        have z : d i = none := z
        rw [hd] at z
        cases z
      have nk : ¬ HS.keeps { S.dropped 0 with death := d, rank := r } i := fun ⟨h, hh, hp, _⟩ => by
        have hp : S.pend h = true := hp
        rw [o.pend h (hu h hh)] at hp
        cases hp
      unfold HS.due
      rw [if_neg nd, if_neg nk, fat i hr]
    have u0 := due 0 (by decide) d0 k0 fun h z => by rw [up0 z]; decide
    have u1 := due 1 (by decide) d1 k1 fun h z => by rcases up1 z with q | q <;> rw [q] <;> decide
    unfold HS.ends
    rw [u0, u1]
    rfl
end HD
set_option Elab.async false
set_option linter.all false
set_option maxRecDepth 100000
set_option maxHeartbeats 4000000
/-! The law's generation; words for until_right. -/
namespace HD
open PySem PySem.Spec PyProof.Rows L2 Evl
/-- the generation by the first j places -/
def digN (ps : List Nat) (b t j : Nat) : Nat := match ((List.range j).filter fun k => decide (b / plc ps k ≠ t / plc ps k)).getLast? with
  | none => 0
  | some m => min (lastOf ps) (1 + m)
theorem digN_all {ps : List Nat} {b t : Nat} : digN ps b t ps.length = dig ps b t := rfl
theorem digN_yes {ps : List Nat} {b t j : Nat} (h : b / plc ps j ≠ t / plc ps j) : digN ps b t (j + 1) = min (lastOf ps) (j + 1) := by
  unfold digN
  rw [List.range_succ, List.filter_append, List.filter_cons, if_pos (decide_eq_true h), List.filter_nil, List.getLast?_concat]
  show min (lastOf ps) (1 + j) = _
  rw [Nat.add_comm]
theorem digN_no {ps : List Nat} {b t j : Nat} (h : ¬ b / plc ps j ≠ t / plc ps j) : digN ps b t (j + 1) = digN ps b t j := by
  unfold digN
  rw [List.range_succ, List.filter_append, List.filter_cons, if_neg (by rw [decide_eq_false h]; decide), List.filter_nil, List.append_nil]
/-- a heap alone, above what stood in H -/
structure Solo (K : PySem.W.Frag) (H H' : Hp) (A : Rep) (S : HS) : Prop where
  ha : HeapAt K H' A S
  ex : Ex H H'
  fa : ∀ b, Own A S.n b → H b = none
theorem Solo.step {K : PySem.W.Frag} {H H1 H2 : Hp} {A A' : Rep} {S S' : HS} (s : Solo K H H1 A S) (st : Step K H1 H2 A A' S S') : Solo K H H2 A' S' :=
  ⟨st.ha, fun b o hb => st.chg b o (s.ex b o hb) fun z => (by rw [s.fa b z] at hb; cases hb), fun b o => (st.own b o).elim (s.fa b) (fresh_back s.ex)⟩
theorem Solo.to {K : PySem.W.Frag} {H H1 H2 : Hp} {A : Rep} {S : HS} (s : Solo K H H1 A S) (e : Ex H1 H2) : Solo K H H2 A S := ⟨s.ha.ex e, s.ex.trans e, s.fa⟩
section
variable {K : PySem.W.Frag} {σ : L2.St} {H : Hp} {ta tb te tl : TE} {ts : TA} {Q : VK} {C a dx : Addr} {fs : List (Str × V)} {m : Str} {sp : Sp} {dvs vs : List V} {z : V} {E : XK}
theorem u_methA (h : Ev ta σ H (.ref a)) (ho : H a = some (.ins C dx fs)) (hl : fs.lookup m = none) (ht : EvA ts σ H vs) (k : ∀ H1, Ex H H1 → sp (.ref a :: (vs ++ dvs)) H1 Q E) : tMeth C m sp dvs E ta ts σ H Q :=
  h H (Ex.refl _) _ fun H2 e2 => ⟨a, dx, fs, rfl, e2 _ _ ho, hl, (ht.mono e2) H2 (Ex.refl _) _ fun H3 e3 => k H3 (e2.trans e3)⟩
/-- a call by one new list -/
theorem ev_callL {xs : List V} (h : EvL tl σ H xs) (hs : ∀ p H1, H1 p = some (.lst xs) → SpV sp [.ref p] H1 z) : Ev (tCall sp [] E (tCons tl tNil)) σ H z := fun H1 e Q q =>
  h H1 e _ fun p H2 np e2 hp => hs p H2 hp H2 (Ex.refl _) Q (fun H3 e3 => q H3 (e2.trans e3)) E
/-- the least of a list of numbers that stands, or that is made -/
theorem ev_minN {l : List Nat} {n : Nat} (h : Ev te σ H (.ref a)) (ha : H a = some (.lst (nVs l))) (hm : n ∈ l) (hl : ∀ y ∈ l, n ≤ y) : Ev (tCB (rMin K) (tCons te tNil)) σ H (nV n) := fun H1 e Q q =>
  h H1 e _ fun H2 e2 => ⟨a, l.map fun (i : Nat) => (i : Int), rfl, sq_of (by rw [e2 _ _ (e _ _ ha)]; unfold nVs; rw [List.map_map]; rfl), by rw [List.length_map]; exact List.length_pos_of_mem hm, fun k hk hle => by
    obtain ⟨y, hy, rfl⟩ := List.mem_map.mp hk
    have h1 := hle n (List.mem_map.mpr ⟨n, hm, rfl⟩)
    have h2 := hl y hy
    have e3 : y = n := by omega
    rw [e3]
    exact q H2 e2⟩
theorem ev_minL {l : List Nat} {n : Nat} (h : EvL te σ H (nVs l)) (hm : n ∈ l) (hl : ∀ y ∈ l, n ≤ y) : Ev (tCB (rMin K) (tCons te tNil)) σ H (nV n) := fun H1 e Q q =>
  h H1 e _ fun p H2 np e2 hp => ⟨p, l.map fun (i : Nat) => (i : Int), rfl, sq_of (by rw [hp]; unfold nVs; rw [List.map_map]; rfl), by rw [List.length_map]; exact List.length_pos_of_mem hm, fun k hk hle => by
    obtain ⟨y, hy, rfl⟩ := List.mem_map.mp hk
    have h1 := hle n (List.mem_map.mpr ⟨n, hm, rfl⟩)
    have h2 := hl y hy
    have e3 : y = n := by omega
    rw [e3]
    exact q H2 e2⟩
/-- the first a list that stands -/
theorem el_cat4 {xs ys : List V} (ha : Ev ta σ H (.ref a)) (h1 : H a = some (.lst xs)) (hb : EvL tb σ H ys) (hz : xs.length + ys.length ≤ 100000) : EvL (tOp rCat ta tb) σ H (xs ++ ys) := fun H1 e Q k =>
  ha H1 e _ fun H2 e2 => hb H2 (e.trans e2) _ fun q H3 nq e3 hq => ⟨a, q, xs, ys, rfl, rfl, e3 _ _ (e2 _ _ (e _ _ h1)), hq, sz_of hz, fun r nr => k r _ (fresh_back (e2.trans e3) nr) ((e2.trans e3).trans (Ex.new nr)) upd_same⟩
end
section
variable {P : Program} {w : World} {K : PySem.W.Frag} {mg : Str → Option Value} {base : Heap}
theorem sc_Lgeneration : FnScope ["_law_places_here", "_law_birth", "_law_time", "_law_found_so", "_law_level_here", "_law_place"] ["_law_places_here", "_law_birth", "_law_time"] (defScope s_Lgeneration) := ⟨rfl, rfl, rfl, by decide +kernel, rfl, by decide +kernel, by decide +kernel⟩
def sp_Lgeneration (K : PySem.W.Frag) : Sp := fun vs H Q _ => ∃ (l : Addr) (ps : List Nat) (b t : Nat), vs = [.ref l, nV b, nV t] ∧ SqL K H l (nVs ps) ∧ Ps ps ∧ RetV (nV (dig ps b t)) H Q
theorem ok_Lgeneration (T : TX K mg) : Glob P w K mg base 1 "_law_generation" ["_law_places_here", "_law_birth", "_law_time"] (sp_Lgeneration K) := by
  have SC := sc_Lgeneration
  refine glob_mk (F_Lgeneration T) (g_Lgeneration T) sc_Lgeneration (fun _ _ _ _ _ _ us hl => match us, hl with | [_, _, _], _ => rfl) (fun vs H Q E h => ?_) (fun cdv A outer s H vs Q E hr h => ?_)
  · obtain ⟨l, ps, b, t, rfl, _⟩ := h
    rfl
  · obtain ⟨l, ps, b, t, rfl, hl, hp, k⟩ := h
    refine ⟨_, (pss_cons (ps_set (i := 3) SC.nd rfl (Or.inl rfl) pe_int)
    (pss_cons (ps_for PassesOwn.never rfl (pi_enum rfl (b_enumerate T) (pa_cons (pv 0) pa_nil)) (ktup (K := K) 2 rfl (pgs_cons (pg_name (i := 4) SC.nd rfl (Or.inl rfl)) (pgs_cons (pg_name (i := 5) SC.nd rfl (Or.inl rfl)) pgs_nil)))
      (pss_one (ps_if (pt_cmpR op_ne (pe_op op_fdivW (pv 1) (pv 5)) (pe_op op_fdivW (pv 2) (pv 5)) (nomark _))
      (pss_one (ps_set (i := 3) SC.nd rfl (Or.inl rfl) (pe_callB (call_min2 rfl) rfl (b_min T) (by decide +kernel) (pa_cons (pe_op op_sub (klen (K := K) rfl (b_len T) (pa_cons (pv 0) pa_nil)) pe_int) (pa_cons (pe_op op_add (pv 4) pe_int) pa_nil)))))
      pss_nil)))
    (pss_one (ps_ret (pv 3))))), ?_⟩
    have l1 := hp.len
    refine q_asg (v := nV 0) ev_c fun H1 e1 => ?_
    refine u_seq (s_forE (K := K) (ea_cons (ev_var rfl) ea_nil) (ex_l e1 hl) (fun j σ H' => ∃ y z, σ = [some (.ref l), some (nV b), some (nV t), some (nV (digN ps b t j)), y, z] ∧ Ex H H') (fun H2 e2 => ⟨none, none, rfl, e1.trans e2⟩) (fun j σ' H' _ q => let ⟨_, _, _, e⟩ := q; ex_l e hl) (fun j y σ' H' hy q H3 e3 => ?_) (fun σ' H' q => ?_))
    · obtain ⟨y0, z0, rfl, e⟩ := q
      have hj : j < ps.length := by
        have := (List.getElem?_eq_some_iff.mp hy).1
        rw [nVs_len] at this
        exact this
      have hv : (nVs ps)[j]? = some (nV (plc ps j)) := psV_at hj
      rw [hv] at hy
      cases hy
      have pp := plcP hp j
      have pb := plc_lt hp.big j
      refine s_when (b := decide (b / plc ps j ≠ t / plc ps j)) (et_test (ev_op (ev_op (ev_var rfl) (ev_var rfl) (rv_divN 300 pp pb)) (ev_op (ev_var rfl) (ev_var rfl) (rv_divN 300 pp pb)) rv_neN)) (fun hb H4 e4 => ?_) (fun hb H4 e4 => ?_)
      · refine s_asg (v := nV (digN ps b t (j + 1))) (ev_is (ev_min2N (ea_cons (ev_op (ev_is (w := nV ps.length) (ev_len (ev_var rfl) (ex_l (e.trans (e3.trans e4)) hl)) (by rw [nVs_len])) (ev_c (v := nV 1)) (rv_subN l1)) (ea_cons (ev_op (ev_var (v := nV j) rfl) (ev_c (v := nV 1)) rv_addN) ea_nil))) (by rw [digN_yes (of_decide_eq_true hb)]; rfl)) fun H5 e5 => ⟨_, _, rfl, (e.trans (e3.trans e4)).trans e5⟩
      · refine ⟨some (.int (j : Nat)), some (nV (plc ps j)), ?_, e.trans (e3.trans e4)⟩
        rw [digN_no (of_decide_eq_false hb)]
        rfl
    · obtain ⟨y0, z0, rfl, e⟩ := q
      rw [nVs_len, digN_all]
      exact s_ret (ev_var rfl) fun H5 e5 => k H5 (e.trans e5)
/-- _law_generation(places, birth, time) -/
theorem ev_Lgen {H : Hp} {σ : L2.St} {ts : TA} {E : XK} {l : Addr} {ps : List Nat} {b t : Nat} (hl : H l = some (.lst (nVs ps))) (hp : Ps ps) (e : EvA ts σ H [.ref l, nV b, nV t]) : Ev (tCall (sp_Lgeneration K) [] E ts) σ H (nV (dig ps b t)) :=
  ev_call e fun H1 e1 Q q E => ⟨l, ps, b, t, rfl, sq_of (e1 _ _ hl), hp, q⟩
end
end HD
set_option Elab.async false
set_option linter.all false
set_option maxRecDepth 100000
set_option maxHeartbeats 4000000
/-! The law's until_right. -/
namespace HD
open PySem PySem.Spec PyProof.Rows L2 Evl
def menuL : List Nat := [2, 7, 1000, 1000000, 1000000000, 1000000000000]
theorem menu_ok : ∀ k, k < 6 → 2 ≤ menuL.getD k 0 ∧ menuL.getD k 0 ≤ 1000000000000 := by decide
/-- how many collections a turn runs -/
def turnN (ds : List Nat) (j : Nat) : Nat := 1 + ds.getD (6 + j) 0 * 1000000000 + ds.getD (8 + j) 0 % 3
/-- the heap before turn j -/
def StU (ps : List Nat) (ds : List Nat) (j : Nat) (S : HS) : Prop :=
  (j = 0 ∧ S = newS ps) ∨ (j = 1 ∧ One S ps (turnN ds 0)) ∨ (j = 2 ∧ Two S ps (turnN ds 0) (turnN ds 0 + turnN ds 1))
/-- within turn j, behind create -/
def MiU (ps : List Nat) (ds : List Nat) (j : Nat) (S : HS) : Prop :=
  (j = 0 ∧ One S ps 0) ∨ (j = 1 ∧ Two S ps (turnN ds 0) (turnN ds 0))
theorem MiU.good {ps ds : List Nat} {j : Nat} {S : HS} (h : MiU ps ds j S) : S.Good := by
  rcases h with ⟨_, o⟩ | ⟨_, o⟩
  · exact o.good
  · exact o.good
theorem MiU.time {ps ds : List Nat} {j : Nat} {S : HS} (h : MiU ps ds j S) : S.time ≤ turnN ds 0 := by
  rcases h with ⟨_, o⟩ | ⟨_, o⟩
  · rw [o.time]
    exact Nat.zero_le _
  · rw [o.time]
    exact Nat.le_refl _
theorem MiU.ticks {ps ds : List Nat} {j : Nat} {S S' : HS} (h : MiU ps ds j S) (t : Ticks (turnN ds j) S S') : StU ps ds (j + 1) S'.noted := by
  rcases h with ⟨rfl, o⟩ | ⟨rfl, o⟩
  · have c := t.calm fun i hi => by rw [o.one hi]; exact o.death
    have := (o.calm c).noted
    rw [Nat.zero_add] at this
    exact .inr (.inl ⟨rfl, this⟩)
  · have c := t.calm fun i hi => o.death i (o.lt hi)
    exact .inr (.inr ⟨rfl, (o.calm c).noted⟩)
/-- whose the new object is -/
def owU (j : Nat) : Option Nat := if j = 0 then none else some 0
theorem StU.create {ps ds : List Nat} {j : Nat} {S : HS} (h : StU ps ds j S) (hj : j < 2) : (∀ a, owU j = some a → S.isLive a) ∧ S.n ≤ 13 ∧ MiU ps ds j ((S.made (owU j) false).noted) := by
  rcases h with ⟨rfl, rfl⟩ | ⟨rfl, o⟩ | ⟨rfl, _⟩
  · exact ⟨fun a ha => (by have ha : (none : Option Nat) = some a := ha; cases ha), Nat.zero_le _, .inl ⟨rfl, One.new ps⟩⟩
  · refine ⟨fun a ha => ?_, by rw [o.n]; decide, .inr ⟨rfl, o.two⟩⟩
    have ha : (some 0 : Option Nat) = some a := ha
    cases ha
    exact ⟨by rw [o.n]; decide, o.death⟩
  · omega
theorem StU.two {ps ds : List Nat} {S : HS} (h : StU ps ds 2 S) : Two S ps (turnN ds 0) (turnN ds 0 + turnN ds 1) := by
  rcases h with ⟨z, _⟩ | ⟨z, _⟩ | ⟨_, o⟩
  · exact absurd z (by decide)
  · exact absurd z (by decide)
  · exact o
theorem mts_ne {ps : List Nat} (h : Ps ps) {b t : Nat} (hb : b ≤ t) : nxt ps t (lastOf ps) ∈ mts ps b t := by
  have hl : lastOf ps < ps.length := by
    have := h.len
    unfold lastOf
    omega
  unfold mts
  rw [List.mem_filter]
  refine ⟨List.mem_cons_of_mem _ (List.mem_map.mpr ⟨lastOf ps, List.mem_range.mpr hl, rfl⟩), ?_⟩
  rw [decide_eq_true_eq, dig_last h (full_div h hb)]
  exact dig_le 0 _
section
variable {P : Program} {w : World} {K : PySem.W.Frag} {mg : Str → Option Value} {base : Heap}
theorem sc_Luntil_right : FnScope ["_law_digits_here", "_law_menu", "_law_radices_here", "_law_places_here", "_law_heap", "_law_turn", "_law_now", "_law_births", "_law_times", "_law_meets", "_law_time", "_law_place", "_law_gens", "_law_digit", "_law_item", "_law_birth"] ["_law_digits_here"] (defScope s_Luntil_right) := ⟨rfl, rfl, rfl, by decide +kernel, rfl, by decide +kernel, by decide +kernel⟩
def sp_Luntil_right : Sp := fun vs H Q _ => ∃ (l : Addr) (ds : List Nat), vs = [.ref l] ∧ H l = some (.lst (nVs ds)) ∧ ds.length = 14 ∧ (∀ d ∈ ds, d < 1009) ∧ RetV (.bl true) H Q
theorem ok_Luntil_right (T : TX K mg) : Glob P w K mg base 7 "_law_until_right" ["_law_digits_here"] sp_Luntil_right := by
  have SC := sc_Luntil_right
  refine glob_mk (F_Luntil_right T) (g_Luntil_right T) sc_Luntil_right (fun _ _ _ _ _ _ us hl => match us, hl with | [_], _ => rfl) (fun vs H Q E h => ?_) (fun cdv A outer s H vs Q E hr h => ?_)
  · obtain ⟨l, ds, rfl, _⟩ := h
    rfl
  · obtain ⟨l, ds, rfl, hl, h14, hds, k⟩ := h
    have hu := hu_of hr
    obtain ⟨cf, cfd, cF, cm, _, _, cds, cv, cb⟩ := ok_H_create (P := P) (w := w) (base := base) T
    refine ⟨_, (pss_cons (ps_set (i := 1) SC.nd rfl (Or.inr rfl) (pe_lst (pa_cons pe_int (pa_cons pe_int (pa_cons pe_int (pa_cons (pe_op op_pow pe_int pe_int) (pa_cons (pe_op op_pow pe_int pe_int) (pa_cons (pe_op op_pow pe_int pe_int) pa_nil))))))))
    (pss_cons (ps_setLc (i := 2) (own := [("_law_digit", 13)]) rfl SC.nd rfl rfl (sw_true rfl rfl rfl (by decide +kernel)) (pi_list (pe_slice sl_list (pv 0) (po_some pe_int) (po_some (pe_op op_add pe_int (pe_op op_mod (kix (K := K) (pv 0) pe_int) pe_int))))) (blkOk_by (own := [("_law_digit", 13)]) (N := ["_law_digits_here", "_law_menu", "_law_radices_here", "_law_places_here", "_law_heap", "_law_turn", "_law_now", "_law_births", "_law_times", "_law_meets", "_law_time", "_law_place", "_law_gens", "_law_digit", "_law_item", "_law_birth"]) (sc := defScope s_Luntil_right) (by decide +kernel)) (fun _ _ _ _ _ => (pg_name (i := 13) SC.nd rfl (Or.inl rfl))) (fun _ _ _ _ _ => pts_nil) (fun _ _ _ _ _ => (kix (K := K) (pv 1) (pe_op op_mod (pv 13) pe_int))))
    (pss_cons (ps_set (i := 3) SC.nd rfl (Or.inr rfl) (pg_call (ok_Lplaces T) hr (by decide) rfl (pa_cons (pv 2) pa_nil)))
    (pss_cons (ps_set (i := 4) SC.nd rfl (Or.inr rfl) (pk_make (ok_H_init T) hr (by decide) rfl (g_Heap T) (pa_cons (pk_make (ok_S_init T) hr (by decide) rfl (g_Scheme T) (pa_cons (pv 2) pa_nil)) pa_nil)))
    (pss_cons (ps_for PassesOwn.never rfl (pi_range1 rfl (b_range T) (pa_cons pe_int pa_nil)) (pg_name (i := 5) SC.nd rfl (Or.inl rfl))
      (pss_cons (ps_expr (pe_meth (pv 4) (cls_H T) cm cF (hr.mono (by decide)) cb cv pass0 (pa_cons (pe_ifExp (pt_cmpR op_eq (pv 5) pe_int (nomark _)) pe_non pe_int) pa_nil)))
    (pss_one (ps_expr (pm_call (ok_H_collect T) (cls_H T) hr (by decide) (pv 4) (pa_cons (pe_op op_add (pe_op op_add pe_int (pe_op op_mulW (kix (K := K) (pv 0) (pe_op op_add pe_int (pv 5))) (pe_op op_pow pe_int pe_int))) (pe_op op_mod (kix (K := K) (pv 0) (pe_op op_add pe_int (pv 5))) pe_int)) pa_nil))))))
    (pss_cons (ps_set (i := 6) SC.nd rfl (Or.inr rfl) (pm_call0 (ok_H_now T) (cls_H T) hr (by decide) (pv 4)))
    (pss_cons (ps_setLc (i := 7) (own := [("_law_item", 14)]) rfl SC.nd rfl rfl (sw_true rfl rfl rfl (by decide +kernel)) (pi_range1 rfl (b_range T) (pa_cons pe_int pa_nil)) (blkOk_by (own := [("_law_item", 14)]) (N := ["_law_digits_here", "_law_menu", "_law_radices_here", "_law_places_here", "_law_heap", "_law_turn", "_law_now", "_law_births", "_law_times", "_law_meets", "_law_time", "_law_place", "_law_gens", "_law_digit", "_law_item", "_law_birth"]) (sc := defScope s_Luntil_right) (by decide +kernel)) (fun _ _ _ _ _ => (pg_name (i := 14) SC.nd rfl (Or.inl rfl))) (fun _ _ _ _ _ => pts_nil) (fun _ _ _ _ _ => (pm_call (ok_H_birth T) (cls_H T) hr (by decide) (pv 4) (pa_cons (pv 14) pa_nil))))
    (pss_cons (ps_set (i := 8) SC.nd rfl (Or.inl rfl) (pe_op op_cat (pe_lst (pa_cons (pv 6) pa_nil)) (pe_lc (own := [("_law_place", 11)]) rfl SC.nd (pi_list (pv 3)) (blkOk_by (own := [("_law_place", 11)]) (N := ["_law_digits_here", "_law_menu", "_law_radices_here", "_law_places_here", "_law_heap", "_law_turn", "_law_now", "_law_births", "_law_times", "_law_meets", "_law_time", "_law_place", "_law_gens", "_law_digit", "_law_item", "_law_birth"]) (sc := defScope s_Luntil_right) (by decide +kernel)) (fun _ _ _ _ _ => (pg_name (i := 11) SC.nd rfl (Or.inl rfl))) (fun _ _ _ _ _ => pts_nil) (fun _ _ _ _ _ => (pe_op op_mulW (pe_op op_add (pe_op op_fdivW (pv 6) (pv 11)) pe_int) (pv 11))))))
    (pss_cons (ps_set (i := 9) SC.nd rfl (Or.inl rfl) (pe_lst pa_nil))
    (pss_cons (ps_for PassesOwn.never rfl (pi_list (pv 8)) (pg_name (i := 10) SC.nd rfl (Or.inr rfl))
      (pss_cons (ps_setLc (i := 12) (own := [("_law_birth", 15)]) rfl SC.nd rfl rfl (sw_true rfl rfl rfl (by decide +kernel)) (pi_list (pv 7)) (blkOk_by (own := [("_law_birth", 15)]) (N := ["_law_digits_here", "_law_menu", "_law_radices_here", "_law_places_here", "_law_heap", "_law_turn", "_law_now", "_law_births", "_law_times", "_law_meets", "_law_time", "_law_place", "_law_gens", "_law_digit", "_law_item", "_law_birth"]) (sc := defScope s_Luntil_right) (by decide +kernel)) (fun _ _ _ _ _ => (pg_name (i := 15) SC.nd rfl (Or.inl rfl))) (fun _ _ _ _ _ => pts_nil) (fun _ _ _ _ _ => (pg_call (ok_Lgeneration T) hr (by decide) rfl (pa_cons (pv 3) (pa_cons (pv 15) (pa_cons (pv 10) pa_nil))))))
    (pss_one (ps_if (pt_cmpR op_le (kix (K := K) (pv 12) pe_int) (kix (K := K) (pv 12) pe_int) (nomark _))
      (pss_one (ps_expr (pe_bm PySem.F.plainAttrs_list PySem.F.slot_list_append PySem.F.type_list_append mt_append (pv 9) (pa_cons (pv 10) pa_nil))))
      pss_nil))))
    (pss_cons (ps_if (pt_cmpR op_ne (pg_call (ok_remembered_until T) hr (by decide) rfl (pa_cons (pv 4) (pa_cons pe_int (pa_cons pe_int pa_nil)))) (pe_callB (cr_min rfl) rfl (b_min T) (by decide +kernel) (pa_cons (pv 9) pa_nil)) (nomark _))
      (pss_one (ps_ret pe_bl))
      pss_nil)
    (pss_cons (ps_expr (pm_call (ok_H_drop T) (cls_H T) hr (by decide) (pv 4) (pa_cons pe_int pa_nil)))
    (pss_cons (ps_set (i := 11) SC.nd rfl (Or.inl rfl) (kix (K := K) (pv 3) (pg_call (ok_Lgeneration T) hr (by decide) rfl (pa_cons (pv 3) (pa_cons (kix (K := K) (pv 7) pe_int) (pa_cons (pv 6) pa_nil))))))
    (pss_one (ps_ret (pe_cmpR op_eq (pg_call (ok_remembered_until T) hr (by decide) rfl (pa_cons (pv 4) (pa_cons pe_int (pa_cons pe_int pa_nil)))) (pe_callB (cr_min rfl) rfl (b_min T) (by decide +kernel) (pa_cons (pe_op op_cat (pv 9) (pe_lst (pa_cons (pe_op op_mulW (pe_op op_add (pe_op op_fdivW (pv 6) (pv 11)) pe_int) (pv 11)) pa_nil))) pa_nil)) (nomark _))))))))))))))))), ?_⟩
    have h6 : V.int ((10 : Int) ^ (6 : Int).toNat) = nV 1000000 := by decide
    have h9 : V.int ((10 : Int) ^ (9 : Int).toNat) = nV 1000000000 := by decide
    have h12 : V.int ((10 : Int) ^ (12 : Int).toNat) = nV 1000000000000 := by decide
    refine q_asgL (el_lst (ea_cons ev_c (ea_cons ev_c (ea_cons ev_c (ea_cons (ev_is (ev_op ev_c ev_c (rv_I ⟨by decide, by decide, by decide⟩)) h6) (ea_cons (ev_is (ev_op ev_c ev_c (rv_I ⟨by decide, by decide, by decide⟩)) h9) (ea_cons (ev_is (ev_op ev_c ev_c (rv_I ⟨by decide, by decide, by decide⟩)) h12) ea_nil)))))) (by show 6 ≤ 100000; decide)) fun p1 H1 np1 e1 hp1 => ?_
    have hp1 : H1 p1 = some (.lst (nVs menuL)) := hp1
    have hl1 := e1 _ _ hl
    have sl := el_sl (K := K) (σ := [some (.ref l), some (.ref p1), none, none, none, none, none, none, none, none, none, none, none, none, none, none]) (ev_var (i := 0) rfl) (eo_some (ev_c (v := .int ((1 : Nat) : Int)))) (eo_some (ev_op (ev_c (v := nV 2)) (ev_op (ev_op (ev_var (i := 0) rfl) (ev_c (v := .int ((0 : Nat) : Int))) (rv_ixL (K := K) (sq_of hl1) (atI_nat (v := nV (ds.getD 0 0)) (by rw [List.getElem?_map, getD_at (by omega)]; rfl)))) (ev_c (v := nV 4)) (rv_modN (by decide))) rv_addN)) (sq_of hl1)
    rw [cutV_nat] at sl
    generalize hd : (ds.drop (min 1 ds.length)).take (min (2 + ds.getD 0 0 % 4) ds.length - min 1 ds.length) = d2 at sl
    have l2 : d2.length ≤ 4 := by
      rw [← hd, List.length_take]
      have := Nat.mod_lt (ds.getD 0 0) (show 0 < 4 by decide)
      omega
    refine q_asgL (el_lcNL (fun _ => true) (fun i => nV (menuL.getD (d2.getD i 0 % 6) 0)) sl (by rw [nVs_len]; omega) (fun _ => rfl) (fun i x H1 e1 hx => EvT.yes (fun H Q q => q) H1) (fun i x H2 e2 hx _ => ?_)) fun p2 H2 np2 e2 hp2 => ?_
    · obtain ⟨hj, rfl⟩ := nVs_at hx
      refine ev_op (ev_var rfl) (ev_op (ev_var rfl) (ev_c (v := nV 6)) (rv_modN (by decide))) (rv_ixL (sq_of (e2 _ _ hp1)) (atI_nat ?_))
      rw [List.getElem?_map, getD_at (show d2.getD i 0 % 6 < menuL.length from Nat.mod_lt _ (by decide))]
      rfl
    rw [nVs_len, map_at d2 (fun d => menuL.getD (d % 6) 0)] at hp2
    have rad : Rad (d2.map fun d => menuL.getD (d % 6) 0) := by
      refine ⟨by rw [List.length_map]; omega, fun r hr => ?_, fun r hr => ?_⟩
      · obtain ⟨d, _, rfl⟩ := List.mem_map.mp hr
        exact (menu_ok _ (Nat.mod_lt _ (by decide))).1
      · obtain ⟨d, _, rfl⟩ := List.mem_map.mp hr
        exact (menu_ok _ (Nat.mod_lt _ (by decide))).2
    have rs4 : (d2.map fun d => menuL.getD (d % 6) 0).length ≤ 4 := by
      rw [List.length_map]
      exact l2
    generalize (d2.map fun d => menuL.getD (d % 6) 0) = rs at hp2 rad rs4
    clear hd sl
    refine q_asgL (xs := nVs (pl 1 rs)) (el_call (ea_cons (ev_var rfl) ea_nil) fun H3 e3 Q q E => ⟨p2, rs, rfl, sq_of (e3 _ _ hp2), rad, q⟩) fun p3 H3 np3 e3 hp3 => ?_
    refine q_asgE ?_
    refine u_heap T (l := p2) (rs := rs) (ev_var rfl) (e3 _ _ hp2) rad fun H4 A0 hA e4 fa => ?_
    have hl3 := e3 _ _ (e2 _ _ hl1)
    have s0 : Solo K H3 H4 A0 (newS (pl 1 rs)) := ⟨hA, e4, fa⟩
    have x3 : Ex H H3 := (e1.trans e2).trans e3
    have pp : Ps (pl 1 rs) := (newS_wf rad).p
    have ch : Ch (pl 1 rs) := pl_ch
    have psl : (pl 1 rs).length ≤ 5 := by
      rw [pl_len]
      omega
    generalize pl 1 rs = ps at hp3 s0 pp ch psl
    clear hA fa e4 hp2 rad rs4 hp1
    generalize hp0 : A0.at_ .inst = p0
    have dsl : ∀ k, ds.getD k 0 < 1009 := fun k => by
      by_cases h : k < ds.length
      · exact hds _ (List.mem_of_getElem? (getD_at h))
      · rw [List.getD_eq_getElem?_getD, List.getElem?_eq_none (by omega)]
        decide
    have tn : ∀ j, turnN ds j ≤ 1009000000000 := fun j => by
      have h1 := dsl (6 + j)
      have h2 := Nat.mod_lt (ds.getD (8 + j) 0) (show 0 < 3 by decide)
      unfold turnN
      omega
    have dk : ∀ {σ : L2.St} {H' : Hp} {te : TE} (j k : Nat), k < 14 → σ[0]? = some (some (.ref l)) → Ex H3 H' → Ev te σ H' (nV k) → Ev (tOp (rIxL K) (tVar 0) te) σ H' (nV (ds.getD k 0)) := fun j k hk s e ev =>
      ev_op (ev_var s) ev (rv_ixL (sq_of (e _ _ hl3)) (atI_nat (by rw [List.getElem?_map, getD_at (by omega)]; rfl)))
    show tSeq _ _ _ [some (.ref l), some (.ref p1), some (.ref p2), some (.ref p3), some (.ref p0), none, none, none, none, none, none, none, none, none, none, none] H4
    refine u_seq (s_forR1 (ea_cons ev_c ea_nil) (by decide) (fun j σ H' => ∃ x A S, σ = [some (.ref l), some (.ref p1), some (.ref p2), some (.ref p3), some (.ref p0), x, none, none, none, none, none, none, none, none, none, none] ∧ A.at_ .inst = p0 ∧ Solo K H3 H' A S ∧ StU ps ds j S ∧ S.nd = 2 * j)
      (fun H5 e5 => ⟨none, A0, _, rfl, hp0, s0.to e5, .inl ⟨rfl, rfl⟩, rfl⟩) (fun j σ' H' hj q => ?_) (fun σ' H' q => ?_))
    · clear s0 hp0
      obtain ⟨x, A, S, rfl, rfl, so, st, hnd⟩ := q
      have hj : j < 2 := by omega
      obtain ⟨c1, c2, c3⟩ := st.create hj
      have evo : EvA (tCons (tIf (tTest (tOp rEq (tVar 5) (tC (.int 0)))) (tC .non) (tC (.int 0))) tNil) [some (.ref l), some (.ref p1), some (.ref p2), some (.ref p3), some (.ref (A.at_ .inst)), some (.int (j : Int)), none, none, none, none, none, none, none, none, none, none] H' [oV (owU j)] := by
        refine ea_cons (ev_if (b := decide (j = 0)) (et_test (ev_op (ev_var (v := nV j) rfl) (ev_c (v := nV 0)) rv_eqN)) (fun hb => ?_) (fun hb => ?_)) ea_nil
        · have hb := of_decide_eq_true hb
          unfold owU
          rw [if_pos hb]
          exact ev_c
        · have hb := of_decide_eq_false hb
          unfold owU
          rw [if_neg hb]
          exact ev_c
      show tSeq _ _ _ [some (.ref l), some (.ref p1), some (.ref p2), some (.ref p3), some (.ref (A.at_ .inst)), some (.int (j : Int)), none, none, none, none, none, none, none, none, none, none] H'
      refine q_dropE ?_
      refine u_methA (ev_var rfl) (so.ha.ob .inst trivial) (hm_create A S.time) evo fun H5 e5 => ?_
      refine ⟨A, S, owU j, false, rfl, so.ha.ex e5, c1, c2, by omega, fun H6 A6 st6 => ?_⟩
      have so6 := (so.to e5).step st6
      have in6 : A6.at_ .inst = A.at_ .inst := st6.inst
      have nd6 : ((S.made (owU j) false).noted).nd = 2 * j + 1 := by
        show (S.made (owU j) false).nd + 1 = _
        have : (S.made (owU j) false).nd = S.nd := by
          unfold HS.made
          cases owU j <;> rfl
        omega
      rw [← in6]
      generalize (S.made (owU j) false).noted = S6 at st6 so6 c3 nd6
      have ht := c3.time
      have t0 := tn 0
      have tj := tn j
      have evm : EvA (tCons (tOp (rI0 fun i j => .int (i + j)) (tOp (rI0 fun i j => .int (i + j)) (tC (.int 1)) (tOp (rI CMulW fun i j => .int (i * j)) (tOp (rIxL K) (tVar 0) (tOp (rI0 fun i j => .int (i + j)) (tC (.int 6)) (tVar 5))) (tOp (rI CPow fun i j => .int (i ^ j.toNat)) (tC (.int 10)) (tC (.int 9)))))
          (tOp (rI (fun _ j => 0 < j) fun i j => .int (i % j)) (tOp (rIxL K) (tVar 0) (tOp (rI0 fun i j => .int (i + j)) (tC (.int 8)) (tVar 5))) (tC (.int 3)))) tNil) [some (.ref l), some (.ref p1), some (.ref p2), some (.ref p3), some (.ref (A6.at_ .inst)), some (.int (j : Int)), none, none, none, none, none, none, none, none, none, none] H6 [nV (turnN ds j)] :=
        ea_cons (ev_op (ev_op (ev_c (v := nV 1)) (ev_op (dk j (6 + j) (by omega) rfl so6.ex (ev_op (ev_c (v := nV 6)) (ev_var (v := nV j) rfl) rv_addN)) (ev_is (ev_op ev_c ev_c (rv_I ⟨by decide, by decide, by decide⟩)) h9) (rv_mulN 11 30 (Nat.lt_trans (dsl _) (by decide)) (by decide))) rv_addN) (ev_op (dk j (8 + j) (by omega) rfl so6.ex (ev_op (ev_c (v := nV 8)) (ev_var (v := nV j) rfl) rv_addN)) (ev_c (v := nV 3)) (rv_modN (by decide))) rv_addN) ea_nil
      refine u_drop ?_
      refine u_methA (ev_var rfl) (so6.ha.ob .inst trivial) (hm_collect A6 S6.time) evm fun H7 e7 => ?_
      have big : (2018000000000 : Nat) < 2 ^ 300 := Nat.lt_of_lt_of_le (show 2018000000000 < 2 ^ 41 by decide) (Nat.pow_le_pow_right (by decide) (by decide))
      refine ⟨A6, S6, turnN ds j, rfl, so6.ha.ex e7, c3.good, by unfold turnN; omega, Nat.le_trans tj (by decide), Nat.lt_of_le_of_lt (show S6.time + turnN ds j ≤ 2018000000000 by omega) big, by omega, fun H8 A8 S8 st8 tk => ?_⟩
      have so8 := (so6.to e7).step st8
      have nd8 : S8.noted.nd = 2 * (j + 1) := by
        obtain ⟨_, _, _, q⟩ := tk.same
        show S8.nd + 1 = _
        omega
      exact ⟨_, A8, S8.noted, rfl, by rw [st8.inst, in6], so8, c3.ticks tk, nd8⟩
    clear s0 hp0
    obtain ⟨x5, A, S, rfl, rfl, so, st, hnd⟩ := q
    have tw : Two S ps (turnN ds 0) (turnN ds 0 + turnN ds 1) := StU.two st
    have hnd : S.nd = 4 := hnd
    have hbt : turnN ds 0 ≤ turnN ds 0 + turnN ds 1 := Nat.le_add_right _ _
    have hT : turnN ds 0 + turnN ds 1 < 2 ^ 42 := by
      have h0 := tn 0
      have h1 := tn 1
      exact Nat.lt_of_le_of_lt (show turnN ds 0 + turnN ds 1 ≤ 2018000000000 by omega) (by decide)
    generalize turnN ds 0 = b1 at tw hbt hT
    generalize b1 + turnN ds 1 = tT at tw hbt hT
    clear st tn dk
    have stime := tw.time
    show tSeq _ _ _ [some (.ref l), some (.ref p1), some (.ref p2), some (.ref p3), some (.ref (A.at_ .inst)), x5, none, none, none, none, none, none, none, none, none, none] H'
    refine q_asg (v := nV tT) (ev_is (ev_now T so.ha (ev_var rfl)) (by rw [stime])) fun H5 e5 => ?_
    have so5 := so.to e5
    have hn : S.n = 2 := tw.n
    refine q_asgL (el_lcR1 (n := ((2 : Nat) : Int)) (fun _ => true) (fun j => nV (S.birth j)) (ea_cons ev_c ea_nil) (by decide) (fun _ => rfl) (fun j H6 e6 hj => EvT.yes (fun H Q q => q) H6) (fun j H6 e6 hj _ => ?_)) fun p7 H6 np6 e6 hp7 => ?_
    · exact ev_meth (ev_var rfl) (e6 _ _ (so5.ha.ob .inst trivial)) (hm_birth A S.time) (ea_cons (ev_var rfl) ea_nil) fun H7 e7 Q q E => ⟨A, S, j, rfl, so5.ha.ex (e6.trans e7), by omega, q⟩
    have hp7 : H6 p7 = some (.lst [nV (S.birth 0), nV (S.birth 1)]) := hp7
    rw [tw.b0, tw.b1] at hp7
    have so6 := so5.to e6
    have hp3' := so6.ex _ _ hp3
    refine q_asgL (el_cat (el_lst (ea_cons (ev_var rfl) ea_nil) (by show 1 ≤ 100000; decide)) (el_lcL (fun _ => true) (fun j => nV (nxt ps tT j)) (ev_var rfl) (sq_of hp3') (by rw [nVs_len]; omega) (fun _ => rfl) (fun j x H7 e7 hx => EvT.yes (fun H Q q => q) H7) (fun j x H7 e7 hx _ => ?_)) (by rw [nVs_len, given_all, vl_len]; show 1 + ps.length ≤ 100000; omega)) fun p8 H7 np7 e7 hp8 => ?_
    · have hj : j < ps.length := by
        have := (List.getElem?_eq_some_iff.mp hx).1
        rw [nVs_len] at this
        exact this
      have hv : (nVs ps)[j]? = some (nV (plc ps j)) := psV_at hj
      rw [hv] at hx
      cases hx
      have pb := plc_lt pp.big j
      have q1 : tT / plc ps j + 1 < 2 ^ 43 := by
        have := Nat.div_le_self tT (plc ps j)
        have : (2 : Nat) ^ 43 = 2 ^ 42 + 2 ^ 42 := by decide
        omega
      exact ev_op (ev_op (ev_op (ev_var rfl) (ev_var rfl) (rv_divN 300 (plcP pp j) pb)) (ev_c (v := nV 1)) rv_addN) (ev_var rfl) (rv_mulN 43 300 q1 pb)
    have hp8 : H7 p8 = some (.lst (nVs (tT :: (List.range ps.length).map (nxt ps tT)))) := by
      rw [hp8, nVs_len, given_all]
      unfold vl nVs
      rw [List.map_cons, List.map_map]
      rfl
    have so7 := so6.to e7
    refine q_asgL (xs := []) (el_lst ea_nil (Nat.zero_le _)) fun p9 H8 np8 e8 hp9 => ?_
    have so8 := so7.to e8
    generalize htl : tT :: (List.range ps.length).map (nxt ps tT) = tl at hp8
    have tll : tl.length ≤ 6 := by
      rw [← htl, List.length_cons, List.length_map, List.length_range]
      omega
    have hmts : mts ps b1 tT = tl.filter fun x => decide (dig ps 0 x ≤ dig ps b1 x) := by
      rw [← htl]
      rfl
    have n9A : H7 p9 = none := np8
    have k7 := e8 _ _ (e7 _ _ hp7)
    have k3 := so8.ex _ _ hp3
    have k8 := e8 _ _ hp8
    refine q_forLn (ev_var rfl) (sq_of k8) (fun j σ H' => ∃ x10 x12, σ = [some (.ref l), some (.ref p1), some (.ref p2), some (.ref p3), some (.ref (A.at_ .inst)), x5, some (nV tT), some (.ref p7), some (.ref p8), some (.ref p9), x10, none, x12, none, none, none] ∧ Ex H7 H' ∧ H' p9 = some (.lst (nVs ((tl.take j).filter fun x => decide (dig ps 0 x ≤ dig ps b1 x)))))
      (fun H9 e9 => ⟨none, none, rfl, e8.trans e9, e9 _ _ hp9⟩) (fun j σ' H' _ q => let ⟨_, _, _, e, _⟩ := q; sq_of (e _ _ hp8)) (fun j y σ' H' hy q => ?_) (fun σ' H' q => ?_)
    · obtain ⟨y10, y12, rfl, e9, h9'⟩ := q
      have hy2 := hy
      obtain ⟨hm, rfl⟩ := nVs_at hy
      have hj : j < tl.length := by
        have := (List.getElem?_eq_some_iff.mp hy2).1
        rw [nVs_len] at this
        exact this
      have htk := take_snoc (getD_at hj)
      generalize tl.getD j 0 = ti at hm htk
      show tSeq _ _ _ [some (.ref l), some (.ref p1), some (.ref p2), some (.ref p3), some (.ref (A.at_ .inst)), x5, some (nV tT), some (.ref p7), some (.ref p8), some (.ref p9), some (nV ti), none, y12, none, none, none] H'
      have b7 : H' p7 = some (.lst (nVs [0, b1])) := e9 _ _ (e7 _ _ hp7)
      have b3 : H' p3 = some (.lst (nVs ps)) := e9 _ _ (so7.ex _ _ hp3)
      refine q_asgL (el_lcL (fun _ => true) (fun i => nV (dig ps (([0, b1] : List Nat).getD i 0) ti)) (ev_var rfl) (sq_of b7) (by show 2 ≤ 40000; decide) (fun _ => rfl) (fun i x H9 e9 hx => EvT.yes (fun H Q q => q) H9) (fun i x H9 e9 hx _ => ?_)) fun p12 H9 np9 ee9 hp12 => ?_
      · obtain ⟨hi, rfl⟩ := nVs_at hx
        exact ev_Lgen (e9 _ _ b3) pp (ea_cons (ev_var rfl) (ea_cons (ev_var rfl) (ea_cons (ev_var rfl) ea_nil)))
      have hp12 : H9 p12 = some (.lst [nV (dig ps 0 ti), nV (dig ps b1 ti)]) := hp12
      have c9 := ee9 _ _ h9'
      refine s_when (b := decide (dig ps 0 ti ≤ dig ps b1 ti)) (et_test (ev_op (ev_op (ev_var rfl) ev_c (rv_ixL (sq_of hp12) (atI_nat (j := 0) rfl))) (ev_op (ev_var rfl) ev_c (rv_ixL (sq_of hp12) (atI_nat (j := 1) rfl))) rv_leN)) (fun hb H10 e10 => ?_) (fun hb H10 e10 => ?_)
      · refine s_app (e10 _ _ c9) (ev_var rfl) (ev_var rfl) (by rw [nVs_len]; have := List.length_filter_le (fun x => decide (dig ps 0 x ≤ dig ps b1 x)) (tl.take j); have := List.length_take_le j tl; omega) fun H11 e11 => ⟨_, _, rfl, Ex.mut (((e9.trans ee9).trans e10).trans e11) n9A, ?_⟩
        rw [upd_same, htk, List.filter_append, List.filter_cons, if_pos hb, List.filter_nil, nVs_app]
      · refine ⟨some (nV ti), some (.ref p12), rfl, (e9.trans ee9).trans e10, ?_⟩
        rw [htk, List.filter_append, List.filter_cons, if_neg (by rw [hb]; decide), List.filter_nil, List.append_nil]
        exact e10 _ _ c9
    obtain ⟨x10, x12', rfl, e9, h9'⟩ := q
    rw [nVs_len, List.take_length, ← hmts] at h9'
    have so9 := so7.to e9
    have fit : S.Fit := ⟨tw.good, by rw [tw.ps]; exact ch⟩
    have mem := mts_ne pp (b := b1) (t := tT) hbt
    obtain ⟨mn, hmn, hle⟩ := exists_min (l := mts ps b1 tT) (List.ne_nil_of_mem mem)
    have hme : S.meets 0 1 ++ S.ends 0 1 = mts ps b1 tT := by rw [tw.meets, tw.ends, List.append_nil]
    refine q_when (b := false) (et_is (et_test (ev_op (ev_until so9.ha fit (a := 0) (b := 1) (m := mn) (by omega) (by omega) ((tw.t0 1).mpr rfl) (by rw [hme]; exact hmn) (by rw [hme]; exact hle) (ea_cons (ev_var rfl) (ea_cons ev_c (ea_cons ev_c ea_nil)))) (ev_minN (ev_var rfl) h9' hmn hle) rv_neN)) (decide_eq_false fun z => z rfl)) (fun z => nomatch z) fun _ H10 e10 => ?_
    have so10 := so9.to e10
    have evd : EvA (tCons (tC (.int 0)) tNil) [some (.ref l), some (.ref p1), some (.ref p2), some (.ref p3), some (.ref (A.at_ .inst)), x5, some (nV tT), some (.ref p7), some (.ref p8), some (.ref p9), x10, none, x12', none, none, none] H10 [nV 0] := ea_cons ev_c ea_nil
    refine q_dropE ?_
    refine u_methA (ev_var rfl) (so10.ha.ob .inst trivial) (hm_drop A S.time) evd fun H11 e11 => ?_
    have so11 := so10.to e11
    refine ⟨A, S, 0, rfl, so11.ha, ⟨by omega, tw.death 0 (by decide)⟩, (tw.roots 0).mpr rfl, by omega, fun H12 A12 d r st12 sett => ?_⟩
    obtain ⟨g5, m5, n5⟩ := tw.dead pp hbt sett
    have so12 := so11.step st12
    have keep : ∀ p o, ¬ Own A S.n p → H11 p = some o → H12 p = some o := fun p o h e => st12.chg p o e h
    have n3 : ¬ Own A S.n p3 := fun o => by
      rw [so.fa p3 o] at hp3
      cases hp3
    have n7 : ¬ Own A S.n p7 := so5.ha.notOwn np6
    have n9 : ¬ Own A S.n p9 := so7.ha.notOwn np8
    have c3 : H12 p3 = some (.lst (nVs ps)) := keep _ _ n3 (so11.ex _ _ hp3)
    have c7 : H12 p7 = some (.lst [nV 0, nV b1]) := keep _ _ n7 (e11 _ _ (e10 _ _ (e9 _ _ (e7 _ _ hp7))))
    have c9 : H12 p9 = some (.lst (nVs (mts ps b1 tT))) := keep _ _ n9 (e11 _ _ (e10 _ _ h9'))
    have in12 := st12.inst
    rw [← in12]
    have x12 : Ex H H12 := x3.trans so12.ex
    have h12 := so12.ha
    have n2 : HS.n { S.dropped 0 with death := d, rank := r } = 2 := hn
    have t5 : 1 ∈ HS.tg { S.dropped 0 with death := d, rank := r } 0 := (tw.t0 1).mpr rfl
    have ch5 : Ch (HS.ps { S.dropped 0 with death := d, rank := r }) := by
      show Ch S.ps
      rw [tw.ps]
      exact ch
    generalize ({ S.dropped 0 with death := d, rank := r } : HS) = S5 at h12 g5 m5 n5 n2 t5 ch5
    clear so12 st12 sett so11 so10 so9 so8 so7 so6 so5 so
    have fit5 : S5.Fit := ⟨g5, ch5⟩
    have hgl : dig ps 0 tT < ps.length := by
      have h1 := dig_le (ps := ps) 0 tT
      have h2 := pp.len
      unfold lastOf at h1
      omega
    show tSeq _ _ _ [some (.ref l), some (.ref p1), some (.ref p2), some (.ref p3), some (.ref (A12.at_ .inst)), x5, some (nV tT), some (.ref p7), some (.ref p8), some (.ref p9), x10, none, x12', none, none, none] H12
    refine q_asg (v := nV (plc ps (dig ps 0 tT))) (ev_op (ev_var rfl) (ev_Lgen c3 pp (ea_cons (ev_var rfl) (ea_cons (ev_op (ev_var rfl) ev_c (rv_ixL (sq_of c7) (atI_nat (j := 0) rfl))) (ea_cons (ev_var rfl) ea_nil)))) (rv_ixL (sq_of c3) (atI_nat (psV_at hgl)))) fun H13 e13 => ?_
    obtain ⟨x, hx⟩ : ∃ x, x = nxt ps tT (dig ps 0 tT) := ⟨_, rfl⟩
    obtain ⟨mi, hmi, hmle⟩ := exists_min (l := mts ps b1 tT ++ [x]) (by simp)
    have hme5 : S5.meets 0 1 ++ S5.ends 0 1 = mts ps b1 tT ++ [x, x] := by rw [m5, n5, hx]
    have mm : ∀ y, y ∈ mts ps b1 tT ++ [x, x] ↔ y ∈ mts ps b1 tT ++ [x] := fun y => by
      rw [List.mem_append, List.mem_append, List.mem_cons, List.mem_singleton, or_self]
    have pb := plc_lt pp.big (dig ps 0 tT)
    have pz := plcP pp (dig ps 0 tT)
    have q1 : tT / plc ps (dig ps 0 tT) + 1 < 2 ^ 43 := by
      have := Nat.div_le_self tT (plc ps (dig ps 0 tT))
      have : (2 : Nat) ^ 43 = 2 ^ 42 + 2 ^ 42 := by decide
      omega
    have ml : (mts ps b1 tT).length ≤ 6 := by
      rw [hmts]
      exact Nat.le_trans (List.length_filter_le _ _) tll
    refine s_ret (v := .bl true) (ev_is (ev_op (x := nV mi) (y := nV mi) (ev_until (h12.ex e13) fit5 (a := 0) (b := 1) (m := mi) (by omega) (by omega) t5 (by rw [hme5, mm]; exact hmi) (fun y hy => by rw [hme5, mm] at hy; exact hmle y hy) (ea_cons (ev_var rfl) (ea_cons ev_c (ea_cons ev_c ea_nil))))
      (ev_minL (l := mts ps b1 tT ++ [x]) (by
        rw [nVs_app]
        exact el_cat4 (ev_var rfl) (e13 _ _ c9) (el_lst (ea_cons (ev_is (ev_op (ev_op (ev_op (ev_var rfl) (ev_var rfl) (rv_divN 300 pz pb)) (ev_c (v := nV 1)) rv_addN) (ev_var rfl) (rv_mulN 43 300 q1 pb)) (by rw [hx]; rfl)) ea_nil) (by show 1 ≤ 100000; decide)) (by rw [nVs_len]; show _ + 1 ≤ 100000; omega)) hmi hmle) rv_eqN) (by rw [decide_eq_true rfl])) fun H14 e14 => k H14 ((x12.trans e13).trans e14)
end
end HD
set_option Elab.async false
set_option linter.all false
set_option maxRecDepth 100000
set_option maxHeartbeats 4000000
/-! The law. -/
namespace HD
open PySem PySem.Spec PyProof.Rows L2 Evl
theorem u_call {sp : Sp} {dvs : List V} {E : XK} {ta : TA} {σ : L2.St} {H : Hp} {Q : VK} (h : ta σ H fun vs H1 => sp (vs ++ dvs) H1 Q E) : tCall sp dvs E ta σ H Q := h
theorem u_cons {ta : TE} {tr : TA} {σ : L2.St} {H : Hp} {Q : List V → Hp → Prop} (h : ta σ H fun x H1 => tr σ H1 fun vs H2 => Q (x :: vs) H2) : tCons ta tr σ H Q := h
section
variable {P : Program} {w : World} {K : PySem.W.Frag} {mg : Str → Option Value} {base : Heap}
theorem sc_law : FnScope ["_law_script", "_law_k", "_law_digits_here"] ["_law_script"] (defScope s_law) := ⟨rfl, rfl, rfl, by decide +kernel, rfl, by decide +kernel, by decide +kernel⟩
def sp_law (K : PySem.W.Frag) : Sp := fun vs H Q _ => ∃ (l : Addr) (ns : List Int), vs = [.ref l] ∧ SqL K H l (ns.map V.int) ∧ RetV (.bl true) H Q
theorem fn_mk {x : Str} {st : Stmt} {f : Addr} {fd : FuncData} {N ps : List Str} {k : Nat} {sp : Sp} (F : FunD K x x (defArgs st) (defBody st) (defScope st) [] [] f fd) (S : FnScope N ps (defScope st)) (len : ∀ vs H Q E, sp vs H Q E → vs.length = ps.length)
    (hbody : ∀ (cdv : Value) (A : Around) (outer : List Env) (s : Shared) (H : Hp) (vs : List V) (Q : VK) (E : XK), Room k (A.deeper (envOfC x (defScope st) s.heap.objs.size f cdv)) → sp vs H Q E →
      ∃ t, PSs (cxOf CX0 P w K mg base N x (defScope st) f cdv A outer s H E).nox (defBody st) t ∧ t { nx := fun _ H' => Q .non H', rt := Q } (start N vs) H) : FnOk P w K mg base CX0 (k + 1) f fd ps sp :=
  F.ok S len fun cdv A outer s H vs Q E hr h => let ⟨t, h1, h2⟩ := hbody cdv A outer s H vs Q E hr h; ⟨t, h1.nox, h2⟩
theorem ok_law {f : Addr} {fd : FuncData} (T : TX K mg) (F : FunD K "law" "law" (defArgs s_law) (defBody s_law) (defScope s_law) [] [] f fd) : FnOk P w K mg base CX0 10 f fd ["_law_script"] (sp_law K) := by
  have SC := sc_law
  refine fn_mk F sc_law (fun vs H Q E h => ?_) (fun cdv A outer s H vs Q E hr h => ?_)
  · obtain ⟨l, ns, rfl, _⟩ := h
    rfl
  · obtain ⟨l, ns, rfl, hl, k⟩ := h
    refine ⟨_, (pss_cons (ps_for PassesOwn.never rfl (pi_range1 rfl (b_range T) (pa_cons (pe_callB (call_max2 rfl) rfl (b_max T) (by decide +kernel) (pa_cons pe_int (pa_cons (pe_callB (call_min2 rfl) rfl (b_min T) (by decide +kernel) (pa_cons pe_int (pa_cons (klen (K := K) rfl (b_len T) (pa_cons (pv 0) pa_nil)) pa_nil))) pa_nil))) pa_nil)) (pg_name (i := 1) SC.nd rfl (Or.inl rfl))
      (pss_cons (ps_set (i := 2) SC.nd rfl (Or.inl rfl) (pg_call (ok_Ldigits T) hr (by decide) rfl (pa_cons (pg_call (ok_Lcell T) hr (by decide) rfl (pa_cons (pv 0) (pa_cons (pv 1) pa_nil))) (pa_cons pe_int pa_nil))))
    (pss_one (ps_if (PW.pt (pw_or (pt_not (pt_val (pg_call (ok_Lright T) hr (by decide) rfl (pa_cons (pv 2) pa_nil)))) (pw_or1 (pt_not (pt_val (pg_call (ok_Luntil_right T) hr (by decide) rfl (pa_cons (pe_slice sl_list (pv 2) (po_some pe_int) po_none) pa_nil)))))))
      (pss_one (ps_ret pe_bl))
      pss_nil))))
    (pss_one (ps_ret pe_bl))), ?_⟩
    have len : Ev (tCB (rLenS K) (tCons (tVar 0) tNil)) [some (.ref l), none, none] H (nV ns.length) := ev_is (ev_len (ev_var rfl) hl) (by rw [List.length_map])
    refine u_seq (s_forR1 (ea_cons (ev_max2N (i := 1) (j := min 2 ns.length) (ea_cons ev_c (ea_cons (ev_min2N (i := 2) (ea_cons ev_c (ea_cons len ea_nil))) ea_nil))) ea_nil) (by omega) (fun j σ H' => ∃ x y, σ = [some (.ref l), x, y] ∧ Ex H H') (fun H1 e1 => ⟨none, none, rfl, e1⟩) (fun j σ' H' hj q => ?_) (fun σ' H' q => ?_))
    · obtain ⟨x, y, rfl, e⟩ := q
      show tSeq _ _ _ [some (.ref l), some (.int (j : Int)), y] H'
      refine q_asgE ?_
      have evc : EvA (tCons (tVar 0) (tCons (tVar 1) tNil)) [some (.ref l), some (.int (j : Int)), y] H' [.ref l, nV j] := ea_cons (ev_var rfl) (ea_cons (ev_var rfl) ea_nil)
      refine u_call (u_cons (u_call ?_))
      refine evc H' (Ex.refl _) _ fun H1 e1 => ?_
      refine ⟨l, ns, j, rfl, ex_l (e.trans e1) hl, fun z H2 e2 => ?_⟩
      refine ⟨z, 150, rfl, by decide, fun ds p H3 hd1 hd2 np e3 hp => ?_⟩
      have x3 : Ex H H3 := (e.trans e1).trans (e2.trans e3)
      show tIfS _ _ _ _ [some (.ref l), some (.int (j : Int)), some (.ref p)] H3
      have sl := el_sl (K := K) (σ := [some (.ref l), some (.int (j : Int)), some (.ref p)]) (ev_var (i := 2) rfl) (eo_some (ev_c (v := nV 136))) eo_none (sq_of hp)
      rw [cutV_natN] at sl
      have l14 : (ds.drop (min 136 ds.length)).length = 14 := by
        rw [List.length_drop, hd1]
        rfl
      have d14 : ∀ d ∈ ds.drop (min 136 ds.length), d < 1009 := fun d hd => hd2 d (List.mem_of_mem_drop hd)
      refine s_when (b := false) (et_is (et_or (a := false) (b := false) (et_is (et_not (a := true) (et_B (ev_call (ea_cons (ev_var rfl) ea_nil) fun H4 e4 Q q E => ⟨p, ds, rfl, e4 _ _ hp, hd1, hd2, q⟩))) rfl)
        fun _ => et_is (et_not (a := true) (et_B (ev_callL sl fun r H4 hr4 H5 e5 Q q E => ⟨r, _, rfl, e5 _ _ hr4, l14, d14, q⟩))) rfl) rfl) (fun z => nomatch z) fun _ H4 e4 => ⟨_, _, rfl, x3.trans e4⟩
    · obtain ⟨x, y, rfl, e⟩ := q
      show tRet (tC (.bl true)) { nx := fun _ H' => Q .non H', rt := Q } [some (.ref l), x, y] H'
      exact s_ret ev_c fun H4 e4 => k H4 (e.trans e4)
end
end HD
set_option Elab.async false
set_option linter.all false
set_option maxRecDepth 100000
set_option maxHeartbeats 0
namespace HD
open PySem PySem.Spec PyProof.Rows L2
theorem facts {P : Program} {w : World} {K : PySem.W.Frag} {h : Heap} {mg : Str → Option Value} {f : Addr} (X : K.In h) (G : h.Ns mainGlobals mg) (hfa : mg ("law" : Str) = some (.ref f)) (c : He.SaysD fa fn K) :
    ∃ fd : FuncData, (∀ (s : Shared) (v : Value), BindsTo s fd ⟨[v], []⟩ [("_law_script", v)]) ∧ ∀ base : Heap, K.In base → base.Ns mainGlobals mg → FnOk P w K mg base CX0 10 f fd ["_law_script"] (sp_law K) := by
  have T : TX K mg := TX.mk' X G c
  obtain ⟨fd, F⟩ := F_law T
  have e := hfa.symm.trans (g_law T)
  cases e
  have b := FunD.bindsA (ps := ["_law_script"]) F fun _ _ _ _ _ _ us hl => match us, hl with | [_], _ => rfl
  exact ⟨fd, fun s v => b s [v] rfl, fun base _ _ => ok_law T F⟩
end HD
open PySem PySem.W PySem.Calls PyProof.Rows
theorem PySem.Challenge.cw_heapdigits_k80_whole_work_far_away_holds : PySem.Challenge.rw_heapdigits_k80_whole_work_far_away.Holds := by
  w_on; o_law
  refine HandSHeadRun.head_any (r := OpenLaw.row PySem.Challenge.rw_heapdigits_k80_whole_work_far_away) (q := view (OpenLaw.row PySem.Challenge.rw_heapdigits_k80_whole_work_far_away).prog [56]) (H := HDR.hk) (ob := HDR.ob) (M := 20000) (loose := HDR.ls) (d := HandSHeadRun.topDef (OpenLaw.row PySem.Challenge.rw_heapdigits_k80_whole_work_far_away).prog 56) (kwd := []) HDR.ob_eq
    (by kernel_rfl) (fun s => by kernel_rfl) HDR.run (by kernel_rfl) (by kernel_rfl) (by kernel_rfl) (by rfl) (by first | assumption | decide +kernel) (by decide +kernel) ⟨rfl, rfl, rfl, rfl, rfl, by decide +kernel⟩ ?hw ?hc
  case hw => w_witness2
  case hc =>
    refine L2.walk_ofE (l := PySem.Challenge.rw_heapdigits_k80_whole_work_far_away) (n := 63) (k := 10) (x := "_law_script") (CX := L2.CX0) rfl (by decide) (by kernel_rfl) ⟨rfl, by decide, by decide⟩ ?F (fun _ _ _ _ z => z)
    intro w mg fa h Y G hmg0
    obtain ⟨K, KX, c⟩ := Y
    have hmg : mg ("law" : PySem.Str) = some (.ref fa) := by
      have e : (HandSHeadRun.topDef (OpenLaw.row PySem.Challenge.rw_heapdigits_k80_whole_work_far_away).prog 56).name = ("law" : PySem.Str) := by kernel_rfl
      rw [← e]
      exact hmg0
    obtain ⟨fd, hb, hF⟩ := HD.facts (P := (PySem.Challenge.rw_heapdigits_k80_whole_work_far_away).prog) (w := w) KX G hmg c
    exact ⟨K, fd, HD.sp_law K, KX, hb, fun H a ns hl _ hS => ⟨a, ns, rfl, hS, fun _ _ => rfl⟩, hF⟩
