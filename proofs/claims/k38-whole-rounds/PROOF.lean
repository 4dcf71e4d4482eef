import PyProof.Rows.All
import Wide.All
import OpenK.AllK
import Wide.FinOn
import KE.KStateDown
import HandS.ForMost
import HandS.Defaults
import HandS.Head0
import HandS.Head1
import HandS.Head2
import HandS.HeadEnd
import HandS.HeadHook1
import HandS.HeadHook2
import PySem.Challenge.RW_lumpplans_k38_whole_rounds_told_otherwis
import HandS.Evl
import HandS.Walk
import HandS.Star
import HandS.Style
import HandS.TupAny
import HandS.IsInst
import HandS.Deep
import KE.GoesEnum
import KE.DataEq
import HandS.SetKeys
import PyProof.AutoSeq1
import PyProof.InstNe
import HandS.OwnEq
import OpenK.KWalk
import Lean
import HandS.Ends
section
set_option Elab.async false
set_option linter.all false
set_option maxRecDepth 100000
set_option maxHeartbeats 0
namespace Lh
open PySem PySem.Spec PyProof.Rows L2
abbrev Rw := PySem.Challenge.rw_lumpplans_k38_whole_rounds_told_otherwis
def topS (i : Nat) : Stmt := PySem.Challenge.pw_lumpplans_k38_whole_rounds_told_otherwis.main.body.getD i (.Pass ⟨0, 0, 0, 0⟩)
abbrev s_is_integer : Stmt := topS 6
def d_is_integer : He.DefD := ⟨("is_integer", none), "is_integer", "is_integer", defArgs s_is_integer, defBody s_is_integer, defScope s_is_integer, [], []⟩
abbrev s_is_number : Stmt := topS 7
def d_is_number : He.DefD := ⟨("is_number", none), "is_number", "is_number", defArgs s_is_number, defBody s_is_number, defScope s_is_number, [], []⟩
abbrev s_wrong_shape : Stmt := topS 9
def d_wrong_shape : He.DefD := ⟨("wrong_shape", none), "wrong_shape", "wrong_shape", defArgs s_wrong_shape, defBody s_wrong_shape, defScope s_wrong_shape, [], []⟩
abbrev s_size_of : Stmt := topS 10
def d_size_of : He.DefD := ⟨("size_of", none), "size_of", "size_of", defArgs s_size_of, defBody s_size_of, defScope s_size_of, [], []⟩
abbrev s_wrong_sizes : Stmt := topS 13
def d_wrong_sizes : He.DefD := ⟨("wrong_sizes", none), "wrong_sizes", "wrong_sizes", defArgs s_wrong_sizes, defBody s_wrong_sizes, defScope s_wrong_sizes, [], []⟩
abbrev s_wrong_table : Stmt := topS 14
def d_wrong_table : He.DefD := ⟨("wrong_table", none), "wrong_table", "wrong_table", defArgs s_wrong_table, defBody s_wrong_table, defScope s_wrong_table, [], []⟩
abbrev s_table_size : Stmt := topS 15
def d_table_size : He.DefD := ⟨("table_size", none), "table_size", "table_size", defArgs s_table_size, defBody s_table_size, defScope s_table_size, [], []⟩
abbrev s_entry : Stmt := topS 16
def d_entry : He.DefD := ⟨("entry", none), "entry", "entry", defArgs s_entry, defBody s_entry, defScope s_entry, [], []⟩
abbrev s_wrong_member : Stmt := topS 19
def d_wrong_member : He.DefD := ⟨("wrong_member", none), "wrong_member", "wrong_member", defArgs s_wrong_member, defBody s_wrong_member, defScope s_wrong_member, [], []⟩
abbrev s_wrong_plan : Stmt := topS 20
def d_wrong_plan : He.DefD := ⟨("wrong_plan", none), "wrong_plan", "wrong_plan", defArgs s_wrong_plan, defBody s_wrong_plan, defScope s_wrong_plan, [], []⟩
abbrev s_Plan_init : Stmt := inClass (topS 21) 0
def d_Plan_init : He.DefD := ⟨("Plan", some "__init__"), "__init__", "Plan.__init__", defArgs s_Plan_init, defBody s_Plan_init, defScope s_Plan_init, [], []⟩
abbrev s_Plan_eq : Stmt := inClass (topS 21) 1
def d_Plan_eq : He.DefD := ⟨("Plan", some "__eq__"), "__eq__", "Plan.__eq__", defArgs s_Plan_eq, defBody s_Plan_eq, defScope s_Plan_eq, [], []⟩
abbrev s_Plan_tables : Stmt := inClass (topS 21) 2
def d_Plan_tables : He.DefD := ⟨("Plan", some "tables"), "tables", "Plan.tables", defArgs s_Plan_tables, defBody s_Plan_tables, defScope s_Plan_tables, [], []⟩
abbrev s_Plan_end : Stmt := inClass (topS 21) 3
def d_Plan_end : He.DefD := ⟨("Plan", some "end"), "end", "Plan.end", defArgs s_Plan_end, defBody s_Plan_end, defScope s_Plan_end, [], []⟩
abbrev s_Plan_stage : Stmt := inClass (topS 21) 4
def d_Plan_stage : He.DefD := ⟨("Plan", some "stage"), "stage", "Plan.stage", defArgs s_Plan_stage, defBody s_Plan_stage, defScope s_Plan_stage, [], []⟩
abbrev s_stretches : Stmt := topS 23
def d_stretches : He.DefD := ⟨("stretches", none), "stretches", "stretches", defArgs s_stretches, defBody s_stretches, defScope s_stretches, [], []⟩
abbrev s_put_parts : Stmt := topS 24
def d_put_parts : He.DefD := ⟨("put_parts", none), "put_parts", "put_parts", defArgs s_put_parts, defBody s_put_parts, defScope s_put_parts, [], []⟩
abbrev s_parts_of : Stmt := topS 25
def d_parts_of : He.DefD := ⟨("parts_of", none), "parts_of", "parts_of", defArgs s_parts_of, defBody s_parts_of, defScope s_parts_of, [], []⟩
abbrev s_wrong_stretch : Stmt := topS 27
def d_wrong_stretch : He.DefD := ⟨("wrong_stretch", none), "wrong_stretch", "wrong_stretch", defArgs s_wrong_stretch, defBody s_wrong_stretch, defScope s_wrong_stretch, [], []⟩
abbrev s_above : Stmt := topS 28
def d_above : He.DefD := ⟨("above", none), "above", "above", defArgs s_above, defBody s_above, defScope s_above, [], []⟩
abbrev s_shape_above : Stmt := topS 29
def d_shape_above : He.DefD := ⟨("shape_above", none), "shape_above", "shape_above", defArgs s_shape_above, defBody s_shape_above, defScope s_shape_above, [], []⟩
abbrev s_counter : Stmt := topS 30
def d_counter : He.DefD := ⟨("counter", none), "counter", "counter", defArgs s_counter, defBody s_counter, defScope s_counter, [], []⟩
abbrev s_is_cut : Stmt := topS 31
def d_is_cut : He.DefD := ⟨("is_cut", none), "is_cut", "is_cut", defArgs s_is_cut, defBody s_is_cut, defScope s_is_cut, [], []⟩
abbrev s_cuts : Stmt := topS 32
def d_cuts : He.DefD := ⟨("cuts", none), "cuts", "cuts", defArgs s_cuts, defBody s_cuts, defScope s_cuts, [], []⟩
abbrev s_behind : Stmt := topS 33
def d_behind : He.DefD := ⟨("behind", none), "behind", "behind", defArgs s_behind, defBody s_behind, defScope s_behind, [], []⟩
abbrev s_is_prime_table : Stmt := topS 35
def d_is_prime_table : He.DefD := ⟨("is_prime_table", none), "is_prime_table", "is_prime_table", defArgs s_is_prime_table, defBody s_is_prime_table, defScope s_is_prime_table, [], []⟩
abbrev s_primes : Stmt := topS 36
def d_primes : He.DefD := ⟨("primes", none), "primes", "primes", defArgs s_primes, defBody s_primes, defScope s_primes, [], []⟩
abbrev s_shortest_round : Stmt := topS 38
def d_shortest_round : He.DefD := ⟨("shortest_round", none), "shortest_round", "shortest_round", defArgs s_shortest_round, defBody s_shortest_round, defScope s_shortest_round, [], []⟩
abbrev s_plain : Stmt := topS 39
def d_plain : He.DefD := ⟨("plain", none), "plain", "plain", defArgs s_plain, defBody s_plain, defScope s_plain, [], []⟩
abbrev s_are_alike : Stmt := topS 40
def d_are_alike : He.DefD := ⟨("are_alike", none), "are_alike", "are_alike", defArgs s_are_alike, defBody s_are_alike, defScope s_are_alike, [], []⟩
abbrev s_filled : Stmt := topS 42
def d_filled : He.DefD := ⟨("filled", none), "filled", "filled", defArgs s_filled, defBody s_filled, defScope s_filled, [], []⟩
abbrev s_pressed : Stmt := topS 43
def d_pressed : He.DefD := ⟨("pressed", none), "pressed", "pressed", defArgs s_pressed, defBody s_pressed, defScope s_pressed, [], []⟩
abbrev s_shape : Stmt := topS 44
def d_shape : He.DefD := ⟨("shape", none), "shape", "shape", defArgs s_shape, defBody s_shape, defScope s_shape, [], []⟩
abbrev s_common_beginning : Stmt := topS 46
def d_common_beginning : He.DefD := ⟨("common_beginning", none), "common_beginning", "common_beginning", defArgs s_common_beginning, defBody s_common_beginning, defScope s_common_beginning, [], []⟩
abbrev s_left_behind : Stmt := topS 47
def d_left_behind : He.DefD := ⟨("left_behind", none), "left_behind", "left_behind", defArgs s_left_behind, defBody s_left_behind, defScope s_left_behind, [], []⟩
abbrev s_rests : Stmt := topS 48
def d_rests : He.DefD := ⟨("rests", none), "rests", "rests", defArgs s_rests, defBody s_rests, defScope s_rests, [], []⟩
abbrev s_least_unlike : Stmt := topS 49
def d_least_unlike : He.DefD := ⟨("least_unlike", none), "least_unlike", "least_unlike", defArgs s_least_unlike, defBody s_least_unlike, defScope s_least_unlike, [], []⟩
abbrev s_least_parting : Stmt := topS 50
def d_least_parting : He.DefD := ⟨("least_parting", none), "least_parting", "least_parting", defArgs s_least_parting, defBody s_least_parting, defScope s_least_parting, [], []⟩
abbrev s_parting : Stmt := topS 52
def d_parting : He.DefD := ⟨("parting", none), "parting", "parting", defArgs s_parting, defBody s_parting, defScope s_parting, [], []⟩
abbrev s_law_source : Stmt := topS 54
def d_law_source : He.DefD := ⟨("_law_source", none), "_law_source", "_law_source", defArgs s_law_source, defBody s_law_source, defScope s_law_source, [], []⟩
abbrev s_law_pick : Stmt := topS 55
def d_law_pick : He.DefD := ⟨("_law_pick", none), "_law_pick", "_law_pick", defArgs s_law_pick, defBody s_law_pick, defScope s_law_pick, [], []⟩
abbrev s_law_of : Stmt := topS 56
def d_law_of : He.DefD := ⟨("_law_of", none), "_law_of", "_law_of", defArgs s_law_of, defBody s_law_of, defScope s_law_of, [], []⟩
abbrev s_law_comb : Stmt := topS 57
def d_law_comb : He.DefD := ⟨("_law_comb", none), "_law_comb", "_law_comb", defArgs s_law_comb, defBody s_law_comb, defScope s_law_comb, [], []⟩
abbrev s_law_halves : Stmt := topS 58
def d_law_halves : He.DefD := ⟨("_law_halves", none), "_law_halves", "_law_halves", defArgs s_law_halves, defBody s_law_halves, defScope s_law_halves, [], []⟩
abbrev s_law_shape : Stmt := topS 59
def d_law_shape : He.DefD := ⟨("_law_shape", none), "_law_shape", "_law_shape", defArgs s_law_shape, defBody s_law_shape, defScope s_law_shape, [], []⟩
abbrev s_law_size : Stmt := topS 60
def d_law_size : He.DefD := ⟨("_law_size", none), "_law_size", "_law_size", defArgs s_law_size, defBody s_law_size, defScope s_law_size, [], []⟩
abbrev s_law_any_table : Stmt := topS 61
def d_law_any_table : He.DefD := ⟨("_law_any_table", none), "_law_any_table", "_law_any_table", defArgs s_law_any_table, defBody s_law_any_table, defScope s_law_any_table, [], []⟩
abbrev s_law_entry : Stmt := topS 62
def d_law_entry : He.DefD := ⟨("_law_entry", none), "_law_entry", "_law_entry", defArgs s_law_entry, defBody s_law_entry, defScope s_law_entry, [], []⟩
abbrev s_law_filled : Stmt := topS 63
def d_law_filled : He.DefD := ⟨("_law_filled", none), "_law_filled", "_law_filled", defArgs s_law_filled, defBody s_law_filled, defScope s_law_filled, [], []⟩
abbrev s_law_pressed : Stmt := topS 64
def d_law_pressed : He.DefD := ⟨("_law_pressed", none), "_law_pressed", "_law_pressed", defArgs s_law_pressed, defBody s_law_pressed, defScope s_law_pressed, [], []⟩
abbrev s_law_glue : Stmt := topS 65
def d_law_glue : He.DefD := ⟨("_law_glue", none), "_law_glue", "_law_glue", defArgs s_law_glue, defBody s_law_glue, defScope s_law_glue, [], []⟩
abbrev s_law_table : Stmt := topS 66
def d_law_table : He.DefD := ⟨("_law_table", none), "_law_table", "_law_table", defArgs s_law_table, defBody s_law_table, defScope s_law_table, [], []⟩
abbrev s_law_made : Stmt := topS 67
def d_law_made : He.DefD := ⟨("_law_made", none), "_law_made", "_law_made", defArgs s_law_made, defBody s_law_made, defScope s_law_made, [], []⟩
abbrev s_law_stage : Stmt := topS 68
def d_law_stage : He.DefD := ⟨("_law_stage", none), "_law_stage", "_law_stage", defArgs s_law_stage, defBody s_law_stage, defScope s_law_stage, [], []⟩
abbrev s_law_told : Stmt := topS 69
def d_law_told : He.DefD := ⟨("_law_told", none), "_law_told", "_law_told", defArgs s_law_told, defBody s_law_told, defScope s_law_told, [], []⟩
abbrev s_law_part : Stmt := topS 70
def d_law_part : He.DefD := ⟨("_law_part", none), "_law_part", "_law_part", defArgs s_law_part, defBody s_law_part, defScope s_law_part, [], []⟩
abbrev s_law_above : Stmt := topS 71
def d_law_above : He.DefD := ⟨("_law_above", none), "_law_above", "_law_above", defArgs s_law_above, defBody s_law_above, defScope s_law_above, [], []⟩
abbrev s_law_is_cut : Stmt := topS 72
def d_law_is_cut : He.DefD := ⟨("_law_is_cut", none), "_law_is_cut", "_law_is_cut", defArgs s_law_is_cut, defBody s_law_is_cut, defScope s_law_is_cut, [], []⟩
abbrev s_law_behind : Stmt := topS 73
def d_law_behind : He.DefD := ⟨("_law_behind", none), "_law_behind", "_law_behind", defArgs s_law_behind, defBody s_law_behind, defScope s_law_behind, [], []⟩
abbrev s_law_primes : Stmt := topS 74
def d_law_primes : He.DefD := ⟨("_law_primes", none), "_law_primes", "_law_primes", defArgs s_law_primes, defBody s_law_primes, defScope s_law_primes, [], []⟩
abbrev s_law_prime_list : Stmt := topS 75
def d_law_prime_list : He.DefD := ⟨("_law_prime_list", none), "_law_prime_list", "_law_prime_list", defArgs s_law_prime_list, defBody s_law_prime_list, defScope s_law_prime_list, [], []⟩
abbrev s_law_plain : Stmt := topS 76
def d_law_plain : He.DefD := ⟨("_law_plain", none), "_law_plain", "_law_plain", defArgs s_law_plain, defBody s_law_plain, defScope s_law_plain, [], []⟩
abbrev s_law_behind_primes : Stmt := topS 77
def d_law_behind_primes : He.DefD := ⟨("_law_behind_primes", none), "_law_behind_primes", "_law_behind_primes", defArgs s_law_behind_primes, defBody s_law_behind_primes, defScope s_law_behind_primes, [], []⟩
abbrev s_law_common : Stmt := topS 78
def d_law_common : He.DefD := ⟨("_law_common", none), "_law_common", "_law_common", defArgs s_law_common, defBody s_law_common, defScope s_law_common, [], []⟩
abbrev s_law_rests : Stmt := topS 79
def d_law_rests : He.DefD := ⟨("_law_rests", none), "_law_rests", "_law_rests", defArgs s_law_rests, defBody s_law_rests, defScope s_law_rests, [], []⟩
abbrev s_law_unlike_at : Stmt := topS 80
def d_law_unlike_at : He.DefD := ⟨("_law_unlike_at", none), "_law_unlike_at", "_law_unlike_at", defArgs s_law_unlike_at, defBody s_law_unlike_at, defScope s_law_unlike_at, [], []⟩
abbrev s_law : Stmt := topS 81
def d_law : He.DefD := ⟨("law", none), "law", "law", defArgs s_law, defBody s_law, defScope s_law, [], []⟩
def fn : List He.DefD := [d_is_integer, d_is_number, d_wrong_shape, d_size_of, d_wrong_sizes, d_wrong_table, d_table_size, d_entry, d_wrong_member, d_wrong_plan, d_Plan_init, d_Plan_eq, d_Plan_tables, d_Plan_end, d_Plan_stage, d_stretches, d_put_parts, d_parts_of, d_wrong_stretch, d_above, d_shape_above, d_counter, d_is_cut, d_cuts, d_behind]
def fn2 : List He.DefD := [d_is_prime_table, d_primes, d_shortest_round, d_plain, d_are_alike, d_filled, d_pressed, d_shape, d_common_beginning, d_left_behind, d_rests, d_least_unlike, d_least_parting, d_parting, d_law_source, d_law_pick, d_law_of, d_law_comb, d_law_halves, d_law_shape, d_law_size, d_law_any_table, d_law_entry, d_law_filled, d_law_pressed]
def fn3 : List He.DefD := [d_law_glue, d_law_table, d_law_made, d_law_stage, d_law_told, d_law_part, d_law_above, d_law_is_cut, d_law_behind, d_law_primes, d_law_prime_list, d_law_plain, d_law_behind_primes, d_law_common, d_law_rests, d_law_unlike_at, d_law]
def fns : List He.DefD := fn ++ fn2 ++ fn3
def fa0 : List He.Fa := [.glo "is_integer", .glo "is_number", .glo "wrong_shape", .glo "size_of", .glo "wrong_sizes", .glo "wrong_table", .glo "table_size", .glo "entry", .glo "wrong_member", .glo "wrong_plan", .glo "stretches", .glo "put_parts", .glo "parts_of", .glo "wrong_stretch", .glo "above", .glo "shape_above", .glo "counter", .glo "is_cut", .glo "cuts", .glo "behind"]
def fa1 : List He.Fa := [.glo "is_prime_table", .glo "primes", .glo "shortest_round", .glo "plain", .glo "are_alike", .glo "filled", .glo "pressed", .glo "shape", .glo "common_beginning", .glo "left_behind", .glo "rests", .glo "least_unlike", .glo "least_parting", .glo "parting", .glo "_law_source", .glo "_law_pick", .glo "_law_of", .glo "_law_comb", .glo "_law_halves", .glo "_law_shape"]
def fa2 : List He.Fa := [.glo "_law_size", .glo "_law_any_table", .glo "_law_entry", .glo "_law_filled", .glo "_law_pressed", .glo "_law_glue", .glo "_law_table", .glo "_law_made", .glo "_law_stage", .glo "_law_told", .glo "_law_part", .glo "_law_above", .glo "_law_is_cut", .glo "_law_behind", .glo "_law_primes", .glo "_law_prime_list", .glo "_law_plain", .glo "_law_behind_primes", .glo "_law_common", .glo "_law_rests"]
def fa3 : List He.Fa := [.glo "_law_unlike_at", .glo "law", .glo "Plan", .glo "ENDS", .free "len", .free "isinstance", .free "tuple", .free "list", .free "int", .free "bool", .free "str", .free "range", .free "enumerate", .free "min", .free "max", .free "sum", .free "abs", .cls "Plan", .noat "Plan" "own_tables", .noat "Plan" "own_end"]
def fa4 : List He.Fa := [.meth "Plan" "tables", .meth "Plan" "end", .meth "Plan" "stage", .meth "Plan" "__eq__", .mkr "Plan"]
def fas : List He.Fa := fa0 ++ fa1 ++ fa2 ++ fa3 ++ fa4
def nm0 : List Str := ["LumpError", "Alike", "BadPlan", "NoCut", "is_integer", "is_number", "wrong_shape", "size_of", "comb", "wrong_sizes", "wrong_table", "table_size", "entry", "ENDS", "wrong_member", "wrong_plan", "Plan", "stretches", "put_parts", "parts_of"]
def nm1 : List Str := ["wrong_stretch", "above", "shape_above", "counter", "is_cut", "cuts", "behind", "is_prime_table", "primes", "shortest_round", "plain", "are_alike", "filled", "pressed", "shape", "common_beginning", "left_behind", "rests", "least_unlike", "least_parting"]
def nm2 : List Str := ["unlike_path", "parting", "_law_source", "_law_pick", "_law_of", "_law_comb", "_law_halves", "_law_shape", "_law_size", "_law_any_table", "_law_entry", "_law_filled", "_law_pressed", "_law_glue", "_law_table", "_law_made", "_law_stage", "_law_told", "_law_part", "_law_above"]
def nm3 : List Str := ["_law_is_cut", "_law_behind", "_law_primes", "_law_prime_list", "_law_plain", "_law_behind_primes", "_law_common", "_law_rests", "_law_unlike_at"]
def nms : List Str := nm0 ++ nm1 ++ nm2 ++ nm3
abbrev R : PySem.W.OpenRow := PySem.W.OpenLaw.row Rw
/-- what is asked besides: isinstance(x, Plan), x != y of plans, the tuple ENDS -/
def ex (K : PySem.W.Frag) : Bool := He.eqO (PySem.W.findIn K (.ref (He.ga K "Plan")) "__class__") (some (some (.builtin "object.__class__")))
  && (He.eqO (PySem.W.specialIn K (.builtin "object.__class__") "__get__") (some (some (.builtin "getset_descriptor.__get__")))
  && (decide (PySem.W.takesIn K (.builtin "object.__class__") = some true) && (decide (PySem.W.mroIn K (He.ga K "Plan") (.type "object") = some true)
  && (decide (PySem.W.kitOne K (.ref (He.ga K "Plan")) (.ref (He.ga K "Plan")) = some true)
  && (He.eqO (PySem.W.findIn K (.ref (He.ga K "Plan")) "__ne__") (some (some (.builtin "object.__ne__"))) && He.tupB K "ENDS" [.str "left", .str "right"])))))
abbrev AlE : Type := He.AlD × Bool
def obsE (K : PySem.W.Frag) : AlE := (He.obsD fas fns K, ex K)
def obG (g : Addr → Option Obj) : AlE := obsE (He.frG g (He.asD g 4))
def hk : PySem.W.Hook where
  α := AlE
  obs := fun s => obG s.heap.get?
  val := fun _ => (He.valD fns, true)
  says := fun _ h => ∃ K : PySem.W.Frag, K.In h ∧ He.SaysD fas fns K ∧ ex K = true
  of := fun _ _ e => ⟨_, He.frG_in, congrArg (fun z : AlE => z.1) e, congrArg (fun z : AlE => z.2) e⟩
  keeps := fun _ _ _ said k => said.imp fun _ q => ⟨PySem.W.Frag.In.keeps q.1 k, q.2⟩
def ob (s : PySem.W.SharedT) : AlE := obG (HandSHeadRun.getT s)
theorem ob_eq (s : PySem.W.SharedT) : ob s = hk.obs s.abs := by
  have e : HandSHeadRun.getT s = s.abs.heap.get? := funext (HandSHeadRun.getT_eq s)
  show obG (HandSHeadRun.getT s) = obG s.abs.heap.get?
  rw [e]
theorem run (w : World) : HandSHeadRun.RunEq R (PySem.W.view R.prog [81]) hk ob 4000 nms w := by
  intro os
  kernel_rfl
end Lh
end
section
set_option Elab.async false
set_option linter.all false
set_option maxRecDepth 100000
set_option maxHeartbeats 2000000
/-! the core: what a state holds (owned objects apart), judgements -/
namespace Lh
open PySem PySem.Spec PyProof.Rows L2
abbrev Ex := Evl.Ex
theorem Exr (H : Hp) : Ex H H := fun _ _ h => h
theorem Ext {H H1 H2 : Hp} (a : Ex H H1) (b : Ex H1 H2) : Ex H H2 := fun x o h => b x o (a x o h)
theorem Exn {H : Hp} {p : Addr} {o : HO} (h : H p = none) : Ex H (upd H p o) := Evl.Ex.new h
abbrev Ft := Addr → Prop
/-- what a value is, by objects that are never changed -/
structure Rel where
  r : PySem.W.Frag → Hp → V → Prop
  mono : ∀ {K : PySem.W.Frag} {H H' : Hp} {v : V}, Ex H H' → r K H v → r K H' v
/-- what a value is, by objects that one name alone holds: F what never changes, H all, f the objects -/
structure Own where
  r : PySem.W.Frag → Hp → Hp → V → Ft → Prop
  keep : ∀ {K : PySem.W.Frag} {F F' H H' : Hp} {v : V} {f : Ft}, Ex F F' → (∀ a, f a → H' a = H a) → r K F H v f → r K F' H' v f
  live : ∀ {K : PySem.W.Frag} {F H : Hp} {v : V} {f : Ft} {a : Addr}, r K F H v f → f a → H a ≠ none
inductive Slot where
  | no | dat (R : Rel) | own (O : Own)
def sv (K : PySem.W.Frag) (F H : Hp) (ov : Option V) (f : Ft) : Slot → Prop
  | .no => ∀ a, ¬ f a
  | .dat R => (∃ v, ov = some v ∧ R.r K F v) ∧ ∀ a, ¬ f a
  | .own O => ∃ v, ov = some v ∧ O.r K F H v f
abbrev Cell := Option V × Slot
def All (K : PySem.W.Frag) (F H : Hp) : List Cell → Ft → Prop
  | [], f => ∀ a, ¬ f a
  | c :: L, f => ∃ g h : Ft, sv K F H c.1 g c.2 ∧ All K F H L h ∧ (∀ a, g a → h a → False) ∧ ∀ a, f a ↔ g a ∨ h a
structure Sat (K : PySem.W.Frag) (F H : Hp) (L : List Cell) : Prop where
  ex : Ex F H
  all : ∃ f, All K F H L f ∧ ∀ a, f a → F a = none
section
variable {K : PySem.W.Frag} {F F' H H' : Hp}
theorem sv_keep {ov : Option V} {f : Ft} {s : Slot} (e : Ex F F') (k : ∀ a, f a → H' a = H a) (h : sv K F H ov f s) : sv K F' H' ov f s := by
  cases s with
  | no => exact h
  | dat R =>
    obtain ⟨⟨v, e1, e2⟩, e3⟩ := h
    exact ⟨⟨v, e1, R.mono e e2⟩, e3⟩
  | own O =>
    obtain ⟨v, e1, e2⟩ := h
    exact ⟨v, e1, O.keep e k e2⟩
theorem sv_live {ov : Option V} {f : Ft} {s : Slot} {a : Addr} (h : sv K F H ov f s) (q : f a) : H a ≠ none := by
  cases s with
  | no => exact absurd q (h a)
  | dat R => exact absurd q (h.2 a)
  | own O =>
    obtain ⟨v, e1, e2⟩ := h
    exact O.live e2 q
theorem all_keep : ∀ {L : List Cell} {f : Ft}, Ex F F' → (∀ a, f a → H' a = H a) → All K F H L f → All K F' H' L f
  | [], _, _, _, h => h
  | c :: L, f, e, k, h => by
    obtain ⟨g, h1, s1, s2, s3, s4⟩ := h
    exact ⟨g, h1, sv_keep e (fun a q => k a ((s4 a).mpr (.inl q))) s1, all_keep e (fun a q => k a ((s4 a).mpr (.inr q))) s2, s3, s4⟩
theorem all_live : ∀ {L : List Cell} {f : Ft} {a : Addr}, All K F H L f → f a → H a ≠ none
  | [], _, a, h, q => absurd q (h a)
  | c :: L, f, a, h, q => by
    obtain ⟨g, h1, s1, s2, s3, s4⟩ := h
    rcases (s4 a).mp q with z | z
    · exact sv_live s1 z
    · exact all_live s2 z
theorem all_perm {L L' : List Cell} (p : L.Perm L') : ∀ {f : Ft}, All K F H L f → All K F H L' f := by
  induction p with
  | nil => exact fun h => h
  | cons x _ ih =>
    intro f h
    obtain ⟨g, h1, s1, s2, s3, s4⟩ := h
    exact ⟨g, h1, s1, ih s2, s3, s4⟩
  | swap x y l =>
    intro f h
    obtain ⟨g, h1, s1, ⟨g2, h2, t1, t2, t3, t4⟩, s3, s4⟩ := h
    refine ⟨g2, fun a => g a ∨ h2 a, t1, ⟨g, h2, s1, t2, fun a q1 q2 => s3 a q1 ((t4 a).mpr (.inr q2)), fun a => Iff.rfl⟩, fun a q1 q2 => ?_, fun a => ?_⟩
    · rcases q2 with q2 | q2
      · exact s3 a q2 ((t4 a).mpr (.inl q1))
      · exact t3 a q1 q2
    · rw [s4 a, t4 a]
      constructor
      · rintro (z | z | z)
        · exact .inr (.inl z)
        · exact .inl z
        · exact .inr (.inr z)
      · rintro (z | z | z)
        · exact .inr (.inl z)
        · exact .inl z
        · exact .inr (.inr z)
  | trans _ _ ih1 ih2 => exact fun h => ih2 (ih1 h)
theorem Sat.perm {L L' : List Cell} (p : L.Perm L') (s : Sat K F H L) : Sat K F H L' := by
  obtain ⟨f, a, b⟩ := s.all
  exact ⟨s.ex, f, all_perm p a, b⟩
theorem all_mem : ∀ {L : List Cell} {f : Ft} {c : Cell}, All K F H L f → c ∈ L → ∃ g, sv K F H c.1 g c.2
  | [], _, c, _, m => by cases m
  | d :: L, f, c, h, m => by
    obtain ⟨g, h1, s1, s2, s3, s4⟩ := h
    rcases List.mem_cons.mp m with e | m
    · rw [e]
      exact ⟨g, s1⟩
    · exact all_mem s2 m
/-- THE CHANGE of one cell -/
theorem Sat.upd {ov : Option V} {s : Slot} {L : List Cell} (S : Sat K F H ((ov, s) :: L)) : ∃ g : Ft, sv K F H ov g s ∧ (∀ a, g a → F a = none) ∧
    ∀ (F' H' : Hp) (ov' : Option V) (s' : Slot) (g' : Ft), Ex F F' → Ex F' H' → (∀ a o, H a = some o → ¬ g a → H' a = some o) → (∀ a, F' a ≠ none → F a ≠ none ∨ g a ∨ H a = none) →
      sv K F' H' ov' g' s' → (∀ a, g' a → F' a = none ∧ (g a ∨ H a = none)) → Sat K F' H' ((ov', s') :: L) := by
  obtain ⟨ex, f, ⟨g, h, s1, s2, s3, s4⟩, fr⟩ := S
  refine ⟨g, s1, fun a q => fr a ((s4 a).mpr (.inl q)), fun F' H' ov' s' g' eF eH kp nf sv' g'F => ?_⟩
  have hk : ∀ a, h a → H' a = H a := fun a q => by
    cases e : H a with
    | none => exact absurd e (all_live s2 q)
    | some o => exact kp a o e fun z => s3 a z q
  have hF : ∀ a, h a → F' a = none := fun a q => by
    cases e : F' a with
    | none => rfl
    | some o =>
      exfalso
      rcases nf a (by rw [e]; exact fun z => nomatch z) with z | z | z
      · exact z (fr a ((s4 a).mpr (.inr q)))
      · exact s3 a z q
      · exact all_live s2 q z
  refine ⟨eH, fun a => g' a ∨ h a, ⟨g', h, sv', all_keep eF hk s2, fun a q1 q2 => ?_, fun a => Iff.rfl⟩, fun a q => ?_⟩
  · rcases (g'F a q1).2 with z | z
    · exact s3 a z q2
    · exact all_live s2 q2 z
  · rcases q with q | q
    · exact (g'F a q).1
    · exact hF a q
theorem Sat.tail {c : Cell} {L : List Cell} (S : Sat K F H (c :: L)) : Sat K F H L := by
  obtain ⟨ex, f, ⟨g, h, s1, s2, s3, s4⟩, fr⟩ := S
  exact ⟨ex, h, s2, fun a q => fr a ((s4 a).mpr (.inr q))⟩
/-- a cell more, without objects of its own -/
theorem Sat.cons0 {ov : Option V} {s : Slot} {L : List Cell} (S : Sat K F H L) (h : sv K F H ov (fun _ => False) s) : Sat K F H ((ov, s) :: L) := by
  obtain ⟨ex, f, s2, fr⟩ := S
  exact ⟨ex, f, ⟨fun _ => False, f, h, s2, fun _ q _ => q, fun a => ⟨fun q => .inr q, fun q => q.elim False.elim id⟩⟩, fr⟩
theorem Sat.no {ov : Option V} {L : List Cell} (S : Sat K F H L) : Sat K F H ((ov, .no) :: L) := S.cons0 fun _ q => q
theorem Sat.dat {v : V} {R : Rel} {L : List Cell} (S : Sat K F H L) (h : R.r K F v) : Sat K F H ((some v, .dat R) :: L) := S.cons0 ⟨⟨v, rfl, h⟩, fun _ q => q⟩
theorem Sat.hd {v : V} {R : Rel} {L : List Cell} (S : Sat K F H ((some v, .dat R) :: L)) : R.r K F v := by
  obtain ⟨ex, f, ⟨g, h, ⟨⟨v', e, s1⟩, _⟩, _⟩, _⟩ := S
  cases e
  exact s1
theorem Sat.mem {ov : Option V} {R : Rel} {L : List Cell} (S : Sat K F H L) (m : (ov, Slot.dat R) ∈ L) : ∃ v, ov = some v ∧ R.r K F v := by
  obtain ⟨ex, f, a, _⟩ := S
  obtain ⟨g, h, _⟩ := all_mem a m
  exact h
/-- what is in F where a new object is laid -/
theorem Sat.fresh {L : List Cell} {p : Addr} (S : Sat K F H L) (h : H p = none) : F p = none := Evl.fresh_back S.ex h
theorem ex_upd2 {p : Addr} {o : HO} (e : Ex F H) : Ex (L2.upd F p o) (L2.upd H p o) := fun a u q => by
  unfold L2.upd at q ⊢
  split
  · rename_i h
    rw [if_pos h] at q
    exact q
  · rename_i h
    rw [if_neg h] at q
    exact e a u q
/-- a new object that is never changed -/
theorem Sat.lay {L : List Cell} {p : Addr} {o : HO} (S : Sat K F H L) (h : H p = none) : Sat K (L2.upd F p o) (L2.upd H p o) L := by
  have hF := S.fresh h
  obtain ⟨g, s1, s2, s3⟩ := (S.no (ov := none)).upd
  refine (s3 (L2.upd F p o) (L2.upd H p o) none .no (fun _ => False) (Exn hF) (ex_upd2 S.ex) (fun a u e _ => Exn h a u e) (fun a q => ?_) (fun _ q => q) (fun _ q => q.elim)).tail
  by_cases e : a = p
  · subst e
    exact .inr (.inr h)
  · rw [upd_ne e] at q
    exact .inl q
/-- a new object that a cell owns -/
theorem Sat.layOwn {L : List Cell} {p : Addr} {o : HO} {v : V} {O : Own} (S : Sat K F H L) (h : H p = none) (hr : O.r K F (L2.upd H p o) v (fun a => a = p)) : Sat K F (L2.upd H p o) ((some v, .own O) :: L) := by
  have hF := S.fresh h
  obtain ⟨g, s1, s2, s3⟩ := (S.no (ov := none)).upd
  exact s3 F (L2.upd H p o) (some v) (.own O) (fun a => a = p) (Exr F) (Ext S.ex (Exn h)) (fun a u e _ => Exn h a u e) (fun a q => .inl q) ⟨v, rfl, hr⟩ fun a q => by
    subst q
    exact ⟨hF, .inr h⟩
/-- the whole heap may have grown -/
theorem Sat.grow {L : List Cell} (S : Sat K F H L) (e : Ex H H') : Sat K F H' L := by
  obtain ⟨g, s1, s2, s3⟩ := (S.no (ov := none)).upd
  exact (s3 F H' none .no (fun _ => False) (Exr F) (Ext S.ex e) (fun a u q _ => e a u q) (fun a q => .inl q) (fun _ q => q) (fun _ q => q.elim)).tail
end

/-! ### names' cells -/
abbrev zc (σ : L2.St) (S : List Slot) : List Cell := List.zip σ S
theorem zip_set {α β : Type} : ∀ (σ : List α) (S : List β) (i : Nat) (a : α) (b : β), List.zip (σ.set i a) (S.set i b) = (List.zip σ S).set i (a, b)
  | [], S, i, a, b => by simp
  | x :: σ, [], i, a, b => by cases i <;> simp
  | x :: σ, y :: S, 0, a, b => rfl
  | x :: σ, y :: S, i + 1, a, b => by
    show (x, y) :: List.zip (σ.set i a) (S.set i b) = (x, y) :: (List.zip σ S).set i (a, b)
    rw [zip_set σ S i a b]
theorem zc_get {σ : L2.St} {S : List Slot} {i : Nat} {s : Slot} (hl : σ.length = S.length) (h : S[i]? = some s) : ∃ ov, σ[i]? = some ov ∧ (zc σ S)[i]? = some (ov, s) := by
  obtain ⟨hi, e⟩ := List.getElem?_eq_some_iff.mp h
  have hi' : i < σ.length := by omega
  refine ⟨σ[i], List.getElem?_eq_getElem hi', ?_⟩
  have hz : i < (List.zip σ S).length := by
    rw [List.length_zip]
    omega
  rw [List.getElem?_eq_getElem hz, List.getElem_zip, e]
theorem zc_mem {σ : L2.St} {S : List Slot} {i : Nat} {s : Slot} (Fr : List Cell) (hl : σ.length = S.length) (h : S[i]? = some s) : ∃ ov, σ[i]? = some ov ∧ (ov, s) ∈ zc σ S ++ Fr := by
  obtain ⟨ov, h1, h2⟩ := zc_get hl h
  exact ⟨ov, h1, List.mem_append_left _ (List.mem_of_getElem? h2)⟩
theorem get_perm {α : Type} : ∀ {l : List α} {i : Nat} {x : α}, l[i]? = some x → l.Perm (x :: l.eraseIdx i)
  | [], i, x, h => by simp at h
  | a :: l, 0, x, h => by
    have e : a = x := by simpa using h
    subst e
    exact List.Perm.refl _
  | a :: l, i + 1, x, h => by
    have ih := get_perm (l := l) (i := i) (x := x) (by simpa using h)
    exact (ih.cons a).trans (List.Perm.swap _ _ _)
/-- the i-th name's cell ahead -/
theorem zc_out {σ : L2.St} {S : List Slot} {i : Nat} {s : Slot} {ov : Option V} (Fr : List Cell) (hl : σ.length = S.length) (h : S[i]? = some s) (h2 : σ[i]? = some ov) : (zc σ S ++ Fr).Perm ((ov, s) :: ((zc σ S).eraseIdx i ++ Fr)) := by
  obtain ⟨ov', e1, e2⟩ := zc_get hl h
  rw [h2] at e1
  cases e1
  exact (get_perm e2).append_right Fr
theorem zc_in {σ : L2.St} {S : List Slot} {i : Nat} (s : Slot) (ov : Option V) (Fr : List Cell) (hl : σ.length = S.length) (hi : i < S.length) : ((ov, s) :: ((zc σ S).eraseIdx i ++ Fr)).Perm (zc (σ.set i ov) (S.set i s) ++ Fr) := by
  have e : (zc (σ.set i ov) (S.set i s))[i]? = some (ov, s) := by
    have h1 : i < (List.zip (σ.set i ov) (S.set i s)).length := by
      rw [List.length_zip, List.length_set, List.length_set]
      omega
    rw [List.getElem?_eq_getElem h1, List.getElem_zip]
    simp
  have p := get_perm e
  have e2 : (zc (σ.set i ov) (S.set i s)).eraseIdx i = (zc σ S).eraseIdx i := by
    show (List.zip (σ.set i ov) (S.set i s)).eraseIdx i = _
    rw [zip_set, List.eraseIdx_set_eq]
  rw [e2] at p
  exact (p.append_right Fr).symm
section
variable {K : PySem.W.Frag} {F F' H H' : Hp} {σ : L2.St} {S : List Slot} {Fr : List Cell}
/-- a value goes to a name -/
theorem Sat.store {v : Option V} {w : Slot} {i : Nat} (hl : σ.length = S.length) (hi : i < S.length) (h : Sat K F H ((v, w) :: (zc σ S ++ Fr))) : Sat K F H (zc (σ.set i v) (S.set i w) ++ Fr) := by
  have e : S[i]? = some S[i] := List.getElem?_eq_getElem hi
  have e2 : σ[i]? = some (σ[i]'(by omega)) := List.getElem?_eq_getElem (by omega)
  have p := (zc_out Fr hl e e2).cons (v, w)
  have p2 : ((v, w) :: (zc σ S ++ Fr)).Perm ((σ[i]'(by omega), S[i]) :: ((v, w) :: ((zc σ S).eraseIdx i ++ Fr))) := p.trans (List.Perm.swap _ _ _)
  exact ((h.perm p2).tail).perm (zc_in w v Fr hl hi)
theorem Sat.var {i : Nat} {R : Rel} (h : Sat K F H (zc σ S ++ Fr)) (hl : σ.length = S.length) (e : S[i]? = some (.dat R)) : ∃ v, σ[i]? = some (some v) ∧ R.r K F v := by
  obtain ⟨ov, h1, m⟩ := zc_mem Fr hl e
  obtain ⟨v, rfl, r⟩ := h.mem m
  exact ⟨v, h1, r⟩
/-- behind others -/
theorem Sat.frame1 {c : Cell} {L M : List Cell} (h : Sat K F H (c :: (L ++ M))) : Sat K F H (L ++ (c :: M)) := h.perm List.perm_middle.symm
theorem Sat.frame1' {c : Cell} {L M : List Cell} (h : Sat K F H (L ++ (c :: M))) : Sat K F H (c :: (L ++ M)) := h.perm List.perm_middle
end
end Lh
end
section
set_option Elab.async false
set_option linter.all false
set_option maxRecDepth 100000
set_option maxHeartbeats 2000000
/-! judgements: what an expression gives, what a statement leaves -/
namespace Lh
open PySem PySem.Spec PyProof.Rows L2
/-! ### the weakest readings -/
def wpE (X : Cx) (e : Expr) : TE := fun σ H Q => ∀ (pins : List (Addr × Obj)) (s : Shared), Inv X pins σ H s → wpAny (model X.prog X.w) X.A (eval e X.env) (EP X pins σ Q) X.xe s
def wpT (X : Cx) (e : Expr) : TT := fun σ H Q => ∀ (pins : List (Addr × Obj)) (s : Shared), Inv X pins σ H s → wpAny (model X.prog X.w) X.A (isTrue e X.env (eval e X.env)) (TP X pins σ Q) X.xe s
def wpW (X : Cx) (e : Expr) : TT := fun σ H Q => ∀ (whole : Sem Value) (pins : List (Addr × Obj)) (s : Shared), Inv X pins σ H s → wpAny (model X.prog X.w) X.A (isTrue e X.env whole) (TP X pins σ Q) X.xe s
def wpA (X : Cx) (es : List Expr) : TA := fun σ H Q => ∀ (pos : Pos) (pins : List (Addr × Obj)) (s : Shared), Inv X pins σ H s → wpAny (model X.prog X.w) X.A (spliced (backTo pos (starEach es X.env))) (AP X pins σ Q) X.xe s
def wpS (X : Cx) (st : Stmt) : TS := fun D σ H => ∀ (pins : List (Addr × Obj)) (s : Shared), Inv X pins σ H s → wpAny (model X.prog X.w) X.A (exec st X.env) (SP X pins D) X.xe s
def wpSs (X : Cx) (st : List Stmt) : TS := fun D σ H => ∀ (pins : List (Addr × Obj)) (s : Shared), Inv X pins σ H s → wpAny (model X.prog X.w) X.A (execs st X.env) (SP X pins D) X.xe s
section
variable {X : Cx}
theorem pE {e : Expr} : PE X e (wpE X e) := ⟨fun pins s σ H Q I h => h pins s I⟩
theorem pT {e : Expr} : PT X e (wpT X e) := ⟨fun pins s σ H Q I h => h pins s I⟩
theorem pW {e : Expr} : PW X e (wpW X e) := ⟨fun wh pins s σ H Q I h => h wh pins s I⟩
theorem pA {es : List Expr} : PA X es (wpA X es) := ⟨fun pos pins s σ H Q I h => h pos pins s I⟩
theorem pS {st : Stmt} : PS X st (wpS X st) := ⟨fun pins s σ H D I h => h pins s I⟩
theorem pSs {st : List Stmt} : PSs X st (wpSs X st) := ⟨fun pins s σ H D I h => h pins s I⟩
theorem _root_.L2.PE.w {e : Expr} {t : TE} (h : PE X e t) {σ : L2.St} {H : Hp} {Q : VK} (q : t σ H Q) : wpE X e σ H Q := fun pins s I => h.run pins s σ H Q I q
theorem _root_.L2.PT.w {e : Expr} {t : TT} (h : PT X e t) {σ : L2.St} {H : Hp} {Q : Bool → Hp → Prop} (q : t σ H Q) : wpT X e σ H Q := fun pins s I => h.run pins s σ H Q I q
theorem _root_.L2.PW.w {e : Expr} {t : TT} (h : PW X e t) {σ : L2.St} {H : Hp} {Q : Bool → Hp → Prop} (q : t σ H Q) : wpW X e σ H Q := fun wh pins s I => h.run wh pins s σ H Q I q
theorem _root_.L2.PA.w {es : List Expr} {t : TA} (h : PA X es t) {σ : L2.St} {H : Hp} {Q : List V → Hp → Prop} (q : t σ H Q) : wpA X es σ H Q := fun pos pins s I => h.run pos pins s σ H Q I q
theorem _root_.L2.PS.w {st : Stmt} {t : TS} (h : PS X st t) {σ : L2.St} {H : Hp} {D : Ends} (q : t D σ H) : wpS X st D σ H := fun pins s I => h.run pins s σ H D I q
theorem _root_.L2.PSs.w {st : List Stmt} {t : TS} (h : PSs X st t) {σ : L2.St} {H : Hp} {D : Ends} (q : t D σ H) : wpSs X st D σ H := fun pins s I => h.run pins s σ H D I q
end

/-! ### judgements -/
/-- e gives what k says and leaves S' -/
def WE (X : Cx) (e : Expr) (S : List Slot) (k : Slot → Prop) (S' : List Slot) : Prop :=
  S'.length = S.length ∧ ∀ (Fr : List Cell) (F : Hp) (σ : L2.St) (H : Hp) (Q : VK), σ.length = S.length → Sat X.K F H (zc σ S ++ Fr) →
    (∀ (w : Slot) (v : V) (F2 H2 : Hp), k w → Ex F F2 → Sat X.K F2 H2 ((some v, w) :: (zc σ S' ++ Fr)) → Q v H2) → wpE X e σ H Q
abbrev DE (X : Cx) (e : Expr) (S : List Slot) (w : Slot) (S' : List Slot) : Prop := WE X e S (fun w' => w' = w) S'
def DT (X : Cx) (e : Expr) (S : List Slot) (b : Bool) (S' : List Slot) : Prop :=
  S'.length = S.length ∧ ∀ (Fr : List Cell) (F : Hp) (σ : L2.St) (H : Hp) (Q : Bool → Hp → Prop), σ.length = S.length → Sat X.K F H (zc σ S ++ Fr) →
    (∀ (F2 H2 : Hp), Ex F F2 → Sat X.K F2 H2 (zc σ S' ++ Fr) → Q b H2) → wpT X e σ H Q
def DW (X : Cx) (e : Expr) (S : List Slot) (b : Bool) (S' : List Slot) : Prop :=
  S'.length = S.length ∧ ∀ (Fr : List Cell) (F : Hp) (σ : L2.St) (H : Hp) (Q : Bool → Hp → Prop), σ.length = S.length → Sat X.K F H (zc σ S ++ Fr) →
    (∀ (F2 H2 : Hp), Ex F F2 → Sat X.K F2 H2 (zc σ S' ++ Fr) → Q b H2) → wpW X e σ H Q
/-- an argument list -/
def DA (X : Cx) (es : List Expr) (S : List Slot) (ws : List Slot) (S' : List Slot) : Prop :=
  S'.length = S.length ∧ ∀ (Fr : List Cell) (F : Hp) (σ : L2.St) (H : Hp) (Q : List V → Hp → Prop), σ.length = S.length → Sat X.K F H (zc σ S ++ Fr) →
    (∀ (vs : List V) (F2 H2 : Hp), vs.length = ws.length → Ex F F2 → Sat X.K F2 H2 (zc (vs.map some) ws ++ (zc σ S' ++ Fr)) → Q vs H2) → wpA X es σ H Q
inductive Out where
  | nx (S : List Slot) | rt (k : Slot → Prop) (S : List Slot) | ct (S : List Slot)
/-- what is wanted, of an end -/
def KO (K : PySem.W.Frag) (n : Nat) (F : Hp) (Fr : List Cell) (D : Ends) : Out → Prop
  | .nx S => ∀ (σ : L2.St) (F2 H2 : Hp), σ.length = n → Ex F F2 → Sat K F2 H2 (zc σ S ++ Fr) → D.nx σ H2
  | .ct S => ∀ (σ : L2.St) (F2 H2 : Hp), σ.length = n → Ex F F2 → Sat K F2 H2 (zc σ S ++ Fr) → D.ct σ H2
  | .rt k S => ∀ (w : Slot) (v : V) (σ : L2.St) (F2 H2 : Hp), k w → σ.length = n → Ex F F2 → Sat K F2 H2 ((some v, w) :: (zc σ S ++ Fr)) → D.rt v H2
def Out.ok (n : Nat) : Out → Prop
  | .nx S => S.length = n
  | .ct S => S.length = n
  | .rt _ S => S.length ≤ n
def DS (X : Cx) (st : Stmt) (S : List Slot) (o : Out) : Prop :=
  o.ok S.length ∧ ∀ (Fr : List Cell) (F : Hp) (σ : L2.St) (H : Hp) (D : Ends), σ.length = S.length → Sat X.K F H (zc σ S ++ Fr) → KO X.K S.length F Fr D o → wpS X st D σ H
def DSs (X : Cx) (st : List Stmt) (S : List Slot) (o : Out) : Prop :=
  o.ok S.length ∧ ∀ (Fr : List Cell) (F : Hp) (σ : L2.St) (H : Hp) (D : Ends), σ.length = S.length → Sat X.K F H (zc σ S ++ Fr) → KO X.K S.length F Fr D o → wpSs X st D σ H
theorem KO.mono {K : PySem.W.Frag} {n : Nat} {F F' : Hp} {Fr : List Cell} {D : Ends} {o : Out} (e : Ex F F') (h : KO K n F Fr D o) : KO K n F' Fr D o := by
  cases o with
  | nx S => exact fun σ F2 H2 hl e2 q => h σ F2 H2 hl (Ext e e2) q
  | ct S => exact fun σ F2 H2 hl e2 q => h σ F2 H2 hl (Ext e e2) q
  | rt w S => exact fun w v σ F2 H2 kw hl e2 q => h w v σ F2 H2 kw hl (Ext e e2) q

section
variable {X : Cx} {S S1 S2 S3 : List Slot} {a b c e : Expr} {pos : Pos} {k : Slot → Prop} {w : Slot} {R R1 R2 R3 : Rel}
theorem WE.imp {k' : Slot → Prop} (h : WE X e S k S1) (q : ∀ w, k w → k' w) : WE X e S k' S1 :=
  ⟨h.1, fun Fr F σ H Q hl sat c => h.2 Fr F σ H Q hl sat fun w v F2 H2 kw e2 s2 => c w v F2 H2 (q w kw) e2 s2⟩
/-- by a rule of the layer -/
theorem DE.conv (h : DE X e S (.dat R) S1) (q : ∀ {K : PySem.W.Frag} {H : Hp} {v : V}, R.r K H v → R1.r K H v) : DE X e S (.dat R1) S1 :=
  ⟨h.1, fun Fr F σ H Q hl sat c => h.2 Fr F σ H Q hl sat fun w v F2 H2 kw e2 s2 => by
    subst kw
    exact c _ v F2 H2 rfl e2 (s2.tail.dat (q s2.hd))⟩
theorem de_var {i : Nat} {x : Str} (hS : S[i]? = some (.dat R)) (hN : X.N[i]? = some x := by rfl) (hv : Vis X.env.scope x := by first | exact Or.inl rfl | exact Or.inr (Or.inl rfl) | exact Or.inr (Or.inr rfl)) (hd : (x == ("__debug__" : Str)) = false := by decide)
    (hcd : (x == ("__classdict__" : Str)) = false := by decide) : DE X (.Name x pos) S (.dat R) S :=
  ⟨rfl, fun Fr F σ H Q hl sat c => by
    obtain ⟨v, h1, h2⟩ := sat.var hl hS
    exact (pe_var hN hv hd hcd).w ⟨v, h1, c _ v F H rfl (Exr F) (sat.dat h2)⟩⟩
/-- a constant -/
theorem de_c {v : V} (h : PE X e (tC v)) (hr : ∀ K H, R.r K H v) : DE X e S (.dat R) S :=
  ⟨rfl, fun Fr F σ H Q hl sat c => h.w (c _ v F H rfl (Exr F) (sat.dat (hr _ _)))⟩
/-! ### values by their data -/
def py (d : PyData) : Rel := ⟨fun K H v => Dp K H v d, fun {K H H' v} e h => by
  exact DpMono e d v h⟩
where
  DpMono {K : PySem.W.Frag} {H H' : Hp} (e : Ex H H') : ∀ (d : PyData) (v : V), Dp K H v d → Dp K H' v d
  | .none, _, h => by cases h; exact .non
  | .bool b, _, h => by cases h; exact .bl b
  | .int i, _, h => by cases h; exact .int i
  | .str x, _, h => by cases h; exact .str x
  | .list ds, _, h => by
    cases h with
    | lst hs ha => exact .lst (Evl.ex_l e hs) (DpMonoAll e ds _ ha)
  | .tuple ds, _, h => by
    cases h with
    | tup hs ha => exact .tup (Evl.ex_t e hs) (DpMonoAll e ds _ ha)
  | .dict _, _, h => by cases h
  DpMonoAll {K : PySem.W.Frag} {H H' : Hp} (e : Ex H H') : ∀ (ds : List PyData) (vs : List V), DpAll K H vs ds → DpAll K H' vs ds
  | [], _, h => by cases h; exact .nil
  | d :: ds, _, h => by
    cases h with
    | cons h1 h2 => exact .cons (DpMono e d _ h1) (DpMonoAll e ds _ h2)
abbrev pd (d : PyData) : Slot := .dat (py d)
abbrev pi (i : Int) : Slot := pd (.int i)
abbrev pb (b : Bool) : Slot := pd (.bool b)
theorem de_int {i : Int} {j} : DE X (.Constant (.int i) j pos) S (pi i) S := de_c pe_int fun _ _ => .int i
theorem de_bl {i : Bool} {j} : DE X (.Constant (.bool i) j pos) S (pb i) S := de_c pe_bl fun _ _ => .bl i
theorem de_non {j} : DE X (.Constant .none j pos) S (pd .none) S := de_c pe_non fun _ _ => .non
theorem de_str {x : Str} {j} : DE X (.Constant (.str x) j pos) S (pd (.str x)) S := de_c pe_str fun _ _ => .str x

/-! ### operators -/
/-- what an operation does to data -/
def RD (K : PySem.W.Frag) (r : L2.R2) (R1 R2 : Rel) (k : Slot → Prop) : Prop :=
  ∀ (F H : Hp) (L : List Cell) (x y : V) (Q : VK), Sat K F H L → R1.r K F x → R2.r K F y → (∀ (w : Slot) (v : V) (F2 H2 : Hp), k w → Ex F F2 → Sat K F2 H2 ((some v, w) :: L) → Q v H2) → r x y H Q
theorem two {r : L2.R2} (rd : RD X.K r R1 R2 k) (ha : DE X a S (.dat R1) S1) (hb : DE X b S1 (.dat R2) S2) {Fr : List Cell} {F : Hp} {σ : L2.St} {H : Hp} {Q : VK} (hl : σ.length = S.length) (sat : Sat X.K F H (zc σ S ++ Fr))
    (c : ∀ (w : Slot) (v : V) (F2 H2 : Hp), k w → Ex F F2 → Sat X.K F2 H2 ((some v, w) :: (zc σ S2 ++ Fr)) → Q v H2) : tOp r (wpE X a) (wpE X b) σ H Q := by
  refine ha.2 Fr F σ H _ hl sat fun w x F1 H1 kw e1 s1 => ?_
  subst kw
  refine hb.2 Fr F1 σ H1 _ (hl.trans ha.1.symm) s1.tail fun w y F2 H2 kw e2 s2 => ?_
  subst kw
  exact rd F2 H2 _ x y Q s2.tail (R1.mono e2 s1.hd) s2.hd fun w v F3 H3 kw e3 s3 => c w v F3 H3 kw (Ext e1 (Ext e2 e3)) s3
theorem we_op {op : Operator} {r : L2.R2} (ho : OpR X (binaryOp op) r) (rd : RD X.K r R1 R2 k) (ha : DE X a S (.dat R1) S1) (hb : DE X b S1 (.dat R2) S2) : WE X (.BinOp a op b pos) S k S2 :=
  ⟨hb.1.trans ha.1, fun Fr F σ H Q hl sat c => (pe_op ho pE pE).w (two rd ha hb hl sat c)⟩
theorem we_cmp {op : CmpOp} {r : L2.R2} (ho : OpR X (compareOp op) r) (rd : RD X.K r R1 R2 k) (ha : DE X a S (.dat R1) S1) (hb : DE X b S1 (.dat R2) S2) (hm : behindInMarks op b = false) : WE X (.Compare a [op] [b] pos) S k S2 :=
  ⟨hb.1.trans ha.1, fun Fr F σ H Q hl sat c => (pe_cmpR ho pE pE hm).w (two rd ha hb hl sat c)⟩
theorem we_ix {r : L2.R2} (hr : IxR X r) (rd : RD X.K r R1 R2 k) (ha : DE X a S (.dat R1) S1) (hb : DE X b S1 (.dat R2) S2) (hs : PlainIx b := by exact fun _ _ => rfl) : WE X (.Subscript a b pos) S k S2 :=
  ⟨hb.1.trans ha.1, fun Fr F σ H Q hl sat c => (pe_ix hr pE pE hs).w (two rd ha hb hl sat c)⟩
/-- as a test -/
theorem dt_cmp {op : CmpOp} {r : L2.R2} {z : Bool} (ho : OpR X (compareOp op) r) (rd : RD X.K r R1 R2 (fun w => w = pb z)) (ha : DE X a S (.dat R1) S1) (hb : DE X b S1 (.dat R2) S2) (hm : behindInMarks op b = false) : DT X (.Compare a [op] [b] pos) S z S2 :=
  ⟨hb.1.trans ha.1, fun Fr F σ H Q hl sat c => (pt_cmpR ho pE pE hm).w (two rd ha hb hl sat fun w v F2 H2 kw e2 s2 => by
    subst kw
    have h := s2.hd
    cases h
    exact ⟨z, rfl, c F2 H2 e2 s2.tail⟩)⟩
theorem rd_I0 {g : Int → Int → V} {d : Int → Int → PyData} {i j : Int} {K : PySem.W.Frag} (hg : ∀ H, Dp K H (g i j) (d i j)) : RD K (rI0 g) (py (.int i)) (py (.int j)) (fun w => w = pd (d i j)) := by
  intro F H L x y Q sat hx hy c
  cases hx
  cases hy
  exact ⟨i, j, rfl, rfl, c _ _ F H rfl (Exr F) (sat.dat (hg F))⟩
theorem rd_I {C : Int → Int → Prop} {g : Int → Int → V} {d : Int → Int → PyData} {i j : Int} {K : PySem.W.Frag} (hc : C i j) (hg : ∀ H, Dp K H (g i j) (d i j)) : RD K (rI C g) (py (.int i)) (py (.int j)) (fun w => w = pd (d i j)) := by
  intro F H L x y Q sat hx hy c
  cases hx
  cases hy
  exact ⟨i, j, rfl, rfl, hc, c _ _ F H rfl (Exr F) (sat.dat (hg F))⟩
theorem de_add {i j : Int} (ha : DE X a S (pi i) S1) (hb : DE X b S1 (pi j) S2) : DE X (.BinOp a .Add b pos) S (pi (i + j)) S2 := we_op op_add (rd_I0 (d := fun i j => .int (i + j)) fun _ => .int _) ha hb
theorem de_sub {i j : Int} (ha : DE X a S (pi i) S1) (hb : DE X b S1 (pi j) S2) : DE X (.BinOp a .Sub b pos) S (pi (i - j)) S2 := we_op op_sub (rd_I0 (d := fun i j => .int (i - j)) fun _ => .int _) ha hb
theorem de_mul {i j : Int} (ha : DE X a S (pi i) S1) (hb : DE X b S1 (pi j) S2) (hc : CMul i j) : DE X (.BinOp a .Mult b pos) S (pi (i * j)) S2 := we_op op_mul (rd_I (d := fun i j => .int (i * j)) hc fun _ => .int _) ha hb
theorem de_mod {i j : Int} (ha : DE X a S (pi i) S1) (hb : DE X b S1 (pi j) S2) (hc : 0 < j) : DE X (.BinOp a .Mod b pos) S (pi (i % j)) S2 := we_op op_mod (rd_I (d := fun i j => .int (i % j)) hc fun _ => .int _) ha hb
theorem de_fdiv {i j : Int} (ha : DE X a S (pi i) S1) (hb : DE X b S1 (pi j) S2) (hc : CDiv i j) : DE X (.BinOp a .FloorDiv b pos) S (pi (i / j)) S2 := we_op op_fdiv (rd_I (d := fun i j => .int (i / j)) hc fun _ => .int _) ha hb
theorem de_lt {i j : Int} (ha : DE X a S (pi i) S1) (hb : DE X b S1 (pi j) S2) : DE X (.Compare a [.Lt] [b] pos) S (pb (decide (i < j))) S2 := we_cmp op_lt (rd_I0 (d := fun i j => .bool (decide (i < j))) fun _ => .bl _) ha hb (nomark _)
theorem de_le {i j : Int} (ha : DE X a S (pi i) S1) (hb : DE X b S1 (pi j) S2) : DE X (.Compare a [.LtE] [b] pos) S (pb (decide (i ≤ j))) S2 := we_cmp op_le (rd_I0 (d := fun i j => .bool (decide (i ≤ j))) fun _ => .bl _) ha hb (nomark _)
theorem de_gt {i j : Int} (ha : DE X a S (pi i) S1) (hb : DE X b S1 (pi j) S2) : DE X (.Compare a [.Gt] [b] pos) S (pb (decide (j < i))) S2 := we_cmp op_gt (rd_I0 (d := fun i j => .bool (decide (j < i))) fun _ => .bl _) ha hb (nomark _)
theorem de_ge {i j : Int} (ha : DE X a S (pi i) S1) (hb : DE X b S1 (pi j) S2) : DE X (.Compare a [.GtE] [b] pos) S (pb (decide (j ≤ i))) S2 := we_cmp op_ge (rd_I0 (d := fun i j => .bool (decide (j ≤ i))) fun _ => .bl _) ha hb (nomark _)
theorem dt_lt {i j : Int} (ha : DE X a S (pi i) S1) (hb : DE X b S1 (pi j) S2) : DT X (.Compare a [.Lt] [b] pos) S (decide (i < j)) S2 := dt_cmp op_lt (rd_I0 (d := fun i j => .bool (decide (i < j))) fun _ => .bl _) ha hb (nomark _)
theorem dt_le {i j : Int} (ha : DE X a S (pi i) S1) (hb : DE X b S1 (pi j) S2) : DT X (.Compare a [.LtE] [b] pos) S (decide (i ≤ j)) S2 := dt_cmp op_le (rd_I0 (d := fun i j => .bool (decide (i ≤ j))) fun _ => .bl _) ha hb (nomark _)
theorem dt_gt {i j : Int} (ha : DE X a S (pi i) S1) (hb : DE X b S1 (pi j) S2) : DT X (.Compare a [.Gt] [b] pos) S (decide (j < i)) S2 := dt_cmp op_gt (rd_I0 (d := fun i j => .bool (decide (j < i))) fun _ => .bl _) ha hb (nomark _)
theorem dt_ge {i j : Int} (ha : DE X a S (pi i) S1) (hb : DE X b S1 (pi j) S2) : DT X (.Compare a [.GtE] [b] pos) S (decide (j ≤ i)) S2 := dt_cmp op_ge (rd_I0 (d := fun i j => .bool (decide (j ≤ i))) fun _ => .bl _) ha hb (nomark _)
theorem scal_int {i j : Int} : scal (.int i) (.int j) = true := rfl
theorem rd_eqI {i j : Int} {K : PySem.W.Frag} : RD K rEq (py (.int i)) (py (.int j)) (fun w => w = pb (decide (i = j))) := by
  intro F H L x y Q sat hx hy c
  cases hx
  cases hy
  have e : decide (V.int i = V.int j) = decide (i = j) := by
    rw [dec_int, Bool.beq_eq_decide_eq]
  refine ⟨rfl, ?_⟩
  rw [e]
  exact c _ _ F H rfl (Exr F) (sat.dat (.bl _))
theorem rd_neI {i j : Int} {K : PySem.W.Frag} : RD K rNe (py (.int i)) (py (.int j)) (fun w => w = pb (!decide (i = j))) := by
  intro F H L x y Q sat hx hy c
  cases hx
  cases hy
  have e : decide (V.int i = V.int j) = decide (i = j) := by
    rw [dec_int, Bool.beq_eq_decide_eq]
  refine ⟨rfl, ?_⟩
  rw [e]
  exact c _ _ F H rfl (Exr F) (sat.dat (.bl _))
theorem de_eqI {i j : Int} (ha : DE X a S (pi i) S1) (hb : DE X b S1 (pi j) S2) : DE X (.Compare a [.Eq] [b] pos) S (pb (decide (i = j))) S2 := we_cmp op_eq rd_eqI ha hb (nomark _)
theorem dt_eqI {i j : Int} (ha : DE X a S (pi i) S1) (hb : DE X b S1 (pi j) S2) : DT X (.Compare a [.Eq] [b] pos) S (decide (i = j)) S2 := dt_cmp op_eq rd_eqI ha hb (nomark _)
theorem dt_neI {i j : Int} (ha : DE X a S (pi i) S1) (hb : DE X b S1 (pi j) S2) : DT X (.Compare a [.NotEq] [b] pos) S (!decide (i = j)) S2 := dt_cmp op_ne rd_neI ha hb (nomark _)
/-- == of data -/
theorem rd_eqD {d d' : PyData} {K : PySem.W.Frag} (h1 : SeqAt.shaped d = true) (h2 : SeqAt.shaped d' = true) {z : Bool} (hz : PyData.eqv d d' = z) : RD K (rEqD K) (py d) (py d') (fun w => w = pb z) := by
  intro F H L x y Q sat hx hy c
  refine ⟨d, d', (py d).mono sat.ex hx, (py d').mono sat.ex hy, h1, h2, ?_⟩
  rw [hz]
  exact c _ _ F H rfl (Exr F) (sat.dat (.bl _))
theorem rd_neD {d d' : PyData} {K : PySem.W.Frag} (h1 : SeqAt.shaped d = true) (h2 : SeqAt.shaped d' = true) {z : Bool} (hz : (!PyData.eqv d d') = z) : RD K (rNeD K) (py d) (py d') (fun w => w = pb z) := by
  intro F H L x y Q sat hx hy c
  refine ⟨d, d', (py d).mono sat.ex hx, (py d').mono sat.ex hy, h1, h2, ?_⟩
  rw [hz]
  exact c _ _ F H rfl (Exr F) (sat.dat (.bl _))
section
variable {d d' : PyData} {z : Bool} {kk : Nat}
theorem de_eqD (hr : Room kk X.A) (ha : DE X a S (pd d) S1) (hb : DE X b S1 (pd d') S2) (h1 : SeqAt.shaped d = true) (h2 : SeqAt.shaped d' = true) (hz : PyData.eqv d d' = z) : DE X (.Compare a [.Eq] [b] pos) S (pb z) S2 := we_cmp (op_eqD hr.units) (rd_eqD h1 h2 hz) ha hb (nomark _)
theorem de_neD (hr : Room kk X.A) (ha : DE X a S (pd d) S1) (hb : DE X b S1 (pd d') S2) (h1 : SeqAt.shaped d = true) (h2 : SeqAt.shaped d' = true) (hz : (!PyData.eqv d d') = z) : DE X (.Compare a [.NotEq] [b] pos) S (pb z) S2 := we_cmp (op_neD hr.units) (rd_neD h1 h2 hz) ha hb (nomark _)
theorem dt_eqD (hr : Room kk X.A) (ha : DE X a S (pd d) S1) (hb : DE X b S1 (pd d') S2) (h1 : SeqAt.shaped d = true) (h2 : SeqAt.shaped d' = true) (hz : PyData.eqv d d' = z) : DT X (.Compare a [.Eq] [b] pos) S z S2 := dt_cmp (op_eqD hr.units) (rd_eqD h1 h2 hz) ha hb (nomark _)
theorem dt_neD (hr : Room kk X.A) (ha : DE X a S (pd d) S1) (hb : DE X b S1 (pd d') S2) (h1 : SeqAt.shaped d = true) (h2 : SeqAt.shaped d' = true) (hz : (!PyData.eqv d d') = z) : DT X (.Compare a [.NotEq] [b] pos) S z S2 := dt_cmp (op_neD hr.units) (rd_neD h1 h2 hz) ha hb (nomark _)
end
/-! ### is None -/
/-- a value that is not None | is None -/
def isNon (R : Rel) (z : Bool) : Prop := ∀ {K : PySem.W.Frag} {H : Hp} {v : V}, R.r K H v → decide (v = V.non) = z
theorem we_isN {z : Bool} {j p} (ha : DE X a S (.dat R) S1) (h : isNon R z) : DE X (.Compare a [.Is] [.Constant .none j p] pos) S (pb z) S1 :=
  ⟨ha.1, fun Fr F σ H Q hl sat c => (pe_cmp (pc_isN pE)).w (ha.2 Fr F σ H _ hl sat fun w v F2 H2 kw e2 s2 => by
    subst kw
    rw [h s2.hd]
    exact c _ _ F2 H2 rfl e2 (s2.tail.dat (.bl z)))⟩
theorem dt_isN {z : Bool} {j p} (ha : DE X a S (.dat R) S1) (h : isNon R z) : DT X (.Compare a [.Is] [.Constant .none j p] pos) S z S1 :=
  ⟨ha.1, fun Fr F σ H Q hl sat c => (pt_cmp (pc_isN pE)).w (ha.2 Fr F σ H _ hl sat fun w v F2 H2 kw e2 s2 => by
    subst kw
    rw [h s2.hd]
    exact ⟨z, rfl, c F2 H2 e2 s2.tail⟩)⟩
theorem dt_notN {z : Bool} {j p} (ha : DE X a S (.dat R) S1) (h : isNon R (!z)) : DT X (.Compare a [.IsNot] [.Constant .none j p] pos) S z S1 :=
  ⟨ha.1, fun Fr F σ H Q hl sat c => (pt_cmp (pc_notN pE)).w (ha.2 Fr F σ H _ hl sat fun w v F2 H2 kw e2 s2 => by
    subst kw
    rw [h s2.hd, Bool.not_not]
    exact ⟨z, rfl, c F2 H2 e2 s2.tail⟩)⟩
theorem non_none : isNon (py .none) true := fun h => by cases h; rfl
theorem non_tup {ds : List PyData} : isNon (py (.tuple ds)) false := fun h => by cases h; rfl
theorem non_lst {ds : List PyData} : isNon (py (.list ds)) false := fun h => by cases h; rfl
/-! ### tests -/
theorem DT.to {z z' : Bool} (h : DT X e S z S1) (q : z = z') : DT X e S z' S1 := q ▸ h
theorem DE.to {w w' : Slot} (h : DE X e S w S1) (q : w = w') : DE X e S w' S1 := q ▸ h
theorem dt_val {z : Bool} (h : DE X e S (pb z) S1) (he : ∀ whole, isTrue e X.env whole = (do let v ← whole; standAt e.pos; holding [v] (truthy v)) := by intro _; rfl) : DT X e S z S1 :=
  ⟨h.1, fun Fr F σ H Q hl sat c => (pt_val pE he).w (h.2 Fr F σ H _ hl sat fun w v F2 H2 kw e2 s2 => by
    subst kw
    have q := s2.hd
    cases q
    exact ⟨z, rfl, c F2 H2 e2 s2.tail⟩)⟩
theorem DW.t {z : Bool} (h : DW X e S z S1) : DT X e S z S1 := ⟨h.1, fun Fr F σ H Q hl sat c => (pW.pt).w (h.2 Fr F σ H Q hl sat c)⟩
variable {es rest : List Expr}
theorem dw_and1 {z : Bool} (h : DT X a S z S1) : DW X (.BoolOp .And [a] pos) S z S1 := ⟨h.1, fun Fr F σ H Q hl sat c => (pw_and1 pT).w (h.2 Fr F σ H Q hl sat c)⟩
theorem dw_or1 {z : Bool} (h : DT X a S z S1) : DW X (.BoolOp .Or [a] pos) S z S1 := ⟨h.1, fun Fr F σ H Q hl sat c => (pw_or1 pT).w (h.2 Fr F σ H Q hl sat c)⟩
theorem dw_andT {z : Bool} (h : DT X a S true S1) (h2 : DW X (.BoolOp .And (b :: rest) pos) S1 z S2) : DW X (.BoolOp .And (a :: b :: rest) pos) S z S2 :=
  ⟨h2.1.trans h.1, fun Fr F σ H Q hl sat c => (pw_and pT pW).w (h.2 Fr F σ H _ hl sat fun F2 H2 e2 s2 => iteT (h2.2 Fr F2 σ H2 Q (hl.trans h.1.symm) s2 fun F3 H3 e3 s3 => c F3 H3 (Ext e2 e3) s3))⟩
theorem dw_andF (h : DT X a S false S1) : DW X (.BoolOp .And (a :: b :: rest) pos) S false S1 :=
  ⟨h.1, fun Fr F σ H Q hl sat c => (pw_and pT (pW (X := X))).w (h.2 Fr F σ H _ hl sat fun F2 H2 e2 s2 => iteF (c F2 H2 e2 s2))⟩
theorem dw_orF {z : Bool} (h : DT X a S false S1) (h2 : DW X (.BoolOp .Or (b :: rest) pos) S1 z S2) : DW X (.BoolOp .Or (a :: b :: rest) pos) S z S2 :=
  ⟨h2.1.trans h.1, fun Fr F σ H Q hl sat c => (pw_or pT pW).w (h.2 Fr F σ H _ hl sat fun F2 H2 e2 s2 => iteF (h2.2 Fr F2 σ H2 Q (hl.trans h.1.symm) s2 fun F3 H3 e3 s3 => c F3 H3 (Ext e2 e3) s3))⟩
theorem dw_orT (h : DT X a S true S1) : DW X (.BoolOp .Or (a :: b :: rest) pos) S true S1 :=
  ⟨h.1, fun Fr F σ H Q hl sat c => (pw_or pT (pW (X := X))).w (h.2 Fr F σ H _ hl sat fun F2 H2 e2 s2 => iteT (c F2 H2 e2 s2))⟩
theorem dt_not {z : Bool} (h : DT X a S z S1) : DT X (.UnaryOp .Not a pos) S (!z) S1 := ⟨h.1, fun Fr F σ H Q hl sat c => (pt_not pT).w (h.2 Fr F σ H _ hl sat c)⟩
/-! .. as values -/
theorem de_one {op} {k : Slot → Prop} (h : WE X a S k S1) : WE X (.BoolOp op [a] pos) S k S1 := ⟨h.1, fun Fr F σ H Q hl sat c => (pe_one pE).w (h.2 Fr F σ H Q hl sat c)⟩
theorem de_andT (h : DE X a S (pb true) S1) (h2 : WE X (.BoolOp .And (b :: rest) pos) S1 k S2) : WE X (.BoolOp .And (a :: b :: rest) pos) S k S2 :=
  ⟨h2.1.trans h.1, fun Fr F σ H Q hl sat c => (pe_and pE pE).w (h.2 Fr F σ H _ hl sat fun w v F2 H2 kw e2 s2 => by
    subst kw
    have q := s2.hd
    cases q
    exact ⟨true, rfl, iteT (h2.2 Fr F2 σ H2 Q (hl.trans h.1.symm) s2.tail fun w v F3 H3 kw e3 s3 => c w v F3 H3 kw (Ext e2 e3) s3)⟩)⟩
theorem de_andF (h : DE X a S (pb false) S1) : DE X (.BoolOp .And (a :: b :: rest) pos) S (pb false) S1 :=
  ⟨h.1, fun Fr F σ H Q hl sat c => (pe_and pE (pE (X := X))).w (h.2 Fr F σ H _ hl sat fun w v F2 H2 kw e2 s2 => by
    subst kw
    have q := s2.hd
    cases q
    exact ⟨false, rfl, iteF (c _ _ F2 H2 rfl e2 s2)⟩)⟩
theorem de_not {z : Bool} (h : DE X a S (pb z) S1) : DE X (.UnaryOp .Not a pos) S (pb (!z)) S1 :=
  ⟨h.1, fun Fr F σ H Q hl sat c => (pe_not pE).w (h.2 Fr F σ H _ hl sat fun w v F2 H2 kw e2 s2 => by
    subst kw
    have q := s2.hd
    cases q
    exact ⟨z, rfl, c _ _ F2 H2 rfl e2 (s2.tail.dat (.bl _))⟩)⟩
theorem de_ifT (h : DT X c S true S1) (h2 : WE X a S1 k S2) : WE X (.IfExp c a b pos) S k S2 :=
  ⟨h2.1.trans h.1, fun Fr F σ H Q hl sat q => (pe_ifExp pT pE (pE (e := b))).w (h.2 Fr F σ H _ hl sat fun F2 H2 e2 s2 => iteT (h2.2 Fr F2 σ H2 Q (hl.trans h.1.symm) s2 fun w v F3 H3 kw e3 s3 => q w v F3 H3 kw (Ext e2 e3) s3))⟩
theorem de_ifF (h : DT X c S false S1) (h2 : WE X b S1 k S2) : WE X (.IfExp c a b pos) S k S2 :=
  ⟨h2.1.trans h.1, fun Fr F σ H Q hl sat q => (pe_ifExp pT (pE (e := a)) pE).w (h.2 Fr F σ H _ hl sat fun F2 H2 e2 s2 => iteF (h2.2 Fr F2 σ H2 Q (hl.trans h.1.symm) s2 fun w v F3 H3 kw e3 s3 => q w v F3 H3 kw (Ext e2 e3) s3))⟩
/-! ### argument lists -/
theorem da_nil : DA X [] S [] S := ⟨rfl, fun Fr F σ H Q hl sat c => (pa_nil).w (c [] F H rfl (Exr F) sat)⟩
theorem da_cons {ws : List Slot} (h : DE X e S w S1) (hr : DA X es S1 ws S2) (hs : starEach (e :: es) X.env = (false, eval e X.env) :: starEach es X.env := by rfl) : DA X (e :: es) S (w :: ws) S2 :=
  ⟨hr.1.trans h.1, fun Fr F σ H Q hl sat c => (pa_cons pE pA hs).w (h.2 Fr F σ H _ hl sat fun w' v F2 H2 kw e2 s2 => by
    subst kw
    refine hr.2 ((some v, w') :: Fr) F2 σ H2 _ (hl.trans h.1.symm) s2.frame1 fun vs F3 H3 hv e3 s3 => ?_
    refine c (v :: vs) F3 H3 (by rw [List.length_cons, List.length_cons, hv]) (Ext e2 e3) ?_
    refine s3.perm ?_
    show (zc (vs.map some) ws ++ (zc σ S2 ++ ((some v, w') :: Fr))).Perm ((some v, w') :: (zc (vs.map some) ws ++ (zc σ S2 ++ Fr)))
    rw [← List.append_assoc, ← List.append_assoc]
    exact List.perm_middle)⟩
end
end Lh
end
section
set_option Elab.async false
set_option linter.all false
set_option maxRecDepth 100000
set_option maxHeartbeats 2000000
/-! statements, loops, calls -/
namespace Lh
open PySem PySem.Spec PyProof.Rows L2
/-! ### rows of values -/
def Rels (K : PySem.W.Frag) (H : Hp) : List V → List Rel → Prop
  | [], [] => True
  | v :: vs, R :: Rs => R.r K H v ∧ Rels K H vs Rs
  | _, _ => False
section
variable {K : PySem.W.Frag} {H H' F : Hp}
theorem Rels.mono (e : Ex H H') : ∀ {vs : List V} {Rs : List Rel}, Rels K H vs Rs → Rels K H' vs Rs
  | [], [], _ => trivial
  | _ :: _, _ :: _, h => ⟨Rel.mono _ e h.1, Rels.mono e h.2⟩
  | [], _ :: _, h => h.elim
  | _ :: _, [], h => h.elim
theorem Rels.length : ∀ {vs : List V} {Rs : List Rel}, Rels K H vs Rs → vs.length = Rs.length
  | [], [], _ => rfl
  | _ :: _, _ :: _, h => congrArg (· + 1) (Rels.length h.2)
  | [], _ :: _, h => h.elim
  | _ :: _, [], h => h.elim
theorem Rels.get : ∀ {vs : List V} {Rs : List Rel} {i : Nat} {R : Rel}, Rels K H vs Rs → Rs[i]? = some R → ∃ v, vs[i]? = some v ∧ R.r K H v
  | [], [], i, R, _, h => by simp at h
  | v :: vs, R' :: Rs, 0, R, h, e => by
    have e' : R' = R := by simpa using e
    subst e'
    exact ⟨v, rfl, h.1⟩
  | v :: vs, R' :: Rs, i + 1, R, h, e => by
    obtain ⟨u, h1, h2⟩ := Rels.get (i := i) h.2 (by simpa using e)
    refine ⟨u, ?_, h2⟩
    rwa [List.getElem?_cons_succ]
  | [], _ :: _, _, _, h, _ => h.elim
  | _ :: _, [], _, _, h, _ => h.elim
theorem Rels.get' {vs : List V} {Rs : List Rel} {i : Nat} {v : V} (h : Rels K H vs Rs) (e : vs[i]? = some v) : ∃ R, Rs[i]? = some R ∧ R.r K H v := by
  obtain ⟨hi, e1⟩ := List.getElem?_eq_some_iff.mp e
  have hl := h.length
  have e2 : Rs[i]? = some (Rs[i]'(by omega)) := List.getElem?_eq_getElem (by omega)
  obtain ⟨u, e3, r⟩ := h.get e2
  rw [e] at e3
  cases e3
  exact ⟨_, e2, r⟩
theorem Rels.append : ∀ {vs ws : List V} {Rs Ss : List Rel}, Rels K H vs Rs → Rels K H ws Ss → Rels K H (vs ++ ws) (Rs ++ Ss)
  | [], _, [], _, _, h => h
  | _ :: _, _, _ :: _, _, h, h2 => ⟨h.1, Rels.append h.2 h2⟩
  | [], _, _ :: _, _, h, _ => h.elim
  | _ :: _, _, [], _, h, _ => h.elim
theorem Rels.take : ∀ {vs : List V} {Rs : List Rel} (n : Nat), Rels K H vs Rs → Rels K H (vs.take n) (Rs.take n)
  | [], [], n, _ => by simp [Rels]
  | _ :: _, _ :: _, 0, _ => trivial
  | _ :: _, _ :: _, n + 1, h => ⟨h.1, Rels.take n h.2⟩
  | [], _ :: _, _, h => h.elim
  | _ :: _, [], _, h => h.elim
theorem Rels.drop : ∀ {vs : List V} {Rs : List Rel} (n : Nat), Rels K H vs Rs → Rels K H (vs.drop n) (Rs.drop n)
  | [], [], n, _ => by simp [Rels]
  | _ :: _, _ :: _, 0, h => h
  | _ :: _, _ :: _, n + 1, h => Rels.drop n h.2
  | [], _ :: _, _, h => h.elim
  | _ :: _, [], _, h => h.elim
theorem Rels.snoc {vs : List V} {Rs : List Rel} {v : V} {R : Rel} (h : Rels K H vs Rs) (r : R.r K H v) : Rels K H (vs ++ [v]) (Rs ++ [R]) := h.append ⟨r, trivial⟩
theorem Rels.reverse : ∀ {vs : List V} {Rs : List Rel}, Rels K H vs Rs → Rels K H vs.reverse Rs.reverse
  | [], [], _ => trivial
  | _ :: _, _ :: _, h => by
    rw [List.reverse_cons, List.reverse_cons]
    exact (Rels.reverse h.2).snoc h.1
  | [], _ :: _, h => h.elim
  | _ :: _, [], h => h.elim
theorem Rels.rep {vs : List V} {Rs : List Rel} (h : Rels K H vs Rs) : ∀ n : Nat, Rels K H (List.replicate n vs).flatten (List.replicate n Rs).flatten
  | 0 => trivial
  | n + 1 => by
    rw [List.replicate_succ, List.replicate_succ, List.flatten_cons, List.flatten_cons]
    exact h.append (Rels.rep h n)
theorem Rels.eraseIdx : ∀ {vs : List V} {Rs : List Rel} (i : Nat), Rels K H vs Rs → Rels K H (vs.eraseIdx i) (Rs.eraseIdx i)
  | [], [], _, _ => trivial
  | _ :: _, _ :: _, 0, h => h.2
  | _ :: _, _ :: _, i + 1, h => ⟨h.1, Rels.eraseIdx i h.2⟩
  | [], _ :: _, _, h => h.elim
  | _ :: _, [], _, h => h.elim
theorem Rels.dropLast {vs : List V} {Rs : List Rel} (h : Rels K H vs Rs) : Rels K H vs.dropLast Rs.dropLast := by
  rw [List.dropLast_eq_take, List.dropLast_eq_take, h.length]
  exact h.take _
theorem DpAll.rels : ∀ {vs : List V} {ds : List PyData}, DpAll K H vs ds → Rels K H vs (ds.map py)
  | [], [], _ => trivial
  | v :: vs, d :: ds, h => by
    cases h with
    | cons h1 h2 => exact ⟨h1, DpAll.rels h2⟩
  | [], _ :: _, h => by cases h
  | _ :: _, [], h => by cases h
theorem Rels.dp : ∀ {vs : List V} {ds : List PyData}, Rels K H vs (ds.map py) → DpAll K H vs ds
  | [], [], _ => .nil
  | v :: vs, d :: ds, h => .cons h.1 (Rels.dp h.2)
  | [], _ :: _, h => h.elim
  | _ :: _, [], h => h.elim
end
/-- a list, a tuple of such -/
def lstR (Rs : List Rel) : Rel := ⟨fun K H v => ∃ a vs, v = .ref a ∧ H a = some (.lst vs) ∧ Rels K H vs Rs, fun {K H H' v} e h => by
  obtain ⟨a, vs, e1, e2, e3⟩ := h
  exact ⟨a, vs, e1, e _ _ e2, e3.mono e⟩⟩
def tupR (Rs : List Rel) : Rel := ⟨fun K H v => ∃ a vs, v = .ref a ∧ SqT K H a vs ∧ Rels K H vs Rs, fun {K H H' v} e h => by
  obtain ⟨a, vs, e1, e2, e3⟩ := h
  exact ⟨a, vs, e1, Evl.ex_t e e2, e3.mono e⟩⟩
/-- a list that may be read -/
def sqR (Rs : List Rel) : Rel := ⟨fun K H v => ∃ a vs, v = .ref a ∧ SqL K H a vs ∧ Rels K H vs Rs, fun {K H H' v} e h => by
  obtain ⟨a, vs, e1, e2, e3⟩ := h
  exact ⟨a, vs, e1, Evl.ex_l e e2, e3.mono e⟩⟩
def IsL (R : Rel) (Rs : List Rel) : Prop := ∀ {K : PySem.W.Frag} {H : Hp} {v : V}, R.r K H v → (lstR Rs).r K H v
def IsQ (R : Rel) (Rs : List Rel) : Prop := ∀ {K : PySem.W.Frag} {H : Hp} {v : V}, R.r K H v → (sqR Rs).r K H v
def IsT (R : Rel) (Rs : List Rel) : Prop := ∀ {K : PySem.W.Frag} {H : Hp} {v : V}, R.r K H v → (tupR Rs).r K H v
theorem isL_r {Rs : List Rel} : IsL (lstR Rs) Rs := fun h => h
theorem isT_r {Rs : List Rel} : IsT (tupR Rs) Rs := fun h => h
theorem isQ_r {Rs : List Rel} : IsQ (sqR Rs) Rs := fun h => h
theorem IsL.q {R : Rel} {Rs : List Rel} (h : IsL R Rs) : IsQ R Rs := fun q => by
  obtain ⟨a, vs, e1, e2, e3⟩ := h q
  exact ⟨a, vs, e1, SqL.of e2, e3⟩
theorem isQ_l {Rs : List Rel} : IsQ (lstR Rs) Rs := isL_r.q
theorem isT_py {ds : List PyData} : IsT (py (.tuple ds)) (ds.map py) := fun h => by
  cases h with
  | tup hs ha => exact ⟨_, _, rfl, hs, DpAll.rels ha⟩
/-- a list of data -/
abbrev lsR (ds : List PyData) : Rel := lstR (ds.map py)
abbrev pl (ds : List PyData) : Slot := .dat (lsR ds)
theorem lst_py {ds : List PyData} {K : PySem.W.Frag} {H : Hp} {v : V} (h : (lsR ds).r K H v) : (py (.list ds)).r K H v := by
  obtain ⟨a, vs, rfl, e2, e3⟩ := h
  exact .lst (SqL.of e2) (Rels.dp e3)
theorem tup_py {ds : List PyData} {K : PySem.W.Frag} {H : Hp} {v : V} (h : (tupR (ds.map py)).r K H v) : (py (.tuple ds)).r K H v := by
  obtain ⟨a, vs, rfl, e2, e3⟩ := h
  exact .tup e2 (Rels.dp e3)
/-- just this value -/
def at_ (v0 : V) : Rel := ⟨fun _ _ v => v = v0, fun _ h => h⟩
/-- a list that one name alone holds -/
def lstO (p : Addr) (Rs : List Rel) : Own where
  r := fun K F H v f => v = .ref p ∧ (∀ a, f a ↔ a = p) ∧ ∃ vs, H p = some (.lst vs) ∧ Rels K F vs Rs
  keep := fun {K F F' H H' v f} e k h => by
    obtain ⟨e1, e2, vs, e3, e4⟩ := h
    exact ⟨e1, e2, vs, by rw [k p ((e2 p).mpr rfl)]; exact e3, e4.mono e⟩
  live := fun {K F H v f a} h q => by
    obtain ⟨e1, e2, vs, e3, e4⟩ := h
    rw [(e2 a).mp q, e3]
    exact fun z => nomatch z
/-- it is at v0 -/
def Pin (O : Own) (v0 : V) : Prop := ∀ {K : PySem.W.Frag} {F H : Hp} {v : V} {f : Ft}, O.r K F H v f → v = v0
theorem pin_lst {p : Addr} {Rs : List Rel} : Pin (lstO p Rs) (.ref p) := fun h => h.1

section
variable {K : PySem.W.Frag} {F F' H H' : Hp} {L L' : List Cell} {σ : L2.St} {S : List Slot} {Fr : List Cell}
theorem all_sub {L L' : List Cell} (p : L'.Sublist L) : ∀ {f : Ft}, All K F H L f → ∃ f', All K F H L' f' ∧ ∀ a, f' a → f a := by
  induction p with
  | slnil => exact fun h => ⟨_, h, fun _ q => q⟩
  | cons x _ ih =>
    intro f h
    obtain ⟨g, h1, s1, s2, s3, s4⟩ := h
    obtain ⟨f', a, b⟩ := ih s2
    exact ⟨f', a, fun z q => (s4 z).mpr (.inr (b z q))⟩
  | cons_cons x _ ih =>
    intro f h
    obtain ⟨g, h1, s1, s2, s3, s4⟩ := h
    obtain ⟨f', a, b⟩ := ih s2
    refine ⟨fun z => g z ∨ f' z, ⟨g, f', s1, a, fun z q1 q2 => s3 z q1 (b z q2), fun z => Iff.rfl⟩, fun z q => ?_⟩
    rcases q with q | q
    · exact (s4 z).mpr (.inl q)
    · exact (s4 z).mpr (.inr (b z q))
theorem Sat.sub (p : L'.Sublist L) (s : Sat K F H L) : Sat K F H L' := by
  obtain ⟨f, a, b⟩ := s.all
  obtain ⟨f', a', b'⟩ := all_sub p a
  exact ⟨s.ex, f', a', fun z q => b z (b' z q)⟩
theorem zc_take : ∀ (σ : L2.St) (S : List Slot) (n : Nat), zc σ (S.take n) = (zc σ S).take n
  | [], S, n => by simp
  | x :: σ, [], n => by simp
  | x :: σ, y :: S, 0 => rfl
  | x :: σ, y :: S, n + 1 => by
    show (x, y) :: List.zip σ (S.take n) = (x, y) :: (List.zip σ S).take n
    rw [show List.zip σ (S.take n) = (List.zip σ S).take n from zc_take σ S n]
/-- out of a cell that owns nothing -/
theorem Sat.own_of {v : V} {R : Rel} (h : Sat K F H ((some v, .dat R) :: L)) : R.r K F v ∧ Sat K F H L := ⟨h.hd, h.tail⟩
end

/-! ### statements -/
section
variable {X : Cx} {S S1 S2 S3 : List Slot} {a b c e : Expr} {pos : Pos} {k : Slot → Prop} {w0 : Slot} {R R1 R2 R3 : Rel} {st : Stmt} {sts body : List Stmt} {o : Out}
theorem dss_nil : DSs X [] S (.nx S) := ⟨rfl, fun Fr F σ H D hl sat q => pss_nil.w (q σ F H hl (Exr F) sat)⟩
theorem dss_cons (h1 : DS X st S (.nx S1)) (h2 : DSs X sts S1 o) : DSs X (st :: sts) S o := by
  have hl1 : S1.length = S.length := h1.1
  refine ⟨by have := h2.1; rw [hl1] at this; exact this, fun Fr F σ H D hl sat q => (pss_cons pS pSs).w (h1.2 Fr F σ H _ hl sat fun σ1 F1 H1 hl' e1 s1 => ?_)⟩
  refine h2.2 Fr F1 σ1 H1 D (hl'.trans hl1.symm) s1 ?_
  rw [hl1]
  exact q.mono e1
theorem dss_one (h1 : DS X st S o) : DSs X [st] S o := ⟨h1.1, fun Fr F σ H D hl sat q => (pss_one pS).w (h1.2 Fr F σ H D hl sat q)⟩
/-- a return, a continue ahead of the end -/
theorem dss_rt {S'} (h1 : DS X st S (.rt k S')) : DSs X (st :: sts) S (.rt k S') := ⟨h1.1, fun Fr F σ H D hl sat q => (pss_cons pS (pSs (st := sts))).w (h1.2 Fr F σ H _ hl sat q)⟩
theorem dss_ct {S'} (h1 : DS X st S (.ct S')) : DSs X (st :: sts) S (.ct S') := ⟨h1.1, fun Fr F σ H D hl sat q => (pss_cons pS (pSs (st := sts))).w (h1.2 Fr F σ H _ hl sat q)⟩
theorem ds_ct : DS X (.Continue pos) S (.ct S) := ⟨rfl, fun Fr F σ H D hl sat q => ps_continue.w (q σ F H hl (Exr F) sat)⟩
theorem ds_ret (n : Nat) (h : WE X e S k S1) : DS X (.Return (some e) pos) S (.rt k (S1.take n)) :=
  ⟨by show (S1.take n).length ≤ S.length; rw [List.length_take, h.1]; exact Nat.min_le_right _ _, fun Fr F σ H D hl sat q => (ps_ret pE).w (h.2 Fr F σ H _ hl sat fun w v F2 H2 kw e2 s2 => q w v σ F2 H2 kw hl e2 (s2.sub (.cons₂ _ (List.Sublist.append_right (by
    rw [zc_take]
    exact List.take_sublist _ _) _))))⟩
theorem ds_expr (h : WE X e S k S1) (hs : swapsWith e none pos.line X.env = pure false := by rfl) : DS X (.Expr e pos) S (.nx S1) :=
  ⟨h.1, fun Fr F σ H D hl sat q => (ps_expr pE hs).w (h.2 Fr F σ H _ hl sat fun w v F2 H2 kw e2 s2 => q σ F2 H2 hl e2 s2.tail)⟩
theorem ds_ifT (h : DT X c S true S1) (h2 : DSs X sts S1 o) : DS X (.If c sts body pos) S o := by
  refine ⟨by have := h2.1; rw [h.1] at this; exact this, fun Fr F σ H D hl sat q => (ps_if pT pSs (pSs (st := body))).w (h.2 Fr F σ H _ hl sat fun F2 H2 e2 s2 => iteT (h2.2 Fr F2 σ H2 D (hl.trans h.1.symm) s2 ?_))⟩
  rw [h.1]
  exact q.mono e2
theorem ds_ifF (h : DT X c S false S1) (h2 : DSs X sts S1 o) : DS X (.If c body sts pos) S o := by
  refine ⟨by have := h2.1; rw [h.1] at this; exact this, fun Fr F σ H D hl sat q => (ps_if pT (pSs (st := body)) pSs).w (h.2 Fr F σ H _ hl sat fun F2 H2 e2 s2 => iteF (h2.2 Fr F2 σ H2 D (hl.trans h.1.symm) s2 ?_))⟩
  rw [h.1]
  exact q.mono e2
/-- x = e -/
theorem ds_set {x : Str} {pos' : Pos} {w : Slot} (i : Nat) (h : DE X e S w S1) (hN : X.N.Nodup) (hS : S1.set i w = S2 := by rfl) (hi : X.N[i]? = some x := by rfl) (hx : Loc X.env.scope x := by first | exact Or.inl rfl | exact Or.inr rfl) (hlt : i < S1.length := by exact Nat.le_of_ble_eq_true rfl)
    (hs : swapsWith e (some (.Name x pos')) pos.line X.env = pure false := by rfl) (hf : X.fn x = true ∨ X.env.scope.names.lookup x = some .local := by first | exact .inl rfl | exact .inr rfl | assumption) :
    DS X (.Assign [.Name x pos'] e pos) S (.nx S2) := by
  subst hS
  exact ⟨by show (S1.set i w).length = S.length; rw [List.length_set]; exact h.1, fun Fr F σ H D hl sat q => (ps_set hN hi hx pE hs hf).w (h.2 Fr F σ H _ hl sat fun w' v F2 H2 kw e2 s2 => by
    subst kw
    exact q _ F2 H2 (by rw [List.length_set]; exact hl) e2 (s2.store (hl.trans h.1.symm) hlt))⟩
/-- .. of what is new -/
theorem dss_new {x : Str} {pos' : Pos} (i : Nat) (h : WE X e S k S1) (hN : X.N.Nodup) (h2 : ∀ w, k w → DSs X sts (S1.set i w) o) (hok : o.ok S.length) (hi : X.N[i]? = some x := by rfl) (hx : Loc X.env.scope x := by first | exact Or.inl rfl | exact Or.inr rfl) (hlt : i < S1.length := by exact Nat.le_of_ble_eq_true rfl)
    (hs : swapsWith e (some (.Name x pos')) pos.line X.env = pure false := by rfl) (hf : X.fn x = true ∨ X.env.scope.names.lookup x = some .local := by first | exact .inl rfl | exact .inr rfl | assumption) :
    DSs X (.Assign [.Name x pos'] e pos :: sts) S o :=
  ⟨hok, fun Fr F σ H D hl sat q => (pss_cons (ps_set hN hi hx pE hs hf) pSs).w (h.2 Fr F σ H _ hl sat fun w' v F2 H2 kw e2 s2 => by
    have hl1 : (S1.set i w').length = S.length := by rw [List.length_set]; exact h.1
    refine (h2 w' kw).2 Fr F2 (σ.set i (some v)) H2 D (by rw [List.length_set, hl1]; exact hl) (s2.store (hl.trans h.1.symm) hlt) ?_
    rw [hl1]
    exact q.mono e2)⟩
/-- a, b = e1, e2 (names of the def's own) -/
theorem sat_two {K : PySem.W.Frag} {F H : Hp} {v u : V} {w1 w2 : Slot} {σ : L2.St} {Fr : List Cell} {i j : Nat} (hl : σ.length = S.length) (hi : i < S.length) (hj : j < S.length)
    (s : Sat K F H (zc ([v, u].map some) [w1, w2] ++ (zc σ S ++ Fr))) : Sat K F H (zc ((σ.set i (some v)).set j (some u)) ((S.set i w1).set j w2) ++ Fr) := by
  have s1 : Sat K F H ((some v, w1) :: ((some u, w2) :: (zc σ S ++ Fr))) := s
  have s2 : Sat K F H ((some v, w1) :: (zc σ S ++ ((some u, w2) :: Fr))) := s1.perm (List.Perm.cons _ List.perm_middle.symm)
  have s3 := s2.store (i := i) hl hi
  have s4 : Sat K F H ((some u, w2) :: (zc (σ.set i (some v)) (S.set i w1) ++ Fr)) := s3.frame1'
  exact s4.store (i := j) (by rw [List.length_set, List.length_set]; exact hl) (by rw [List.length_set]; exact hj)
theorem ds_par {x y : Str} {w1 w2 : Slot} {px py pt : Pos} {kt k2 pt2} (i j : Nat) (ha : DA X [a, b] S [w1, w2] S1) (hN : X.N.Nodup) (hS : (S1.set i w1).set j w2 = S2 := by rfl) (hc : X.calm = true := by rfl) (hi : X.N[i]? = some x := by rfl) (hj : X.N[j]? = some y := by rfl) (hij : i ≠ j := by decide)
    (hx : X.env.scope.names.lookup x = some .local := by rfl) (hy : X.env.scope.names.lookup y = some .local := by rfl) (h1 : i < S1.length := by exact Nat.le_of_ble_eq_true rfl) (h2 : j < S1.length := by exact Nat.le_of_ble_eq_true rfl)
    (hw : swappedStores [.Tuple [.Name x px, .Name y py] kt pt] (.Tuple [a, b] k2 pt2) X.env = pure (some [x, y]) := by rfl) (hs : swapsWithSole [.Tuple [.Name x px, .Name y py] kt pt] (.Tuple [a, b] k2 pt2) pos.line X.env = pure false := by rfl) :
    DS X (.Assign [.Tuple [.Name x px, .Name y py] kt pt] (.Tuple [a, b] k2 pt2) pos) S (.nx S2) := by
  subst hS
  exact ⟨by show ((S1.set i w1).set j w2).length = S.length; rw [List.length_set, List.length_set]; exact ha.1, fun Fr F σ H D hl sat q => (ps_par hc hN hi hj hij hx hy pA hw hs).w (ha.2 Fr F σ H _ hl sat fun vs F2 H2 hv e2 s2 => by
    match vs, hv with
    | [v, u], _ => exact ⟨v, u, rfl, q _ F2 H2 (by rw [List.length_set, List.length_set]; exact hl) e2 (sat_two (hl.trans ha.1.symm) h1 h2 s2)⟩)⟩

/-! ### targets -/
def wpG (X : Cx) (tg : Expr) : TG := fun v σ H Q => ∀ (pins : List (Addr × Obj)) (s : Shared) (u : Value), Inv X pins σ H s → RelV v u → wpAny (model X.prog X.w) X.A (assign tg X.env u) (fun _ s' => ∃ σ' H', Inv X pins σ' H' s' ∧ Q σ' H') X.xe s
theorem pG {tg : Expr} : PG X tg (wpG X tg) := ⟨fun pins s σ H v u Q I r h => h pins s u I r⟩
theorem _root_.L2.PG.w {tg : Expr} {g : TG} (h : PG X tg g) {v : V} {σ : L2.St} {H : Hp} {Q : L2.St → Hp → Prop} (q : g v σ H Q) : wpG X tg v σ H Q := fun pins s u I r => h.run pins s σ H v u Q I r q
def wpGs (X : Cx) (ts : List Expr) : TGs := fun vs σ H Q => ∀ (pins : List (Addr × Obj)) (s : Shared) (us : List Value), Inv X pins σ H s → Vals vs us → wpAny (model X.prog X.w) X.A (assignInOrder ((assignEach ts X.env).map (·.2)) us) (fun _ s' => ∃ σ' H', Inv X pins σ' H' s' ∧ Q σ' H') X.xe s
theorem pGs {ts : List Expr} : PGs X ts (wpGs X ts) := ⟨fun pins s σ H v u Q I r h => h pins s u I r⟩
theorem _root_.L2.PGs.w {ts : List Expr} {g : TGs} (h : PGs X ts g) {v : List V} {σ : L2.St} {H : Hp} {Q : L2.St → Hp → Prop} (q : g v σ H Q) : wpGs X ts v σ H Q := fun pins s u I r => h.run pins s σ H v u Q I r q
/-- a target is given a value of R -/
def DG (X : Cx) (tg : Expr) (S : List Slot) (R : Rel) (S' : List Slot) : Prop := S'.length = S.length ∧ ∀ (Fr : List Cell) (F : Hp) (σ : L2.St) (H : Hp) (x : V) (Q : L2.St → Hp → Prop), σ.length = S.length → Sat X.K F H (zc σ S ++ Fr) → R.r X.K F x →
  (∀ σ' : L2.St, σ'.length = S.length → Sat X.K F H (zc σ' S' ++ Fr) → Q σ' H) → wpG X tg x σ H Q
def DGs (X : Cx) (ts : List Expr) (S : List Slot) (Rs : List Rel) (S' : List Slot) : Prop := S'.length = S.length ∧ ∀ (Fr : List Cell) (F : Hp) (σ : L2.St) (H : Hp) (xs : List V) (Q : L2.St → Hp → Prop), σ.length = S.length → Sat X.K F H (zc σ S ++ Fr) → Rels X.K F xs Rs →
  (∀ σ' : L2.St, σ'.length = S.length → Sat X.K F H (zc σ' S' ++ Fr) → Q σ' H) → wpGs X ts xs σ H Q
theorem dg_name {x : Str} (i : Nat) (hN : X.N.Nodup) (hS : S.set i (.dat R) = S1 := by rfl) (hi : X.N[i]? = some x := by rfl) (hx : Loc X.env.scope x := by first | exact Or.inl rfl | exact Or.inr rfl) (hlt : i < S.length := by exact Nat.le_of_ble_eq_true rfl) (hf : X.fn x = true ∨ X.env.scope.names.lookup x = some .local := by first | exact .inl rfl | exact .inr rfl | assumption) :
    DG X (.Name x pos) S R S1 := by
  subst hS
  exact ⟨by rw [List.length_set], fun Fr F σ H x Q hl sat hr q => (pg_name hN hi hx hf).w (q _ (by rw [List.length_set]; exact hl) ((sat.dat hr).store hl hlt))⟩
theorem dgs_nil : DGs X [] S [] S := ⟨rfl, fun Fr F σ H xs Q hl sat hr q => by
  match xs, hr with
  | [], _ => exact pgs_nil.w ⟨rfl, q σ hl sat⟩⟩
theorem dgs_cons {t : Expr} {ts : List Expr} {Rs : List Rel} (h1 : DG X t S R S1) (h2 : DGs X ts S1 Rs S2) (hs : (assignEach (t :: ts) X.env).map (·.2) = assign t X.env :: (assignEach ts X.env).map (·.2) := by rfl) : DGs X (t :: ts) S (R :: Rs) S2 :=
  ⟨h2.1.trans h1.1, fun Fr F σ H xs Q hl sat hr q => by
    match xs, hr with
    | x :: xs, hr =>
      exact (pgs_cons pG pGs hs).w ⟨x, xs, rfl, h1.2 Fr F σ H x _ hl sat hr.1 fun σ1 hl1 s1 => h2.2 Fr F σ1 H xs Q (hl1.trans h1.1.symm) s1 hr.2 fun σ2 hl2 s2 => q σ2 (hl2.trans h1.1) s2⟩⟩
theorem dg_tup {ts : List Expr} {kk : Nat} {Rs : List Rel} (h : DGs X ts S Rs S1) (ht : IsT R Rs) (hc : X.calm = true := by rfl) (hn : (assignEach ts X.env).length = Rs.length := by rfl) (hst : (assignEach ts X.env).findIdx? (·.1) = none := by rfl) :
    DG X (.Tuple ts kk pos) S R S1 :=
  ⟨h.1, fun Fr F σ H x Q hl sat hr q => by
    obtain ⟨p, vs, rfl, e2, e3⟩ := ht hr
    exact (pg_tup hc pGs hn hst).w ⟨p, vs, rfl, Evl.ex_t sat.ex e2, e3.length, h.2 Fr F σ H vs Q hl sat e3 q⟩⟩
/-- target = e, the target a tuple of names -/
theorem ds_asg {tg : Expr} (h : DE X e S (.dat R) S1) (hg : DG X tg S1 R S2) (hs : swapsWithSole [tg] e pos.line X.env = pure false := by rfl) (hw : swappedStores [tg] e X.env = pure none := by rfl) (ht : (assignEach [tg] X.env).map (·.2) = [assign tg X.env] := by rfl) : DS X (.Assign [tg] e pos) S (.nx S2) :=
  ⟨hg.1.trans h.1, fun Fr F σ H D hl sat q => (ps_asg pE pG hs hw ht).w (h.2 Fr F σ H _ hl sat fun w v F2 H2 kw e2 s2 => by
    subst kw
    exact hg.2 Fr F2 σ H2 v _ (hl.trans h.1.symm) s2.tail s2.hd fun σ' hl' s' => q σ' F2 H2 (hl'.trans h.1) e2 s')⟩
/-- x += e -/
theorem ds_aug {i : Nat} {x : Str} {pos' : Pos} {op : Operator} {ti : TIp} (h : DE X e S (.dat R) S1) (ho : PIp X op ti) (hN : X.N.Nodup) (hS : S[i]? = some (.dat R1)) (hS1 : S1[i]? = some (.dat R1))
    (hr : ∀ (F H : Hp) (L : List Cell) (x y : V) (Q : VK), Sat X.K F H L → R1.r X.K F x → R.r X.K F y → (∀ (v : V) (F2 H2 : Hp), Ex F F2 → Sat X.K F2 H2 ((some v, .dat R2) :: L) → Q v H2) → ti x y H Q)
    (hi : X.N[i]? = some x := by rfl) (hx : Loc X.env.scope x := by first | exact Or.inl rfl | exact Or.inr rfl) (hlt : i < S1.length := by exact Nat.le_of_ble_eq_true rfl)
    (hf : X.fn x = true ∨ X.env.scope.names.lookup x = some .local := by first | exact .inl rfl | exact .inr rfl | assumption) : DS X (.AugAssign (.Name x pos') op e pos) S (.nx (S1.set i (.dat R2))) :=
  ⟨by show (S1.set i _).length = S.length; rw [List.length_set]; exact h.1, fun Fr F σ H D hl sat q => by
    obtain ⟨v0, h1, h2⟩ := sat.var hl hS
    refine (ps_aug hN hi hx pE ho hf).w ⟨v0, h1, h.2 Fr F σ H _ hl sat fun w v F2 H2 kw e2 s2 => ?_⟩
    subst kw
    refine hr F2 H2 _ v0 v _ s2.tail (R1.mono e2 h2) s2.hd fun v3 F3 H3 e3 s3 => ?_
    exact q _ F3 H3 (by rw [List.length_set]; exact hl) (Ext e2 e3) (s3.store (hl.trans h.1.symm) hlt)⟩
theorem ip_mul : PIp X .Mult (fun x y H Q => ∃ i j, x = .int i ∧ y = .int j ∧ CMul i j ∧ Q (.int (i * j)) H) := by
  exact fun pins s σ H x y => iop_mul pins s σ H x y
theorem ds_augAdd {x : Str} {pos' : Pos} {z j : Int} (i : Nat) (h : DE X e S (pi j) S1) (hN : X.N.Nodup) (hS : S[i]? = some (pi z)) (hS1 : S1[i]? = some (pi z)) (hi : X.N[i]? = some x := by rfl) (hx : Loc X.env.scope x := by first | exact Or.inl rfl | exact Or.inr rfl) (hlt : i < S1.length := by exact Nat.le_of_ble_eq_true rfl)
    (hf : X.fn x = true ∨ X.env.scope.names.lookup x = some .local := by first | exact .inl rfl | exact .inr rfl | assumption) (hS2 : S1.set i (pi (z + j)) = S2 := by rfl) : DS X (.AugAssign (.Name x pos') .Add e pos) S (.nx S2) :=
  hS2 ▸ ds_aug h ip_add hN hS hS1 (fun F H L x y Q sat hx hy c => by
    cases hx
    cases hy
    exact ⟨_, _, rfl, rfl, c _ F H (Exr F) (sat.dat (.int _))⟩) hi hx hlt hf
theorem ds_augMul {x : Str} {pos' : Pos} {z j : Int} (i : Nat) (h : DE X e S (pi j) S1) (hN : X.N.Nodup) (hS : S[i]? = some (pi z)) (hS1 : S1[i]? = some (pi z)) (hm : CMul z j) (hi : X.N[i]? = some x := by rfl) (hx : Loc X.env.scope x := by first | exact Or.inl rfl | exact Or.inr rfl) (hlt : i < S1.length := by exact Nat.le_of_ble_eq_true rfl)
    (hf : X.fn x = true ∨ X.env.scope.names.lookup x = some .local := by first | exact .inl rfl | exact .inr rfl | assumption) (hS2 : S1.set i (pi (z * j)) = S2 := by rfl) : DS X (.AugAssign (.Name x pos') .Mult e pos) S (.nx S2) :=
  hS2 ▸ ds_aug h ip_mul hN hS hS1 (fun F H L x y Q sat hx hy c => by
    cases hx
    cases hy
    exact ⟨_, _, rfl, rfl, hm, c _ F H (Exr F) (sat.dat (.int _))⟩) hi hx hlt hf

/-! ### loops -/
def wpI (X : Cx) (tg it : Expr) : TI := fun σ H R => ∀ (pins : List (Addr × Obj)) (s : Shared), Inv X pins σ H s → wpAny (model X.prog X.w) X.A (eval it X.env) (fun v s1 => wpAny (model X.prog X.w) X.A (pyIter v) (PIE X pins σ tg R) X.xe s1) X.xe s
theorem pI {tg it : Expr} : PI X tg it (wpI X tg it) := ⟨fun pins s σ H R I h => h pins s I⟩
theorem _root_.L2.PI.w {tg it : Expr} {t : TI} (h : PI X tg it t) {σ : L2.St} {H : Hp} {R : It → Hp → Prop} (q : t σ H R) : wpI X tg it σ H R := fun pins s I => h.run pins s σ H R I q
/-- what is walked gives Rs, one after another -/
def DI (X : Cx) (tg it : Expr) (S : List Slot) (Rs : List Rel) (S' : List Slot) : Prop := S'.length = S.length ∧ ∀ (Fr : List Cell) (F : Hp) (σ : L2.St) (H : Hp) (R : It → Hp → Prop), σ.length = S.length → Sat X.K F H (zc σ S ++ Fr) →
  (∀ (J : It) (F2 H2 : Hp) (G : Hp → Prop) (Y : Nat → Hp → V → Hp → Prop), Ex F F2 → Sat X.K F2 H2 (zc σ S' ++ Fr) → Walk J Rs.length G Y → (∀ F3 H3, Ex F2 F3 → Ex F3 H3 → G H3) →
    (∀ (i : Nat) (H3 : Hp) (x : V) (H' F3 : Hp) (L : List Cell), i < Rs.length → Ex F2 F3 → Sat X.K F3 H3 L → Y i H3 x H' → ∃ F4 R, Ex F3 F4 ∧ Sat X.K F4 H' L ∧ Rs[i]? = some R ∧ R.r X.K F4 x) → R J H2) → wpI X tg it σ H R
theorem di_lst {tg it : Expr} {Rs : List Rel} (h : DE X it S (.dat R) S1) (hL : IsQ R Rs) : DI X tg it S Rs S1 :=
  ⟨h.1, fun Fr F σ H Q hl sat c => (pi_list pE).w (h.2 Fr F σ H _ hl sat fun w v F2 H2 kw e2 s2 => by
    subst kw
    obtain ⟨a, vs, rfl, hq, hr⟩ := hL s2.hd
    have hlen := hr.length
    refine ⟨a, rfl, ⟨vs, Evl.ex_l s2.ex hq⟩, c _ F2 H2 _ _ e2 s2.tail (hlen ▸ walk_list (xs := vs)) (fun F3 H3 e3 e4 => Evl.ex_l (Ext e3 e4) hq) fun i H3 x H' F3 L hi e3 s3 y => ?_⟩
    obtain ⟨rfl, hx⟩ := y
    obtain ⟨R', h1, h2⟩ := hr.get' hx
    exact ⟨F3, R', Exr F3, s3, h1, R'.mono e3 h2⟩)⟩
theorem di_tup {tg it : Expr} {Rs : List Rel} (h : DE X it S (.dat R) S1) (hL : IsT R Rs) : DI X tg it S Rs S1 :=
  ⟨h.1, fun Fr F σ H Q hl sat c => (pi_tup pE).w (h.2 Fr F σ H _ hl sat fun w v F2 H2 kw e2 s2 => by
    subst kw
    obtain ⟨a, vs, rfl, hq, hr⟩ := hL s2.hd
    have hlen := hr.length
    refine ⟨a, rfl, ⟨vs, Evl.ex_t s2.ex hq⟩, c _ F2 H2 _ _ e2 s2.tail (hlen ▸ walk_tup (xs := vs)) (fun F3 H3 e3 e4 => Evl.ex_t (Ext e3 e4) hq) fun i H3 x H' F3 L hi e3 s3 y => ?_⟩
    obtain ⟨rfl, hx⟩ := y
    obtain ⟨R', h1, h2⟩ := hr.get' hx
    exact ⟨F3, R', Exr F3, s3, h1, R'.mono e3 h2⟩)⟩
/-- the numbers from lo on -/
def nums (lo : Int) (n : Nat) : List Rel := (List.range n).map fun (i : Nat) => py (.int (lo + (i : Int)))
theorem nums_len (lo : Int) (n : Nat) : (nums lo n).length = n := by unfold nums; rw [List.length_map, List.length_range]
theorem nums_get {lo : Int} {n i : Nat} (h : i < n) : (nums lo n)[i]? = some (py (.int (lo + (i : Int)))) := by
  unfold nums
  rw [List.getElem?_map, List.getElem?_range h]
  rfl
theorem nums_of {lo : Int} {n i : Nat} {R : Rel} (h : (nums lo n)[i]? = some R) : i < n ∧ R = py (.int (lo + (i : Int))) := by
  have hi : i < n := by
    have h1 := (List.getElem?_eq_some_iff.mp h).1
    rw [nums_len] at h1
    exact h1
  rw [nums_get hi] at h
  exact ⟨hi, (Option.some.inj h).symm⟩
theorem di_range1 {tg : Expr} {p : Pos} {z : Int} (hm : X.mg "range" = none) (ha : DE X a S (pi z) S1) (hz : -(2 ^ 62) ≤ z ∧ z < 2 ^ 62) (hg : Gl X "range" := by rfl) (hst : starEach [a] X.env = [(false, eval a X.env)] := by rfl) : DI X tg (.Call (.Name "range" p) [a] [] pos) S (nums 0 z.toNat) S1 :=
  ⟨ha.1, fun Fr F σ H Q hl sat c => (pi_range1 hg hm pA hst).w ((da_cons ha da_nil (by exact hst)).2 Fr F σ H _ hl sat fun vs F2 H2 hv e2 s2 => by
    match vs, hv with
    | [v], _ =>
      have s3 : Sat X.K F2 H2 ((some v, pi z) :: (zc σ S1 ++ Fr)) := s2
      have hd := s3.hd
      cases hd
      refine ⟨z, rfl, hz.1, hz.2, c _ F2 H2 _ _ e2 s3.tail (by rw [nums_len]; exact walk_range (lo := 0) (n := z.toNat)) (fun _ _ _ _ => trivial) fun i H3 x H' F3 L hi e3 s4 y => ?_⟩
      obtain ⟨rfl, rfl⟩ := y
      rw [nums_len] at hi
      exact ⟨F3, _, Exr F3, s4, nums_get hi, .int _⟩)⟩
theorem di_range2 {tg : Expr} {p : Pos} {lo z : Int} (hm : X.mg "range" = none) (ha : DE X a S (pi lo) S1) (hb : DE X b S1 (pi z) S2) (hlo : -(2 ^ 62) ≤ lo ∧ lo < 2 ^ 62) (hz : -(2 ^ 62) ≤ z ∧ z < 2 ^ 62) (hg : Gl X "range" := by rfl) (hst : starEach [a, b] X.env = [(false, eval a X.env), (false, eval b X.env)] := by rfl)
    (hst2 : starEach [b] X.env = [(false, eval b X.env)] := by rfl) : DI X tg (.Call (.Name "range" p) [a, b] [] pos) S (nums lo (z - lo).toNat) S2 :=
  ⟨hb.1.trans ha.1, fun Fr F σ H Q hl sat c => (pi_range2 hg hm pA hst hst2).w ((da_cons ha (da_cons hb da_nil (by exact hst2)) (by rw [hst2]; exact hst)).2 Fr F σ H _ hl sat fun vs F2 H2 hv e2 s2 => by
    match vs, hv with
    | [v, u], _ =>
      have s3 : Sat X.K F2 H2 ((some v, pi lo) :: ((some u, pi z) :: (zc σ S2 ++ Fr))) := s2
      have hd := s3.hd
      cases hd
      have hd2 := s3.tail.hd
      cases hd2
      refine ⟨lo, z, rfl, ⟨hlo.1, hlo.2, hz.1, hz.2⟩, c _ F2 H2 _ _ e2 s3.tail.tail (by rw [nums_len]; exact walk_range (lo := lo) (n := (z - lo).toNat)) (fun _ _ _ _ => trivial) fun i H3 x H' F3 L hi e3 s4 y => ?_⟩
      obtain ⟨rfl, rfl⟩ := y
      rw [nums_len] at hi
      exact ⟨F3, _, Exr F3, s4, nums_get hi, .int _⟩)⟩
/-- enumerate(list) -/
def enumR (Rs : List Rel) : List Rel := (List.range Rs.length).map fun (i : Nat) => tupR [py (.int (i : Int)), Rs.getD i (py .none)]
theorem enumR_len (Rs : List Rel) : (enumR Rs).length = Rs.length := by unfold enumR; rw [List.length_map, List.length_range]
theorem enumR_get {Rs : List Rel} {i : Nat} {R : Rel} (h : Rs[i]? = some R) : (enumR Rs)[i]? = some (tupR [py (.int (i : Int)), R]) := by
  have hi := (List.getElem?_eq_some_iff.mp h).1
  unfold enumR
  rw [List.getElem?_map, List.getElem?_range hi]
  show some (tupR [_, Rs.getD i (py .none)]) = _
  rw [List.getD_eq_getElem?_getD, h]
  rfl
theorem enumR_of {Rs : List Rel} {i : Nat} {R : Rel} (h : (enumR Rs)[i]? = some R) : ∃ R', Rs[i]? = some R' ∧ R = tupR [py (.int (i : Int)), R'] := by
  have hi : i < Rs.length := by
    have h1 := (List.getElem?_eq_some_iff.mp h).1
    rw [enumR_len] at h1
    exact h1
  have e := List.getElem?_eq_getElem hi
  rw [enumR_get e] at h
  exact ⟨_, e, (Option.some.inj h).symm⟩
theorem di_pair {Rs : List Rel} {vs : List V} {F2 F3 H3 H' : Hp} {L : List Cell} {x : V} {i : Nat} {K : PySem.W.Frag} (hr : Rels K F2 vs Rs) (e3 : Ex F2 F3) (s4 : Sat K F3 H3 L) (y : YPair (fun i => some (.int (i : Nat))) (fun i => vs[i]?) i H3 x H') :
    ∃ F4 R, Ex F3 F4 ∧ Sat K F4 H' L ∧ (enumR Rs)[i]? = some R ∧ R.r K F4 x := by
  obtain ⟨T, x1, x2, rfl, hT, rfl, e1, e2⟩ := y
  cases e1
  obtain ⟨R', h1, h2⟩ := hr.get' e2
  have hF := s4.fresh hT
  exact ⟨_, _, Exn hF, s4.lay hT, enumR_get h1, T, _, rfl, SqT.of upd_same, .int _, R'.mono (Ext e3 (Exn hF)) h2, trivial⟩
theorem di_enumL {tgs : List Expr} {kk : Nat} {tpos p : Pos} {Rs : List Rel} (hm : X.mg "enumerate" = none) (h : DE X a S (.dat R) S1) (hL : IsQ R Rs) (hg : Gl X "enumerate" := by rfl) (hst : starEach [a] X.env = [(false, eval a X.env)] := by rfl) : DI X (.Tuple tgs kk tpos) (.Call (.Name "enumerate" p) [a] [] pos) S (enumR Rs) S1 :=
  ⟨h.1, fun Fr F σ H Q hl sat c => (pi_enum hg hm pA hst).w ((da_cons h da_nil (by exact hst)).2 Fr F σ H _ hl sat fun vs F2 H2 hv e2 s2 => by
    match vs, hv with
    | [v], _ =>
      have s3 : Sat X.K F2 H2 ((some v, .dat R) :: (zc σ S1 ++ Fr)) := s2
      obtain ⟨a, vs, rfl, hq, hr⟩ := hL s3.hd
      have hlen := hr.length
      exact ⟨a, vs, rfl, Evl.ex_l s3.ex hq, c _ F2 H2 _ _ e2 s3.tail (by rw [enumR_len, ← hlen]; exact walk_enum (xs := vs)) (fun F3 H3 e3 e4 => Evl.ex_l (Ext e3 e4) hq) fun i H3 x H' F3 L hi e3 s4 y => di_pair hr e3 s4 y⟩)⟩
theorem ds_for {tg it : Expr} {Rs : List Rel} (St : Nat → List Slot) (hi : DI X tg it S Rs (St 0)) (hb : ∀ i R, Rs[i]? = some R → ∃ S1, DG X tg (St i) R S1 ∧ (DSs X body S1 (.nx (St (i + 1))) ∨ DSs X body S1 (.ct (St (i + 1)))))
    (hc : X.calm = true := by rfl) (hp : PassesOwn (model X.prog X.w) X.A X.env X.xe := by exact PassesOwn.never) (hs : ∀ x, foldedSetIterable it X.env x = pure x := by intro _; rfl) : DS X (.For tg it body [] pos) S (.nx (St Rs.length)) := by
  have hlen : ∀ i, i ≤ Rs.length → (St i).length = S.length := by
    intro i
    induction i with
    | zero => exact fun _ => hi.1
    | succ i ih =>
      intro h
      obtain ⟨S1, h1, h2⟩ := hb i _ (List.getElem?_eq_getElem (by omega))
      have h3 := ih (by omega)
      rcases h2 with h2 | h2
      · exact (show (St (i + 1)).length = S1.length from h2.1).trans (h1.1.trans h3)
      · exact (show (St (i + 1)).length = S1.length from h2.1).trans (h1.1.trans h3)
  refine ⟨hlen _ (Nat.le_refl _), fun Fr F σ H D hl sat q => (ps_for hp hc pI pG pSs hs).w (hi.2 Fr F σ H _ hl sat fun J F2 H2 G Y e2 s2 wk hG hY => ?_)⟩
  refine for_it wk (fun i σ' H' => σ'.length = S.length ∧ ∃ F', Ex F2 F' ∧ Sat X.K F' H' (zc σ' (St i) ++ Fr)) ⟨hl, F2, Exr F2, s2⟩ (fun i σ' H' _ ⟨_, F', e', s'⟩ => hG F' H' e' s'.ex) (fun i x σ' H3 H' hlt ⟨hl', F', e', s'⟩ y => ?_) fun σ' H' ⟨hl', F', e', s'⟩ => q σ' F' H' hl' (Ext e2 e') s'
  obtain ⟨F4, R4, e4, s4, hR, hx⟩ := hY i H3 x H' F' _ hlt e' s' y
  obtain ⟨S1, h1, h2⟩ := hb i _ hR
  have hli := hlen i (by omega)
  refine h1.2 Fr F4 σ' H' x _ (hl'.trans hli.symm) s4 hx fun σ5 hl5 s5 => ?_
  have hS1 : S1.length = S.length := h1.1.trans hli
  rcases h2 with h2 | h2
  · refine h2.2 Fr F4 σ5 H' _ (hl5.trans h1.1.symm) s5 fun σ6 F6 H6 hl6 e6 s6 => ⟨hl6.trans hS1, F6, Ext e' (Ext e4 e6), s6⟩
  · refine h2.2 Fr F4 σ5 H' _ (hl5.trans h1.1.symm) s5 fun σ6 F6 H6 hl6 e6 s6 => ⟨hl6.trans hS1, F6, Ext e' (Ext e4 e6), s6⟩
theorem ds_forS {tg it : Expr} {Rs : List Rel} {Sf : List Slot} (St : Nat → List Slot) (hi : DI X tg it S Rs (St 0)) (hb : ∀ i R, Rs[i]? = some R → ∃ S1, DG X tg (St i) R S1 ∧ (DSs X body S1 (.nx (St (i + 1))) ∨ DSs X body S1 (.ct (St (i + 1))))) (he : St Rs.length = Sf)
    (hc : X.calm = true := by rfl) (hp : PassesOwn (model X.prog X.w) X.A X.env X.xe := by exact PassesOwn.never) (hs : ∀ x, foldedSetIterable it X.env x = pure x := by intro _; rfl) : DS X (.For tg it body [] pos) S (.nx Sf) := he ▸ ds_for St hi hb hc hp hs
/-- .. that returns at turn n -/
theorem ds_for_rt {tg it : Expr} {Rs : List Rel} {S' : List Slot} (n : Nat) (St : Nat → List Slot) (hi : DI X tg it S Rs (St 0)) (hb : ∀ i R, i < n → Rs[i]? = some R → ∃ S1, DG X tg (St i) R S1 ∧ (DSs X body S1 (.nx (St (i + 1))) ∨ DSs X body S1 (.ct (St (i + 1)))))
    (hn : n < Rs.length) (hr : ∀ R, Rs[n]? = some R → ∃ S1, DG X tg (St n) R S1 ∧ DSs X body S1 (.rt k S'))
    (hc : X.calm = true := by rfl) (hp : PassesOwn (model X.prog X.w) X.A X.env X.xe := by exact PassesOwn.never) (hs : ∀ x, foldedSetIterable it X.env x = pure x := by intro _; rfl) : DS X (.For tg it body [] pos) S (.rt k S') := by
  have hlen : ∀ i, i ≤ n → (St i).length = S.length := by
    intro i
    induction i with
    | zero => exact fun _ => hi.1
    | succ i ih =>
      intro h
      obtain ⟨S1, h1, h2⟩ := hb i _ (by omega) (List.getElem?_eq_getElem (by omega))
      have h3 := ih (by omega)
      rcases h2 with h2 | h2
      · exact (show (St (i + 1)).length = S1.length from h2.1).trans (h1.1.trans h3)
      · exact (show (St (i + 1)).length = S1.length from h2.1).trans (h1.1.trans h3)
  have hok : S'.length ≤ S.length := by
    obtain ⟨S1, h1, h2⟩ := hr _ (List.getElem?_eq_getElem hn)
    have h3 : S'.length ≤ S1.length := h2.1
    have h4 := hlen n (Nat.le_refl _)
    have h5 := h1.1
    omega
  refine ⟨hok, fun Fr F σ H D hl sat q => (ps_for hp hc pI pG pSs hs).w (hi.2 Fr F σ H _ hl sat fun J F2 H2 G Y e2 s2 wk hG hY => ?_)⟩
  refine for_it wk (fun i σ' H' => i ≤ n ∧ σ'.length = S.length ∧ ∃ F', Ex F2 F' ∧ Sat X.K F' H' (zc σ' (St i) ++ Fr)) ⟨Nat.zero_le _, hl, F2, Exr F2, s2⟩ (fun i σ' H' _ ⟨_, _, F', e', s'⟩ => hG F' H' e' s'.ex) (fun i x σ' H3 H' hlt ⟨hin, hl', F', e', s'⟩ y => ?_) fun σ' H' ⟨hin, _⟩ => absurd hin (by omega)
  obtain ⟨F4, R4, e4, s4, hR, hx⟩ := hY i H3 x H' F' _ hlt e' s' y
  have hli := hlen i hin
  by_cases hi' : i < n
  · obtain ⟨S1, h1, h2⟩ := hb i _ hi' hR
    refine h1.2 Fr F4 σ' H' x _ (hl'.trans hli.symm) s4 hx fun σ5 hl5 s5 => ?_
    have hS1 : S1.length = S.length := h1.1.trans hli
    rcases h2 with h2 | h2
    · refine h2.2 Fr F4 σ5 H' _ (hl5.trans h1.1.symm) s5 fun σ6 F6 H6 hl6 e6 s6 => ⟨hi', hl6.trans hS1, F6, Ext e' (Ext e4 e6), s6⟩
    · refine h2.2 Fr F4 σ5 H' _ (hl5.trans h1.1.symm) s5 fun σ6 F6 H6 hl6 e6 s6 => ⟨hi', hl6.trans hS1, F6, Ext e' (Ext e4 e6), s6⟩
  · have e : i = n := by omega
    subst e
    obtain ⟨S1, h1, h2⟩ := hr _ hR
    refine h1.2 Fr F4 σ' H' x _ (hl'.trans hli.symm) s4 hx fun σ5 hl5 s5 => ?_
    exact h2.2 Fr F4 σ5 H' _ (hl5.trans h1.1.symm) s5 fun w v σ6 F6 H6 kw hl6 e6 s6 => q w v σ6 F6 H6 kw (hl6.trans (h1.1.trans hli)) (Ext e2 (Ext e' (Ext e4 e6))) s6
theorem ds_while {Sf : List Slot} (n : Nat) (St : Nat → List Slot) (hb : ∀ i, i < n → ∃ S1, DT X c (St i) true S1 ∧ DSs X body S1 (.nx (St (i + 1)))) (he : DT X c (St n) false Sf)
    (hp : PassesOwn (model X.prog X.w) X.A X.env X.xe := by exact PassesOwn.never) : DS X (.While c body [] pos) (St 0) (.nx Sf) := by
  have hlen : ∀ i, i ≤ n → (St i).length = (St 0).length := by
    intro i
    induction i with
    | zero => exact fun _ => rfl
    | succ i ih =>
      intro h
      obtain ⟨S1, h1, h2⟩ := hb i (by omega)
      exact (show (St (i + 1)).length = S1.length from h2.1).trans (h1.1.trans (ih (by omega)))
  refine ⟨he.1.trans (hlen n (Nat.le_refl _)), fun Fr F σ H D hl sat q => (ps_while hp pT pSs).w ?_⟩
  refine ⟨fun m σ' H' => ∃ i, m = n - i ∧ i ≤ n ∧ σ'.length = (St 0).length ∧ ∃ F', Ex F F' ∧ Sat X.K F' H' (zc σ' (St i) ++ Fr), ⟨n, 0, rfl, Nat.zero_le _, hl, F, Exr F, sat⟩, ?_⟩
  rintro m σ' H' ⟨i, rfl, hin, hl', F', e', s'⟩
  have hli := hlen i hin
  by_cases hi' : i < n
  · obtain ⟨S1, h1, h2⟩ := hb i hi'
    refine h1.2 Fr F' σ' H' _ (hl'.trans hli.symm) s' fun F2 H2 e2 s2 => iteT ?_
    refine ⟨fun σ3 H3 => σ3.length = (St 0).length ∧ ∃ F3, Ex F F3 ∧ Sat X.K F3 H3 (zc σ3 (St (i + 1)) ++ Fr), fun σ3 H3 ⟨hl3, F3, e3, s3⟩ => ⟨n - (i + 1), by omega, i + 1, rfl, hi', hl3, F3, e3, s3⟩, ?_⟩
    refine h2.2 Fr F2 σ' H2 _ (hl'.trans (hli.symm.trans h1.1.symm)) s2 fun σ3 F3 H3 hl3 e3 s3 => ⟨hl3.trans (h1.1.trans hli), F3, Ext e' (Ext e2 e3), s3⟩
  · have e : i = n := by omega
    subst e
    exact he.2 Fr F' σ' H' _ (hl'.trans hli.symm) s' fun F2 H2 e2 s2 => iteF (q σ' F2 H2 hl' (Ext e' e2) s2)
end
end Lh
end
section
set_option Elab.async false
set_option linter.all false
set_option maxRecDepth 100000
set_option maxHeartbeats 2000000
/-! contracts and calls, rows -/
namespace Lh
open PySem PySem.Spec PyProof.Rows L2
/-! the contract of a def -/
abbrev Pre := List Slot → (Slot → Prop) → List Slot → Prop
/-- one answer for each of I -/
def PreD {I : Type} (c : I → Prop) (a : I → List Slot) (r : I → Slot) : Pre := fun as k as' => ∃ i, c i ∧ as = a i ∧ k = (fun w => w = r i) ∧ as' = []
def spD (K : PySem.W.Frag) (pre : Pre) : Sp := fun vs H Q _ => ∃ (as : List Slot) (k : Slot → Prop) (as' : List Slot) (Fr : List Cell) (F : Hp), pre as k as' ∧ vs.length = as.length ∧ Sat K F H (zc (vs.map some) as ++ Fr) ∧
  ∀ (w : Slot) (v : V) (σ' : L2.St) (F2 H2 : Hp), k w → as'.length ≤ σ'.length → Ex F F2 → Sat K F2 H2 ((some v, w) :: (zc σ' as' ++ Fr)) → Q v H2
structure FnC (P : Program) (w : World) (K : PySem.W.Frag) (mg : Str → Option Value) (base : Heap) (kk : Nat) (x : Str) (pre : Pre) : Prop where
  ex : ∃ (f : Addr) (fd : FuncData) (ps : List Str), mg x = some (.ref f) ∧ PySem.W.keepIn K (.ref f) = true ∧ Binds K fd ps [] ∧ FnOk P w K mg base CX0 kk f fd ps (spD K pre)
theorem FnC.mono {P : Program} {w : World} {K : PySem.W.Frag} {mg : Str → Option Value} {base : Heap} {j kk : Nat} {x : Str} {pre : Pre} (F : FnC P w K mg base j x pre) (h : j ≤ kk) : FnC P w K mg base kk x pre := by
  obtain ⟨f, fd, ps, a, b, c, d⟩ := F.ex
  exact ⟨f, fd, ps, a, b, c, d.mono h⟩
theorem sat_start {K : PySem.W.Frag} {F H : Hp} {Fr : List Cell} : ∀ {vs : List V} {as : List Slot} (m : Nat), vs.length = as.length → Sat K F H (zc (vs.map some) as ++ Fr) → Sat K F H (zc (vs.map some ++ List.replicate m none) (as ++ List.replicate m .no) ++ Fr) := by
  intro vs as m hl h
  have e : zc (vs.map some ++ List.replicate m none) (as ++ List.replicate m .no) = zc (vs.map some) as ++ List.replicate m (none, Slot.no) := by
    show List.zip _ _ = List.zip _ _ ++ _
    rw [List.zip_append (by rw [List.length_map]; exact hl), List.zip_replicate, Nat.min_self]
  rw [e, List.append_assoc]
  have p : ((List.replicate m ((none, Slot.no) : Cell)) ++ (zc (vs.map some) as ++ Fr)).Perm (zc (vs.map some) as ++ (List.replicate m (none, Slot.no) ++ Fr)) := by
    rw [← List.append_assoc, ← List.append_assoc]
    exact List.perm_append_comm.append_right Fr
  refine Sat.perm p ?_
  clear p e
  induction m with
  | zero => exact h
  | succ m ih => exact ih.no
section
variable {P : Program} {w : World} {K : PySem.W.Frag} {mg : Str → Option Value} {base : Heap}
/-- the body's place -/
abbrev bx (P : Program) (w : World) (K : PySem.W.Frag) (mg : Str → Option Value) (base : Heap) (N : List Str) (qual : Str) (sc : Scope) (f : Addr) (cdv : Value) (A : Around) (outer : List Env) (s : Shared) (H : Hp) (E : XK) : Cx := (cxOf CX0 P w K mg base N qual sc f cdv A outer s H E).nox
theorem FnC.ofBody {x : Str} {qual : Str} {pa : Arguments} {bd : List Stmt} {sc : Scope} {f : Addr} {fd : FuncData} {N ps : List Str} {kk : Nat} {pre : Pre} (F : FunD K x qual pa bd sc [] [] f fd) (S : FnScope N ps sc) (hm : mg x = some (.ref f))
    (hb : ∀ (kV doc pm : Value) (an : Option Addr) (cdv ct : Value) (us : List Value), us.length = ps.length → bindArgs (PySem.W.fnOf x qual pa bd sc .none kV doc pm an cdv ct) ⟨us, []⟩ = pure (ps.zip us))
    (hlen : ∀ as k as', pre as k as' → as.length = ps.length)
    (body : ∀ (cdv : Value) (A : Around) (outer : List Env) (s : Shared) (H : Hp) (E : XK), Room kk (A.deeper (envOfC qual sc s.heap.objs.size f cdv)) → ∀ as k as', pre as k as' →
      DSs (bx P w K mg base N qual sc f cdv A outer s H E) bd (as ++ List.replicate (N.length - as.length) .no) (.rt k as')) : FnC P w K mg base (kk + 1) x pre := by
  refine ⟨f, fd, ps, hm, F.kp, F.bindsN hb, F.ok S (fun vs H Q E h => ?_) (fun cdv A outer s H vs Q E hr h => ?_)⟩
  · obtain ⟨as, k, as', Fr, F0, h1, h2, _⟩ := h
    rw [h2]
    exact hlen as k as' h1
  · obtain ⟨as, k, as', Fr, F0, h1, h2, h3, h4⟩ := h
    have b := body cdv A outer s H E hr as k as' h1
    refine ⟨wpSs _ bd, PSs.nox pSs, ?_⟩
    have hN : ps.length ≤ N.length := by
      have := congrArg List.length S.pre
      rw [List.length_take] at this
      omega
    have hl : (L2.start N vs).length = (as ++ List.replicate (N.length - as.length) Slot.no).length := by
      unfold L2.start
      rw [List.length_append, List.length_append, List.length_map, List.length_replicate, List.length_replicate, h2]
    refine b.2 Fr F0 (L2.start N vs) H _ hl ?_ fun w v σ' F2 H2 kw hl2 e2 s2 => h4 w v σ' F2 H2 kw (by rw [hl2]; exact b.1) e2 s2
    unfold L2.start
    rw [h2]
    exact sat_start _ h2 h3
end
section
variable {X : Cx} {S S1 S2 S3 : List Slot} {a b c e : Expr} {es : List Expr} {pos p : Pos} {k : Slot → Prop} {R R1 R2 R3 : Rel} {Rs : List Rel} {x : Str} {pre : Pre} {as as' : List Slot} {kk : Nat}
/-- f(e, ..) -/
theorem we_call (F : FnC X.prog X.w X.K X.mg X.base kk x pre) (hr : Room kk X.A) (ha : DA X (e :: es) S as S1) (hp : pre as k as') (hg : Gl X x := by rfl) (hdb : (x == ("__debug__" : Str)) = false := by decide)
    (he : starEach (e :: es) X.env = (false, eval e X.env) :: starEach es X.env := by rfl) (hpl : (backTo pos (starEach es X.env)).any (·.1) = false := by rfl) : WE X (.Call (.Name x p) (e :: es) [] pos) S k S1 := by
  obtain ⟨f, fd, ps, hm, hk, hb, hF⟩ := F.ex
  refine ⟨ha.1, fun Fr F σ H Q hl sat c => (pe_call hF hr hg hm hk hb .nil pass0 pA hdb he hpl).w ?_⟩
  refine ha.2 Fr F σ H _ hl sat fun vs F2 H2 hv e2 s2 => ?_
  show spD X.K pre (vs ++ []) H2 Q E0
  rw [List.append_nil]
  refine ⟨as, k, as', zc σ S1 ++ Fr, F2, hp, hv, s2, fun w v σ' F3 H3 kw hl3 e3 s3 => c w v F3 H3 kw (Ext e2 e3) (s3.sub (.cons_cons _ (List.sublist_append_right _ _)))⟩
/-- a name gives away what it holds -/
theorem de_own {i : Nat} {y : Str} {O : Own} {v0 : V} (hS : S[i]? = some (.own O)) (hpin : Pin O v0) (hN : X.N[i]? = some y := by rfl) (hv : Vis X.env.scope y := by first | exact Or.inl rfl | exact Or.inr (Or.inl rfl) | exact Or.inr (Or.inr rfl)) (hd : (y == ("__debug__" : Str)) = false := by decide)
    (hcd : (y == ("__classdict__" : Str)) = false := by decide) : DE X (.Name y pos) S (.own O) (S.set i (.dat (at_ v0))) := by
  refine ⟨List.length_set, fun Fr F σ H Q hl sat c => ?_⟩
  obtain ⟨ov, h1, h2⟩ := zc_get hl hS
  have s1 := sat.perm (zc_out Fr hl hS h1)
  obtain ⟨g, ⟨v, rfl, hO⟩, _, _⟩ := s1.upd
  have ev := hpin hO
  subst ev
  have hi : i < S.length := (List.getElem?_eq_some_iff.mp hS).1
  have e0 : σ.set i (some v) = σ := by
    refine List.ext_getElem? fun j => ?_
    by_cases hj : i = j
    · subst hj
      rw [List.getElem?_set_self (by omega), h1]
    · rw [List.getElem?_set_ne hj]
  refine (pe_var hN hv hd hcd).w ⟨v, h1, c _ v F H rfl (Exr F) ?_⟩
  -- the cell ahead, the name's own cell told anew
  have s2 : Sat X.K F H ((some v, .dat (at_ v)) :: ((some v, .own O) :: ((zc σ S).eraseIdx i ++ Fr))) := s1.dat rfl
  have s3 := s2.perm (List.Perm.swap _ _ _)
  have s4 : Sat X.K F H (((some v, .own O) :: ((some v, .dat (at_ v)) :: ((zc σ S).eraseIdx i ++ Fr)))) := s3
  have q := (zc_in (.dat (at_ v)) (some v) Fr hl hi).cons (some v, Slot.own O)
  have s5 := s4.perm q
  rw [e0] at s5
  exact s5
/-- f(.., name, ..) that gives back what it was given -/
theorem we_callB {i : Nat} {O : Own} {v0 : V} (F : FnC X.prog X.w X.K X.mg X.base kk x pre) (hr : Room kk X.A) (ha : DA X (e :: es) S as S1) (hp : pre as k as') (j : Nat) (hj : as'[j]? = some (.own O)) (hpin : Pin O v0) (hS : S1[i]? = some (.dat (at_ v0))) (hg : Gl X x := by rfl) (hdb : (x == ("__debug__" : Str)) = false := by decide)
    (he : starEach (e :: es) X.env = (false, eval e X.env) :: starEach es X.env := by rfl) (hpl : (backTo pos (starEach es X.env)).any (·.1) = false := by rfl) : WE X (.Call (.Name x p) (e :: es) [] pos) S k (S1.set i (.own O)) := by
  obtain ⟨f, fd, ps, hm, hk, hb, hF⟩ := F.ex
  refine ⟨by rw [List.length_set]; exact ha.1, fun Fr F σ H Q hl sat c => (pe_call hF hr hg hm hk hb .nil pass0 pA hdb he hpl).w ?_⟩
  refine ha.2 Fr F σ H _ hl sat fun vs F2 H2 hv e2 s2 => ?_
  show spD X.K pre (vs ++ []) H2 Q E0
  rw [List.append_nil]
  have hl1 : σ.length = S1.length := hl.trans ha.1.symm
  have sA : Sat X.K F2 H2 (zc σ S1 ++ Fr) := s2.sub (List.sublist_append_right _ _)
  obtain ⟨u, hu, hu2⟩ := sA.var hl1 hS
  have hu3 : u = v0 := hu2
  subst hu3
  refine ⟨as, k, as', zc σ S1 ++ Fr, F2, hp, hv, s2, fun w v σ' F3 H3 kw hl3 e3 s3 => c w v F3 H3 kw (Ext e2 e3) ?_⟩
  have hj' : j < as'.length := (List.getElem?_eq_some_iff.mp hj).1
  have hz : (zc σ' as')[j]? = some (σ'[j]'(by omega), .own O) := by
    have h0 : j < (List.zip σ' as').length := by
      rw [List.length_zip]
      omega
    show (List.zip σ' as')[j]? = _
    rw [List.getElem?_eq_getElem h0, List.getElem_zip]
    have := (List.getElem?_eq_some_iff.mp hj).2
    rw [this]
  have s4 : Sat X.K F3 H3 ((some v, w) :: ((σ'[j]'(by omega), .own O) :: (zc σ S1 ++ Fr))) := by
    refine s3.sub (.cons_cons _ ?_)
    have h5 : [(σ'[j]'(by omega), Slot.own O)].Sublist (zc σ' as') := List.singleton_sublist.mpr (List.mem_of_getElem? hz)
    exact h5.append_right _
  have s5 := s4.perm (List.Perm.swap _ _ _)
  have s6 : Sat X.K F3 H3 ((σ'[j]'(by omega), .own O) :: ((some v, w) :: (zc σ S1 ++ Fr))) := s5
  obtain ⟨g, ⟨v2, hv2, hO⟩, _⟩ := s6.upd
  have ev := hpin hO
  rw [hv2, ev] at s6
  have s7 : Sat X.K F3 H3 ((some u, .own O) :: (zc σ S1 ++ ((some v, w) :: Fr))) := s6.perm (List.Perm.cons _ List.perm_middle.symm)
  have hi : i < S1.length := (List.getElem?_eq_some_iff.mp hS).1
  have s8 := s7.store (i := i) hl1 hi
  have e0 : σ.set i (some u) = σ := by
    refine List.ext_getElem? fun m => ?_
    by_cases hm' : i = m
    · subst hm'
      rw [List.getElem?_set_self (by omega), hu]
    · rw [List.getElem?_set_ne hm']
  rw [e0] at s8
  exact s8.frame1'
/-! ### built-ins by their values -/
/-- what a call does to data -/
def RC (K : PySem.W.Frag) (r : List V → Hp → VK → Prop) (as : List Slot) (k : Slot → Prop) : Prop :=
  ∀ (F H : Hp) (L : List Cell) (xs : List V) (Q : VK), xs.length = as.length → Sat K F H (zc (xs.map some) as ++ L) → (∀ (w : Slot) (v : V) (F2 H2 : Hp), k w → Ex F F2 → Sat K F2 H2 ((some v, w) :: L) → Q v H2) → r xs H Q
theorem we_B {id : String} {r : List V → Hp → VK → Prop} (hc : CallR X (.builtin id) r) (rc : RC X.K r as k) (hm : X.mg x = none) (hv : bootBuiltins x = some (.builtin id)) (ha : DA X (e :: es) S as S1) (hg : Gl X x := by rfl) (hn : x ≠ "__name__" := by decide) (hdb : (x == ("__debug__" : Str)) = false := by decide)
    (hs : starEach (e :: es) X.env = (false, eval e X.env) :: starEach es X.env := by rfl) (hpl : (backTo pos (starEach es X.env)).any (·.1) = false := by rfl) : WE X (.Call (.Name x p) (e :: es) [] pos) S k S1 :=
  ⟨ha.1, fun Fr F σ H Q hl sat c => (pe_callB hc hg hm hv pA hn hdb hs hpl).w (ha.2 Fr F σ H _ hl sat fun vs F2 H2 hl2 e2 s2 => rc F2 H2 _ vs Q hl2 s2 fun w v F3 H3 kw e3 s3 => c w v F3 H3 kw (Ext e2 e3) s3)⟩
theorem we_T {T : String} {r : List V → Hp → VK → Prop} (hc : CallR X (.type T) r) (rc : RC X.K r as k) (hm : X.mg x = none) (hv : bootBuiltins x = some (.type T)) (ha : DA X (e :: es) S as S1) (hg : Gl X x := by rfl) (hn : x ≠ "__name__" := by decide) (hdb : (x == ("__debug__" : Str)) = false := by decide)
    (hs : starEach (e :: es) X.env = (false, eval e X.env) :: starEach es X.env := by rfl) (hpl : (backTo pos (starEach es X.env)).any (·.1) = false := by rfl) : WE X (.Call (.Name x p) (e :: es) [] pos) S k S1 :=
  ⟨ha.1, fun Fr F σ H Q hl sat c => (pe_callTy hc hg hm hv pA hn hdb hs hpl).w (ha.2 Fr F σ H _ hl sat fun vs F2 H2 hl2 e2 s2 => rc F2 H2 _ vs Q hl2 s2 fun w v F3 H3 kw e3 s3 => c w v F3 H3 kw (Ext e2 e3) s3)⟩
theorem rc1 {K : PySem.W.Frag} {r : List V → Hp → VK → Prop} (h : ∀ (F H : Hp) (L : List Cell) (x : V) (Q : VK), Sat K F H L → R.r K F x → (∀ (w : Slot) (v : V) (F2 H2 : Hp), k w → Ex F F2 → Sat K F2 H2 ((some v, w) :: L) → Q v H2) → r [x] H Q) : RC K r [.dat R] k := by
  intro F H L xs Q hl sat c
  match xs, hl with
  | [x], _ =>
    have s : Sat K F H ((some x, .dat R) :: L) := sat
    exact h F H L x Q s.tail s.hd c
theorem rc2 {K : PySem.W.Frag} {r : List V → Hp → VK → Prop} (h : ∀ (F H : Hp) (L : List Cell) (x y : V) (Q : VK), Sat K F H L → R.r K F x → R1.r K F y → (∀ (w : Slot) (v : V) (F2 H2 : Hp), k w → Ex F F2 → Sat K F2 H2 ((some v, w) :: L) → Q v H2) → r [x, y] H Q) : RC K r [.dat R, .dat R1] k := by
  intro F H L xs Q hl sat c
  match xs, hl with
  | [x, y], _ =>
    have s : Sat K F H ((some x, .dat R) :: ((some y, .dat R1) :: L)) := sat
    exact h F H L x y Q s.tail.tail s.hd s.tail.hd c
theorem da1 {w : Slot} (h : DE X a S w S1) (hs : starEach [a] X.env = (false, eval a X.env) :: starEach [] X.env := by rfl) : DA X [a] S [w] S1 := da_cons h da_nil hs
theorem da2 {w w' : Slot} (h : DE X a S w S1) (h2 : DE X b S1 w' S2) (hs : starEach [a, b] X.env = (false, eval a X.env) :: starEach [b] X.env := by rfl) (hs2 : starEach [b] X.env = (false, eval b X.env) :: starEach [] X.env := by rfl) : DA X [a, b] S [w, w'] S2 := da_cons h (da1 h2 hs2) hs
theorem da3 {w w' w'' : Slot} (h : DE X a S w S1) (h2 : DE X b S1 w' S2) (h3 : DE X c S2 w'' S3) (hs : starEach [a, b, c] X.env = (false, eval a X.env) :: starEach [b, c] X.env := by rfl) (hs2 : starEach [b, c] X.env = (false, eval b X.env) :: starEach [c] X.env := by rfl)
    (hs3 : starEach [c] X.env = (false, eval c X.env) :: starEach [] X.env := by rfl) : DA X [a, b, c] S [w, w', w''] S3 := da_cons h (da2 h2 h3 hs2 hs3) hs
/-! len -/
theorem de_lenQ (hm : X.mg "len" = none) (h : DE X a S (.dat R) S1) (hq : IsQ R Rs) (hg : Gl X "len" := by rfl) (hs : starEach [a] X.env = (false, eval a X.env) :: starEach [] X.env := by rfl) : DE X (.Call (.Name "len" p) [a] [] pos) S (pi (Rs.length : Nat)) S1 :=
  we_B call_len_seq (rc1 fun F H L x Q sat hr c => by
    obtain ⟨q, vs, rfl, e1, e2⟩ := hq hr
    refine ⟨q, vs, rfl, .inl (Evl.ex_l sat.ex e1), c _ _ F H rfl (Exr F) (sat.dat ?_)⟩
    rw [e2.length]
    exact .int _) hm PySem.boot_len (da1 h hs) hg (hs := hs)
theorem de_lenT (hm : X.mg "len" = none) (h : DE X a S (.dat R) S1) (hq : IsT R Rs) (hg : Gl X "len" := by rfl) (hs : starEach [a] X.env = (false, eval a X.env) :: starEach [] X.env := by rfl) : DE X (.Call (.Name "len" p) [a] [] pos) S (pi (Rs.length : Nat)) S1 :=
  we_B call_len_seq (rc1 fun F H L x Q sat hr c => by
    obtain ⟨q, vs, rfl, e1, e2⟩ := hq hr
    refine ⟨q, vs, rfl, .inr (Evl.ex_t sat.ex e1), c _ _ F H rfl (Exr F) (sat.dat ?_)⟩
    rw [e2.length]
    exact .int _) hm PySem.boot_len (da1 h hs) hg (hs := hs)
theorem de_len {ds : List PyData} (hm : X.mg "len" = none) (h : DE X a S (pl ds) S1) (hg : Gl X "len" := by rfl) (hs : starEach [a] X.env = (false, eval a X.env) :: starEach [] X.env := by rfl) : DE X (.Call (.Name "len" p) [a] [] pos) S (pi (ds.length : Nat)) S1 :=
  (de_lenQ hm h isQ_l hg hs).to (by rw [List.length_map])
theorem de_lent {ds : List PyData} (hm : X.mg "len" = none) (h : DE X a S (pd (.tuple ds)) S1) (hg : Gl X "len" := by rfl) (hs : starEach [a] X.env = (false, eval a X.env) :: starEach [] X.env := by rfl) : DE X (.Call (.Name "len" p) [a] [] pos) S (pi (ds.length : Nat)) S1 :=
  (de_lenT hm h isT_py hg hs).to (by rw [List.length_map])
/-! items -/
theorem atI_map {α β : Type} {f : α → β} {xs : List α} {i : Int} {v : α} (h : atI xs i = some v) : atI (xs.map f) i = some (f v) := by
  unfold atI at h ⊢
  rw [List.length_map]
  cases at0 : ixN xs.length i with
  | none => exact nomatch at0 ▸ h
  | some j =>
    rw [at0] at h
    show (xs.map f)[j]? = _
    have h' : xs[j]? = some v := h
    rw [List.getElem?_map, h']
    rfl
theorem Rels.at {K : PySem.W.Frag} {H : Hp} {vs : List V} {i : Int} (h : Rels K H vs Rs) (e : atI Rs i = some R) : ∃ v, atI vs i = some v ∧ R.r K H v := by
  unfold atI at e ⊢
  rw [h.length]
  cases at0 : ixN Rs.length i with
  | none => exact nomatch at0 ▸ e
  | some j =>
    rw [at0] at e
    obtain ⟨v, h1, h2⟩ := h.get (i := j) e
    exact ⟨v, h1, h2⟩
theorem rd_ixQ {K : PySem.W.Frag} {i : Int} (hq : IsQ R Rs) (hi : atI Rs i = some R1) : RD K (rIxL K) R (py (.int i)) (fun w => w = .dat R1) := by
  intro F H L x y Q sat hx hy c
  cases hy
  obtain ⟨q, vs, rfl, e1, e2⟩ := hq hx
  obtain ⟨v, h1, h2⟩ := e2.at hi
  exact ⟨q, vs, i, v, rfl, rfl, Evl.ex_l sat.ex e1, h1, c _ _ F H rfl (Exr F) (sat.dat h2)⟩
theorem rd_ixT {K : PySem.W.Frag} {i : Int} (hq : IsT R Rs) (hi : atI Rs i = some R1) : RD K (rIxT K) R (py (.int i)) (fun w => w = .dat R1) := by
  intro F H L x y Q sat hx hy c
  cases hy
  obtain ⟨q, vs, rfl, e1, e2⟩ := hq hx
  obtain ⟨v, h1, h2⟩ := e2.at hi
  exact ⟨q, vs, i, v, rfl, rfl, Evl.ex_t sat.ex e1, h1, c _ _ F H rfl (Exr F) (sat.dat h2)⟩
theorem de_ixQ {i : Int} (ha : DE X a S (.dat R) S1) (hq : IsQ R Rs) (hb : DE X b S1 (pi i) S2) (hi : atI Rs i = some R1) (hs : PlainIx b := by exact fun _ _ => rfl) : DE X (.Subscript a b pos) S (.dat R1) S2 := we_ix ix_list (rd_ixQ hq hi) ha hb hs
theorem de_ixT {i : Int} (ha : DE X a S (.dat R) S1) (hq : IsT R Rs) (hb : DE X b S1 (pi i) S2) (hi : atI Rs i = some R1) (hs : PlainIx b := by exact fun _ _ => rfl) : DE X (.Subscript a b pos) S (.dat R1) S2 := we_ix ix_tup (rd_ixT hq hi) ha hb hs
theorem de_ix {ds : List PyData} {d : PyData} {i : Int} (ha : DE X a S (pl ds) S1) (hb : DE X b S1 (pi i) S2) (hi : atI ds i = some d) (hs : PlainIx b := by exact fun _ _ => rfl) : DE X (.Subscript a b pos) S (pd d) S2 := de_ixQ ha isQ_l hb (atI_map hi) hs
theorem de_ixt {ds : List PyData} {d : PyData} {i : Int} (ha : DE X a S (pd (.tuple ds)) S1) (hb : DE X b S1 (pi i) S2) (hi : atI ds i = some d) (hs : PlainIx b := by exact fun _ _ => rfl) : DE X (.Subscript a b pos) S (pd d) S2 := de_ixT ha isT_py hb (atI_map hi) hs
/-! slices -/
def cutG {α : Type} (xs : List α) (lo hi : Option Int) : List α := (xs.drop (HT.sIx xs.length 0 lo)).take (HT.sIx xs.length xs.length hi - HT.sIx xs.length 0 lo)
theorem cutG_map {α β : Type} {f : α → β} (xs : List α) (lo hi : Option Int) : cutG (xs.map f) lo hi = (cutG xs lo hi).map f := by
  unfold cutG
  rw [List.length_map, List.map_take, List.map_drop]
theorem Rels.cut {K : PySem.W.Frag} {H : Hp} {vs : List V} (h : Rels K H vs Rs) (lo hi : Option Int) : Rels K H (cutV vs lo hi) (cutG Rs lo hi) := by
  unfold cutV cutG
  rw [h.length]
  exact (h.drop _).take _
/-- a part of a slice -/
def DP (X : Cx) (e : Option Expr) (S : List Slot) (o : Option Int) (S' : List Slot) : Prop := ∃ t, PO X e t ∧ S'.length = S.length ∧ ∀ (Fr : List Cell) (F : Hp) (σ : L2.St) (H : Hp) (Q : Option Int → Hp → Prop), σ.length = S.length → Sat X.K F H (zc σ S ++ Fr) →
  (∀ (F2 H2 : Hp), Ex F F2 → Sat X.K F2 H2 (zc σ S' ++ Fr) → Q o H2) → t σ H Q
theorem dp_no : DP X none S none S := ⟨_, po_none, rfl, fun Fr F σ H Q hl sat c => c F H (Exr F) sat⟩
theorem dp_int {i : Int} (h : DE X a S (pi i) S1) : DP X (some a) S (some i) S1 := ⟨_, po_some pE, h.1, fun Fr F σ H Q hl sat c => h.2 Fr F σ H _ hl sat fun w v F2 H2 kw e2 s2 => by
  subst kw
  have hd := s2.hd
  cases hd
  exact ⟨i, rfl, c F2 H2 e2 s2.tail⟩⟩
theorem we_slice {r : V → Option Int → Option Int → Hp → VK → Prop} {lo hi : Option Expr} {ol oh : Option Int} {p2 : Pos} (hr : SlR X r) (ha : DE X a S (.dat R) S1) (hl : DP X lo S1 ol S2) (hh : DP X hi S2 oh S3)
    (rs : ∀ (F H : Hp) (L : List Cell) (x : V) (Q : VK), Sat X.K F H L → R.r X.K F x → (∀ (w : Slot) (v : V) (F2 H2 : Hp), k w → Ex F F2 → Sat X.K F2 H2 ((some v, w) :: L) → Q v H2) → r x ol oh H Q) : WE X (.Subscript a (.Slice lo hi none p2) pos) S k S3 := by
  obtain ⟨t1, p1, l1, h1⟩ := hl
  obtain ⟨t2, p2, l2, h2⟩ := hh
  refine ⟨l2.trans (l1.trans ha.1), fun Fr F σ H Q hl sat c => (pe_slice hr pE p1 p2).w (ha.2 Fr F σ H _ hl sat fun w v F2 H2 kw e2 s2 => ?_)⟩
  subst kw
  refine h1 Fr F2 σ H2 _ (hl.trans ha.1.symm) s2.tail fun F3 H3 e3 s3 => ?_
  refine h2 Fr F3 σ H3 _ (hl.trans (ha.1.symm.trans l1.symm)) s3 fun F4 H4 e4 s4 => ?_
  exact rs F4 H4 _ v Q s4 (R.mono (Ext e3 e4) s2.hd) fun w v F5 H5 kw e5 s5 => c w v F5 H5 kw (Ext e2 (Ext e3 (Ext e4 e5))) s5
theorem de_slQ {lo hi : Option Expr} {ol oh : Option Int} {p2 : Pos} (ha : DE X a S (.dat R) S1) (hq : IsQ R Rs) (hl : DP X lo S1 ol S2) (hh : DP X hi S2 oh S3) : DE X (.Subscript a (.Slice lo hi none p2) pos) S (.dat (lstR (cutG Rs ol oh))) S3 :=
  we_slice sl_list ha hl hh fun F H L x Q sat hx c => by
    obtain ⟨q, vs, rfl, e1, e2⟩ := hq hx
    refine ⟨q, vs, rfl, Evl.ex_l sat.ex e1, fun p hp => c _ _ _ _ rfl (Exn (sat.fresh hp)) ((sat.lay hp).dat ⟨p, _, rfl, upd_same, (e2.cut _ _).mono (Exn (sat.fresh hp))⟩)⟩
theorem de_slT {lo hi : Option Expr} {ol oh : Option Int} {p2 : Pos} (ha : DE X a S (.dat R) S1) (hq : IsT R Rs) (hl : DP X lo S1 ol S2) (hh : DP X hi S2 oh S3) : DE X (.Subscript a (.Slice lo hi none p2) pos) S (.dat (tupR (cutG Rs ol oh))) S3 :=
  we_slice sl_tupA ha hl hh fun F H L x Q sat hx c => by
    obtain ⟨q, vs, rfl, e1, e2⟩ := hq hx
    refine ⟨q, vs, rfl, Evl.ex_t sat.ex e1, fun hw => c _ _ F H rfl (Exr F) (sat.dat ⟨q, vs, rfl, e1, ?_⟩), fun _ p hp => c _ _ _ _ rfl (Exn (sat.fresh hp)) ((sat.lay hp).dat ⟨p, _, rfl, SqT.of upd_same, (e2.cut _ _).mono (Exn (sat.fresh hp))⟩)⟩
    have e3 : cutG Rs ol oh = Rs := by
      unfold cutG
      rw [e2.length] at hw
      rw [hw.1, hw.2, List.drop_zero, Nat.sub_zero, List.take_length]
    rw [e3]
    exact e2
theorem de_sl {ds : List PyData} {lo hi : Option Expr} {ol oh : Option Int} {p2 : Pos} (ha : DE X a S (pl ds) S1) (hl : DP X lo S1 ol S2) (hh : DP X hi S2 oh S3) : DE X (.Subscript a (.Slice lo hi none p2) pos) S (pl (cutG ds ol oh)) S3 := (de_slQ ha isQ_l hl hh).to (by rw [cutG_map])
theorem de_slt {ds : List PyData} {lo hi : Option Expr} {ol oh : Option Int} {p2 : Pos} (ha : DE X a S (pd (.tuple ds)) S1) (hl : DP X lo S1 ol S2) (hh : DP X hi S2 oh S3) : DE X (.Subscript a (.Slice lo hi none p2) pos) S (pd (.tuple (cutG ds ol oh))) S3 :=
  (de_slT ha isT_py hl hh).conv fun h => by
    rw [cutG_map] at h
    exact tup_py h
/-! + and * -/
theorem de_catL {Rs' : List Rel} (ha : DE X a S (.dat (lstR Rs)) S1) (hb : DE X b S1 (.dat (lstR Rs')) S2) (hz : Rs.length + Rs'.length ≤ sizeLine) : DE X (.BinOp a .Add b pos) S (.dat (lstR (Rs ++ Rs'))) S2 :=
  we_op op_cat (fun F H L x y Q sat hx hy c => by
    obtain ⟨q, vs, rfl, e1, e2⟩ := hx
    obtain ⟨q', vs', rfl, e1', e2'⟩ := hy
    exact ⟨q, q', vs, vs', rfl, rfl, sat.ex _ _ e1, sat.ex _ _ e1', by rw [e2.length, e2'.length]; exact hz, fun p hp => c _ _ _ _ rfl (Exn (sat.fresh hp)) ((sat.lay hp).dat ⟨p, _, rfl, upd_same, (e2.append e2').mono (Exn (sat.fresh hp))⟩)⟩) ha hb
theorem de_cat {ds ds' : List PyData} (ha : DE X a S (pl ds) S1) (hb : DE X b S1 (pl ds') S2) (hz : ds.length + ds'.length ≤ sizeLine) : DE X (.BinOp a .Add b pos) S (pl (ds ++ ds')) S2 := (de_catL ha hb (by rw [List.length_map, List.length_map]; exact hz)).to (by show _ = Slot.dat (lstR _); rw [List.map_append])
theorem de_catT {Rs' : List Rel} (ha : DE X a S (.dat R) S1) (hq : IsT R Rs) (hb : DE X b S1 (.dat R1) S2) (hq' : IsT R1 Rs') (hz : Rs.length + Rs'.length ≤ sizeLine) : DE X (.BinOp a .Add b pos) S (.dat (tupR (Rs ++ Rs'))) S2 :=
  we_op op_catA (fun F H L x y Q sat hx hy c => by
    obtain ⟨q, vs, rfl, e1, e2⟩ := hq hx
    obtain ⟨q', vs', rfl, e1', e2'⟩ := hq' hy
    refine ⟨q, q', vs, vs', rfl, rfl, Evl.ex_t sat.ex e1, Evl.ex_t sat.ex e1', by rw [e2.length, e2'.length]; exact hz, fun h0 => c _ _ F H rfl (Exr F) (sat.dat ⟨q', vs', rfl, e1', ?_⟩), fun _ h0 => c _ _ F H rfl (Exr F) (sat.dat ⟨q, vs, rfl, e1, ?_⟩), fun _ _ p hp => c _ _ _ _ rfl (Exn (sat.fresh hp)) ((sat.lay hp).dat ⟨p, _, rfl, SqT.of upd_same, (e2.append e2').mono (Exn (sat.fresh hp))⟩)⟩
    · have h3 := e2.append e2'
      rw [h0] at h3
      exact h3
    · have h3 := e2.append e2'
      rw [h0, List.append_nil] at h3
      exact h3) ha hb
theorem de_catt {ds ds' : List PyData} (ha : DE X a S (pd (.tuple ds)) S1) (hb : DE X b S1 (pd (.tuple ds')) S2) (hz : ds.length + ds'.length ≤ sizeLine) : DE X (.BinOp a .Add b pos) S (pd (.tuple (ds ++ ds'))) S2 :=
  (de_catT ha isT_py hb isT_py (by rw [List.length_map, List.length_map]; exact hz)).conv fun h => by
    rw [← List.map_append] at h
    exact tup_py h
theorem de_rep {ds : List PyData} {n : Int} (ha : DE X a S (pl ds) S1) (hb : DE X b S1 (pi n) S2) (hn : -(2 ^ 63) ≤ n ∧ n < 2 ^ 63) (hz : ds.length * n.toNat ≤ sizeLine) : DE X (.BinOp a .Mult b pos) S (pl (List.replicate n.toNat ds).flatten) S2 :=
  we_op op_rep (fun F H L x y Q sat hx hy c => by
    obtain ⟨q, vs, rfl, e1, e2⟩ := hx
    cases hy
    have hlen := e2.length
    rw [List.length_map] at hlen
    refine ⟨q, n, vs, rfl, rfl, sat.ex _ _ e1, hn.1, hn.2, by rw [hlen]; exact hz, fun p hp => c _ _ _ _ rfl (Exn (sat.fresh hp)) ((sat.lay hp).dat ⟨p, _, rfl, upd_same, ?_⟩)⟩
    have h3 := (e2.rep n.toNat).mono (Exn (o := .lst (List.replicate n.toNat vs).flatten) (sat.fresh hp))
    rw [← List.map_replicate, ← List.map_flatten] at h3
    exact h3) ha hb
/-! displays -/
theorem zc_dats {K : PySem.W.Frag} {F H : Hp} {L : List Cell} : ∀ {vs : List V} {Rs : List Rel}, vs.length = Rs.length → Sat K F H (zc (vs.map some) (Rs.map .dat) ++ L) → Rels K F vs Rs ∧ Sat K F H L
  | [], [], _, s => ⟨trivial, s⟩
  | v :: vs, R :: Rs, h, s => by
    have s' : Sat K F H ((some v, .dat R) :: (zc (vs.map some) (Rs.map .dat) ++ L)) := s
    obtain ⟨h1, h2⟩ := zc_dats (by simpa using h) s'.tail
    exact ⟨⟨s'.hd, h1⟩, h2⟩
theorem de_tupR {x1} (h : DA X es S (Rs.map .dat) S1) (hz : Rs.length ≤ sizeLine) : DE X (.Tuple es x1 pos) S (.dat (tupR Rs)) S1 :=
  ⟨h.1, fun Fr F σ H Q hl sat c => (pe_tup pA).w (h.2 Fr F σ H _ hl sat fun vs F2 H2 hv e2 s2 => by
    rw [List.length_map] at hv
    obtain ⟨h1, h2⟩ := zc_dats hv s2
    exact ⟨by rw [hv]; exact hz, fun p hp => c _ _ _ _ rfl (Ext e2 (Exn (h2.fresh hp))) ((h2.lay hp).dat ⟨p, vs, rfl, SqT.of upd_same, h1.mono (Exn (h2.fresh hp))⟩)⟩)⟩
theorem de_lstR (h : DA X es S (Rs.map .dat) S1) (hz : Rs.length ≤ sizeLine) : DE X (.List es pos) S (.dat (lstR Rs)) S1 :=
  ⟨h.1, fun Fr F σ H Q hl sat c => (pe_lst pA).w (h.2 Fr F σ H _ hl sat fun vs F2 H2 hv e2 s2 => by
    rw [List.length_map] at hv
    obtain ⟨h1, h2⟩ := zc_dats hv s2
    exact ⟨by rw [hv]; exact hz, fun p hp => c _ _ _ _ rfl (Ext e2 (Exn (h2.fresh hp))) ((h2.lay hp).dat ⟨p, vs, rfl, upd_same, h1.mono (Exn (h2.fresh hp))⟩)⟩)⟩
/-- a new list that one name is to hold -/
theorem we_lstO (h : DA X es S (Rs.map .dat) S1) (hz : Rs.length ≤ sizeLine) : WE X (.List es pos) S (fun w => ∃ p, w = .own (lstO p Rs)) S1 :=
  ⟨h.1, fun Fr F σ H Q hl sat c => (pe_lst pA).w (h.2 Fr F σ H _ hl sat fun vs F2 H2 hv e2 s2 => by
    rw [List.length_map] at hv
    obtain ⟨h1, h2⟩ := zc_dats hv s2
    exact ⟨by rw [hv]; exact hz, fun p hp => c _ _ _ _ ⟨p, rfl⟩ e2 (h2.layOwn hp ⟨rfl, fun _ => Iff.rfl, vs, upd_same, h1⟩)⟩)⟩
theorem de_tup0 {x1} : DE X (.Tuple [] x1 pos) S (pd (.tuple [])) S := (de_tupR (Rs := []) da_nil (Nat.zero_le _)).conv fun h => tup_py (ds := []) h
theorem de_tup1 {x1} {d : PyData} (h : DE X a S (pd d) S1) (hs : starEach [a] X.env = (false, eval a X.env) :: starEach [] X.env := by rfl) : DE X (.Tuple [a] x1 pos) S (pd (.tuple [d])) S1 := (de_tupR (Rs := [py d]) (da1 h hs) (by show 1 ≤ sizeLine; decide)).conv fun h => tup_py (ds := [d]) h
theorem de_tup2 {x1} {d d' : PyData} (h : DE X a S (pd d) S1) (h2 : DE X b S1 (pd d') S2) (hs : starEach [a, b] X.env = (false, eval a X.env) :: starEach [b] X.env := by rfl) (hs2 : starEach [b] X.env = (false, eval b X.env) :: starEach [] X.env := by rfl) : DE X (.Tuple [a, b] x1 pos) S (pd (.tuple [d, d'])) S2 :=
  (de_tupR (Rs := [py d, py d']) (da2 h h2 hs hs2) (by show 2 ≤ sizeLine; decide)).conv fun h => tup_py (ds := [d, d']) h
theorem de_lst0 : DE X (.List [] pos) S (pl []) S := de_lstR (Rs := []) da_nil (Nat.zero_le _)
theorem de_lst1 {d : PyData} (h : DE X a S (pd d) S1) (hs : starEach [a] X.env = (false, eval a X.env) :: starEach [] X.env := by rfl) : DE X (.List [a] pos) S (pl [d]) S1 := de_lstR (Rs := [py d]) (da1 h hs) (by show 1 ≤ sizeLine; decide)
theorem de_lst2 {d d' : PyData} (h : DE X a S (pd d) S1) (h2 : DE X b S1 (pd d') S2) (hs : starEach [a, b] X.env = (false, eval a X.env) :: starEach [b] X.env := by rfl) (hs2 : starEach [b] X.env = (false, eval b X.env) :: starEach [] X.env := by rfl) : DE X (.List [a, b] pos) S (pl [d, d']) S2 := de_lstR (Rs := [py d, py d']) (da2 h h2 hs hs2) (by show 2 ≤ sizeLine; decide)
theorem de_lst3 {d d' d'' : PyData} (h : DE X a S (pd d) S1) (h2 : DE X b S1 (pd d') S2) (h3 : DE X c S2 (pd d'') S3) (hs : starEach [a, b, c] X.env = (false, eval a X.env) :: starEach [b, c] X.env := by rfl) (hs2 : starEach [b, c] X.env = (false, eval b X.env) :: starEach [c] X.env := by rfl)
    (hs3 : starEach [c] X.env = (false, eval c X.env) :: starEach [] X.env := by rfl) : DE X (.List [a, b, c] pos) S (pl [d, d', d'']) S3 := de_lstR (Rs := [py d, py d', py d'']) (da3 h h2 h3 hs hs2 hs3) (by show 3 ≤ sizeLine; decide)
/-- [*xs, e] -/
theorem de_starE {ds : List PyData} {d : PyData} {p1 : Pos} (ha : DE X a S (pl ds) S1) (hb : DE X b S1 (pd d) S2) (hz : ds.length + 1 ≤ sizeLine) (hs : starEach (.Starred a p1 :: [b]) X.env = (true, eval a X.env) :: starEach [b] X.env := by rfl) (hs2 : starEach [b] X.env = (false, eval b X.env) :: starEach [] X.env := by rfl) :
    DE X (.List [.Starred a p1, b] pos) S (pl (ds ++ [d])) S2 :=
  ⟨hb.1.trans ha.1, fun Fr F σ H Q hl sat c => (pe_lst (StX.pa_star pE (pa_cons pE pa_nil hs2) hs)).w (ha.2 Fr F σ H _ hl sat fun w v F2 H2 kw e2 s2 => by
    subst kw
    obtain ⟨q, vs, rfl, h1, h2⟩ := s2.hd
    refine ⟨q, vs, rfl, .inr (SqL.of (s2.ex _ _ h1)), hb.2 Fr F2 σ H2 _ (hl.trans ha.1.symm) s2.tail fun w v F3 H3 kw e3 s3 => ?_⟩
    subst kw
    have h3 := s3.hd
    have h4 := h2.length
    rw [List.length_map] at h4
    refine ⟨by rw [List.length_append, h4]; exact hz, fun p hp => c _ _ _ _ rfl (Ext e2 (Ext e3 (Exn (s3.fresh hp)))) ((s3.tail.lay hp).dat ⟨p, _, rfl, upd_same, ?_⟩)⟩
    rw [List.map_append]
    exact ((h2.mono e3).snoc h3).mono (Exn (s3.fresh hp)))⟩
/-! tuple(xs), list(xs) -/
theorem de_tupleL {ds : List PyData} (hm : X.mg "tuple" = none) (h : DE X a S (pl ds) S1) (hg : Gl X "tuple" := by rfl) (hs : starEach [a] X.env = (false, eval a X.env) :: starEach [] X.env := by rfl) : DE X (.Call (.Name "tuple" p) [a] [] pos) S (pd (.tuple ds)) S1 :=
  we_T call_tuple_of (rc1 fun F H L x Q sat hr c => by
    obtain ⟨q, vs, rfl, e1, e2⟩ := hr
    exact ⟨q, vs, rfl, .inl ⟨SqL.of (sat.ex _ _ e1), fun l hl => c _ _ _ _ rfl (Exn (sat.fresh hl)) ((sat.lay hl).dat (tup_py ⟨l, vs, rfl, SqT.of upd_same, e2.mono (Exn (sat.fresh hl))⟩))⟩⟩) hm (by decide +kernel) (da1 h hs) hg (hs := hs)
theorem de_tupleT {ds : List PyData} (hm : X.mg "tuple" = none) (h : DE X a S (pd (.tuple ds)) S1) (hg : Gl X "tuple" := by rfl) (hs : starEach [a] X.env = (false, eval a X.env) :: starEach [] X.env := by rfl) : DE X (.Call (.Name "tuple" p) [a] [] pos) S (pd (.tuple ds)) S1 :=
  we_T call_tuple_of (rc1 fun F H L x Q sat hr c => by
    obtain ⟨q, vs, rfl, e1, e2⟩ := isT_py hr
    exact ⟨q, vs, rfl, .inr ⟨Evl.ex_t sat.ex e1, c _ _ F H rfl (Exr F) (sat.dat hr)⟩⟩) hm (by decide +kernel) (da1 h hs) hg (hs := hs)
theorem we_listO {ds : List PyData} (hm : X.mg "list" = none) (h : DE X a S (pl ds) S1) (hg : Gl X "list" := by rfl) (hs : starEach [a] X.env = (false, eval a X.env) :: starEach [] X.env := by rfl) : WE X (.Call (.Name "list" p) [a] [] pos) S (fun w => ∃ q, w = .own (lstO q (ds.map py))) S1 :=
  we_T call_list_of (rc1 fun F H L x Q sat hr c => by
    obtain ⟨q, vs, rfl, e1, e2⟩ := hr
    exact ⟨q, vs, rfl, .inl (SqL.of (sat.ex _ _ e1)), fun l hl => c _ _ _ _ ⟨l, rfl⟩ (Exr F) (sat.layOwn hl ⟨rfl, fun _ => Iff.rfl, vs, upd_same, e2⟩)⟩) hm (by decide +kernel) (da1 h hs) hg (hs := hs)
/-! ints -/
theorem de_int1 {i : Int} (hm : X.mg "int" = none) (h : DE X a S (pi i) S1) (hg : Gl X "int" := by rfl) (hs : starEach [a] X.env = (false, eval a X.env) :: starEach [] X.env := by rfl) : DE X (.Call (.Name "int" p) [a] [] pos) S (pi i) S1 :=
  we_T call_int1 (rc1 fun F H L x Q sat hr c => by
    cases hr
    exact .inl ⟨i, rfl, c _ _ F H rfl (Exr F) (sat.dat (.int i))⟩) hm (by decide +kernel) (da1 h hs) hg (hs := hs)
theorem de_abs {i : Int} (hm : X.mg "abs" = none) (h : DE X a S (pi i) S1) (hg : Gl X "abs" := by rfl) (hs : starEach [a] X.env = (false, eval a X.env) :: starEach [] X.env := by rfl) : DE X (.Call (.Name "abs" p) [a] [] pos) S (pi (if i < 0 then -i else i)) S1 :=
  we_B call_abs (rc1 fun F H L x Q sat hr c => by
    cases hr
    exact ⟨i, rfl, c _ _ F H rfl (Exr F) (sat.dat (.int _))⟩) hm (by decide +kernel) (da1 h hs) hg (hs := hs)
theorem de_min {i j : Int} (hm : X.mg "min" = none) (h : DE X a S (pi i) S1) (h2 : DE X b S1 (pi j) S2) (hc : X.calm = true := by rfl) (hg : Gl X "min" := by rfl) (hs : starEach [a, b] X.env = (false, eval a X.env) :: starEach [b] X.env := by rfl) (hs2 : starEach [b] X.env = (false, eval b X.env) :: starEach [] X.env := by rfl)
    (hpl : (backTo pos (starEach [b] X.env)).any (·.1) = false := by rfl) : DE X (.Call (.Name "min" p) [a, b] [] pos) S (pi (if j < i then j else i)) S2 :=
  we_B (call_min2 hc) (rc2 fun F H L x y Q sat hr hr2 c => by
    cases hr
    cases hr2
    exact ⟨i, j, rfl, c _ _ F H rfl (Exr F) (sat.dat (.int _))⟩) hm (by decide +kernel) (da2 h h2 hs hs2) hg (by decide) (by decide) hs hpl
theorem de_max {i j : Int} (hm : X.mg "max" = none) (h : DE X a S (pi i) S1) (h2 : DE X b S1 (pi j) S2) (hc : X.calm = true := by rfl) (hg : Gl X "max" := by rfl) (hs : starEach [a, b] X.env = (false, eval a X.env) :: starEach [b] X.env := by rfl) (hs2 : starEach [b] X.env = (false, eval b X.env) :: starEach [] X.env := by rfl)
    (hpl : (backTo pos (starEach [b] X.env)).any (·.1) = false := by rfl) : DE X (.Call (.Name "max" p) [a, b] [] pos) S (pi (if j > i then j else i)) S2 :=
  we_B (call_max2 hc) (rc2 fun F H L x y Q sat hr hr2 c => by
    cases hr
    cases hr2
    exact ⟨i, j, rfl, c _ _ F H rfl (Exr F) (sat.dat (.int _))⟩) hm (by decide +kernel) (da2 h h2 hs hs2) hg (by decide) (by decide) hs hpl
theorem rels_ints {K : PySem.W.Frag} {H : Hp} : ∀ {vs : List V} {ns : List Int}, Rels K H vs (ns.map fun n => py (.int n)) → vs = ns.map V.int
  | [], [], _ => rfl
  | v :: vs, n :: ns, h => by
    have h1 : Dp K H v (.int n) := h.1
    cases h1
    rw [rels_ints h.2]
    rfl
  | [], _ :: _, h => h.elim
  | _ :: _, [], h => h.elim
theorem de_sum {ns : List Int} (hm : X.mg "sum" = none) (h : DE X a S (pl (ns.map .int)) S1) (hc : X.calm = true := by rfl) (hg : Gl X "sum" := by rfl) (hs : starEach [a] X.env = (false, eval a X.env) :: starEach [] X.env := by rfl) : DE X (.Call (.Name "sum" p) [a] [] pos) S (pi ns.sum) S1 :=
  we_B (cr_sum hc) (rc1 fun F H L x Q sat hr c => by
    obtain ⟨q, vs, rfl, e1, e2⟩ := hr
    rw [List.map_map] at e2
    have e3 := rels_ints e2
    subst e3
    exact ⟨q, ns, rfl, SqL.of (sat.ex _ _ e1), c _ _ F H rfl (Exr F) (sat.dat (.int _))⟩) hm (by decide +kernel) (da1 h hs) hg (hs := hs)
end
end Lh
end
section
set_option Elab.async false
set_option linter.all false
set_option maxRecDepth 100000
set_option maxHeartbeats 2000000
/-! lists that a name holds; comprehensions -/
namespace Lh
open PySem PySem.Spec PyProof.Rows L2
theorem lenD {I : Type} {c : I → Prop} {a : I → List Slot} {r : I → Slot} {n : Nat} (h : ∀ i, (a i).length = n) : ∀ as k as', PreD c a r as k as' → as.length = n := by
  rintro as k as' ⟨i, _, rfl, _⟩
  exact h i
section
variable {P : Program} {w : World} {K : PySem.W.Frag} {mg : Str → Option Value} {base : Heap}
/-- the rule for a def of data -/
theorem FnC.ofD {x : Str} {qual : Str} {pa : Arguments} {bd : List Stmt} {sc : Scope} {f : Addr} {N ps : List Str} {kk : Nat} {I : Type} {c : I → Prop} {a : I → List Slot} {r : I → Slot} (F : ∃ fd, FunD K x qual pa bd sc [] [] f fd ∧ mg x = some (.ref f)) (S : FnScope N ps sc)
    (hb : ∀ (kV doc pm : Value) (an : Option Addr) (cdv ct : Value) (us : List Value), us.length = ps.length → bindArgs (PySem.W.fnOf x qual pa bd sc .none kV doc pm an cdv ct) ⟨us, []⟩ = pure (ps.zip us))
    (hlen : ∀ i, (a i).length = ps.length)
    (body : ∀ (cdv : Value) (A : Around) (outer : List Env) (s : Shared) (H : Hp) (E : XK), Room kk (A.deeper (envOfC qual sc s.heap.objs.size f cdv)) → ∀ i, c i →
      DSs (bx P w K mg base N qual sc f cdv A outer s H E) bd (a i ++ List.replicate (N.length - ps.length) .no) (.rt (fun w => w = r i) [])) : FnC P w K mg base (kk + 1) x (PreD c a r) := by
  obtain ⟨fd, F, hm⟩ := F
  refine FnC.ofBody F S hm hb (lenD hlen) (fun cdv A outer s H E hr as k as' h => ?_)
  obtain ⟨i, hi, rfl, rfl, rfl⟩ := h
  have h2 := body cdv A outer s H E hr i hi
  rw [hlen i]
  exact h2
end
section
variable {K : PySem.W.Frag} {F F' H H' : Hp} {L : List Cell} {σ σ' : L2.St} {S : List Slot} {Fr : List Cell}
theorem all_agree : ∀ {σ σ' : L2.St} {S : List Slot} {f : Ft}, σ.length = S.length → σ'.length = S.length → (∀ j : Nat, S[j]? = some Slot.no ∨ σ[j]? = σ'[j]?) → All K F H (zc σ S ++ Fr) f → All K F H (zc σ' S ++ Fr) f
  | [], [], [], f, _, _, _, h => h
  | x :: σ, y :: σ', s :: S, f, h1, h2, h3, h => by
    obtain ⟨g, h0, s1, s2, s3, s4⟩ := h
    have ih := all_agree (σ := σ) (σ' := σ') (S := S) (f := h0) (by simpa using h1) (by simpa using h2) (fun j => by simpa using h3 (j + 1)) s2
    refine ⟨g, h0, ?_, ih, s3, s4⟩
    rcases h3 0 with q | q
    · have e : s = .no := by simpa using q
      subst e
      exact s1
    · have e : x = y := by simpa using q
      subst e
      exact s1
  | [], [], _ :: _, _, h, _, _, _ => by cases h
  | [], _ :: _, [], _, _, h, _, _ => by cases h
  | [], _ :: _, _ :: _, _, h, _, _, _ => by cases h
  | _ :: _, [], [], _, h, _, _, _ => by cases h
  | _ :: _, [], _ :: _, _, _, h, _, _ => by cases h
  | _ :: _, _ :: _, [], _, h, _, _, _ => by cases h
theorem Sat.agree (h : Sat K F H (zc σ S ++ Fr)) (h1 : σ.length = S.length) (h2 : σ'.length = S.length) (h3 : ∀ j : Nat, S[j]? = some Slot.no ∨ σ[j]? = σ'[j]?) : Sat K F H (zc σ' S ++ Fr) := by
  obtain ⟨f, a, b⟩ := h.all
  exact ⟨h.ex, f, all_agree h1 h2 h3 a, b⟩
/-- a held list is let go: it is never changed from here -/
theorem Sat.freeze {v : Option V} {p : Addr} {Rs : List Rel} (h : Sat K F H ((v, .own (lstO p Rs)) :: L)) : ∃ F', Ex F F' ∧ Sat K F' H ((v, .dat (lstR Rs)) :: L) := by
  obtain ⟨g, ⟨v', rfl, e1, e2, vs, e3, e4⟩, gF, cont⟩ := h.upd
  have hp : F p = none := gF p ((e2 p).mpr rfl)
  refine ⟨L2.upd F p (.lst vs), Exn hp, cont _ H _ (.dat (lstR Rs)) (fun _ => False) (Exn hp) (fun a o q => ?_) (fun a o q _ => q) (fun a q => ?_) ⟨⟨v', rfl, p, vs, e1, upd_same, e4.mono (Exn hp)⟩, fun _ q => q⟩ (fun a q => q.elim)⟩
  · by_cases ha : a = p
    · subst ha
      rw [upd_same] at q
      rw [← q]
      exact e3
    · rw [upd_ne ha] at q
      exact h.ex a o q
  · by_cases ha : a = p
    · exact .inr (.inl ((e2 a).mpr ha))
    · rw [upd_ne ha] at q
      exact .inl q
/-- what a held list is -/
theorem Sat.held {i : Nat} {p : Addr} {Rs : List Rel} (h : Sat K F H (zc σ S ++ Fr)) (hl : σ.length = S.length) (hS : S[i]? = some (.own (lstO p Rs))) : σ[i]? = some (some (.ref p)) ∧ ∃ vs, H p = some (.lst vs) ∧ Rels K F vs Rs ∧
    ∀ (F' H' : Hp) (vs' : List V) (Rs' : List Rel), Ex F F' → Ex F' H' → (∀ a o, H a = some o → a ≠ p → H' a = some o) → (∀ a, F' a ≠ none → F a ≠ none ∨ H a = none) → H' p = some (.lst vs') → Rels K F' vs' Rs' → Sat K F' H' (zc σ (S.set i (.own (lstO p Rs'))) ++ Fr) := by
  obtain ⟨ov, h1, h2⟩ := zc_get hl hS
  have hi : i < S.length := (List.getElem?_eq_some_iff.mp hS).1
  have s1 := h.perm (zc_out Fr hl hS h1)
  obtain ⟨g, ⟨v', rfl, rfl, e2, vs, e3, e4⟩, gF, cont⟩ := s1.upd
  refine ⟨h1, vs, e3, e4, fun F' H' vs' Rs' eF eH kp nf hp' hr' => ?_⟩
  have s2 := cont F' H' (some (.ref p)) (.own (lstO p Rs')) g eF eH (fun a o q hg => kp a o q fun z => hg ((e2 a).mpr z)) (fun a q => by
    rcases nf a q with z | z
    · exact .inl z
    · exact .inr (.inr z)) ⟨_, rfl, rfl, e2, vs', hp', hr'⟩ (fun a q => by
      have ea := (e2 a).mp q
      subst ea
      refine ⟨?_, .inl q⟩
      cases e : F' a with
      | none => rfl
      | some o =>
        exfalso
        rcases nf a (by rw [e]; exact fun z => nomatch z) with z | z
        · exact z (gF a q)
        · rw [e3] at z
          cases z)
  have s3 := s2.perm (zc_in (.own (lstO p Rs')) (some (.ref p)) Fr hl hi)
  have e0 : σ.set i (some (.ref p)) = σ := by
    refine List.ext_getElem? fun j => ?_
    by_cases hj : i = j
    · subst hj
      rw [List.getElem?_set_self (by omega), h1]
    · rw [List.getElem?_set_ne hj]
  rw [e0] at s3
  exact s3
end
section
variable {X : Cx} {S S1 S2 S3 : List Slot} {a b c e : Expr} {es : List Expr} {pos p0 : Pos} {k : Slot → Prop} {R R1 R2 R3 : Rel} {Rs : List Rel} {x : Str} {kk i : Nat} {o : Out} {sts : List Stmt} {p : Addr}
theorem WE.frz (h : WE X e S (fun w => ∃ p, w = .own (lstO p Rs)) S1) : DE X e S (.dat (lstR Rs)) S1 :=
  ⟨h.1, fun Fr F σ H Q hl sat c => h.2 Fr F σ H Q hl sat fun w v F2 H2 kw e2 s2 => by
    obtain ⟨p, rfl⟩ := kw
    obtain ⟨F3, e3, s3⟩ := s2.freeze
    exact c _ v F3 H2 rfl (Ext e2 e3) s3⟩
/-- from here on the list is never changed -/
theorem dss_freeze (hS : S[i]? = some (.own (lstO p Rs))) (h : DSs X sts (S.set i (.dat (lstR Rs))) o) : DSs X sts S o := by
  have hl2 : (S.set i (Slot.dat (lstR Rs))).length = S.length := List.length_set
  refine ⟨by have := h.1; rw [hl2] at this; exact this, fun Fr F σ H D hl sat q => ?_⟩
  obtain ⟨ov, h1, h2⟩ := zc_get hl hS
  have hi : i < S.length := (List.getElem?_eq_some_iff.mp hS).1
  have s1 := sat.perm (zc_out Fr hl hS h1)
  obtain ⟨F3, e3, s3⟩ := s1.freeze
  have s4 := s3.perm (zc_in (.dat (lstR Rs)) ov Fr hl hi)
  have e0 : σ.set i ov = σ := by
    refine List.ext_getElem? fun j => ?_
    by_cases hj : i = j
    · subst hj
      rw [List.getElem?_set_self (by omega), h1]
    · rw [List.getElem?_set_ne hj]
  rw [e0] at s4
  refine h.2 Fr F3 σ H D (hl.trans hl2.symm) s4 ?_
  rw [hl2]
  exact q.mono e3
/-- a name is forgotten -/
theorem dss_forget {S' : List Slot} (j : Nat) (h : DSs X sts S (.nx S')) : DSs X sts S (.nx (S'.set j .no)) := by
  have hl1 : S'.length = S.length := h.1
  refine ⟨by show (S'.set j .no).length = _; rw [List.length_set]; exact hl1, fun Fr F σ H D hl sat q => h.2 Fr F σ H D hl sat fun σ' F2 H2 hl2 e2 s2 => ?_⟩
  by_cases hj : j < S'.length
  · have e : σ'[j]? = some (σ'[j]'(by omega)) := List.getElem?_eq_getElem (by omega)
    have s3 := (s2.no (ov := σ'[j]'(by omega))).store (i := j) (hl2.trans hl1.symm) hj
    have e0 : σ'.set j (σ'[j]'(by omega)) = σ' := List.set_getElem_self (by omega)
    rw [e0] at s3
    exact q σ' F2 H2 hl2 e2 s3
  · have e0 : S'.set j .no = S' := List.set_eq_of_length_le (by omega)
    rw [e0] at q
    exact q σ' F2 H2 hl2 e2 s2
/-! ### what is asked of a held list -/
theorem de_lenO {y : Str} {py_ : Pos} (hm : X.mg "len" = none) (hS : S[i]? = some (.own (lstO p Rs))) (hN : X.N[i]? = some y := by rfl) (hg : Gl X "len" := by rfl) (hv : Vis X.env.scope y := by first | exact Or.inl rfl | exact Or.inr (Or.inl rfl) | exact Or.inr (Or.inr rfl)) (hd : (y == ("__debug__" : Str)) = false := by decide)
    (hcd : (y == ("__classdict__" : Str)) = false := by decide) : DE X (.Call (.Name "len" p0) [.Name y py_] [] pos) S (pi (Rs.length : Nat)) S :=
  ⟨rfl, fun Fr F σ H Q hl sat c => (pe_callB call_len_seq hg hm PySem.boot_len (pa_cons (pe_var hN hv hd hcd) pa_nil)).w (by
    obtain ⟨h1, vs, h2, h3, _⟩ := sat.held hl hS
    refine ⟨_, h1, p, vs, rfl, .inl (SqL.of h2), c _ _ F H rfl (Exr F) (sat.dat ?_)⟩
    rw [h3.length]
    exact .int _)⟩
theorem dt_truO {y : Str} (hS : S[i]? = some (.own (lstO p Rs))) (hN : X.N[i]? = some y := by rfl) (he : ∀ whole, isTrue (.Name y pos) X.env whole = (do let v ← whole; standAt pos; holding [v] (truthy v)) := by intro _; rfl)
    (hv : Vis X.env.scope y := by first | exact Or.inl rfl | exact Or.inr (Or.inl rfl) | exact Or.inr (Or.inr rfl)) (hd : (y == ("__debug__" : Str)) = false := by decide) (hcd : (y == ("__classdict__" : Str)) = false := by decide) : DT X (.Name y pos) S (!Rs.isEmpty) S :=
  ⟨rfl, fun Fr F σ H Q hl sat c => (pt_truth (pe_var hN hv hd hcd) he).w (by
    obtain ⟨h1, vs, h2, h3, _⟩ := sat.held hl hS
    refine ⟨_, h1, !vs.isEmpty, .inl ⟨vs, SqL.of h2, rfl⟩, ?_⟩
    have e : vs.isEmpty = Rs.isEmpty := by
      have hlen := h3.length
      cases vs <;> cases Rs <;> first | rfl | (simp at hlen)
    rw [e]
    exact c F H (Exr F) sat)⟩
/-- name[e] of a held list -/
theorem de_ixO {y : Str} {py_ : Pos} {z : Int} (hS : S[i]? = some (.own (lstO p Rs))) (hb : DE X b S (pi z) S) (hz : atI Rs z = some R) (hN : X.N[i]? = some y := by rfl) (hs : PlainIx b := by exact fun _ _ => rfl) (hv : Vis X.env.scope y := by first | exact Or.inl rfl | exact Or.inr (Or.inl rfl) | exact Or.inr (Or.inr rfl))
    (hd : (y == ("__debug__" : Str)) = false := by decide) (hcd : (y == ("__classdict__" : Str)) = false := by decide) : DE X (.Subscript (.Name y py_) b pos) S (.dat R) S :=
  ⟨rfl, fun Fr F σ H Q hl sat c => (pe_ix ix_list (pe_var hN hv hd hcd) pE hs).w (by
    obtain ⟨h1, _⟩ := sat.held hl hS
    refine ⟨_, h1, hb.2 Fr F σ H _ hl sat fun w v F2 H2 kw e2 s2 => ?_⟩
    subst kw
    have hd := s2.hd
    cases hd
    obtain ⟨h4, vs, h5, h6, _⟩ := s2.tail.held hl hS
    obtain ⟨u, h7, h8⟩ := h6.at hz
    exact ⟨p, vs, z, u, rfl, rfl, SqL.of h5, h7, c _ u F2 H2 rfl e2 (s2.tail.dat h8)⟩)⟩
/-- name.pop() -/
theorem de_popO {y : Str} {py_ apos : Pos} (hS : S[i]? = some (.own (lstO p (Rs ++ [R])))) (hN : X.N[i]? = some y := by rfl) (hline : (apos.endLine == pos.line) = true := by rfl) (hbase : attributeBase (.Name y py_) "pop" X.env (eval (.Name y py_) X.env) = eval (.Name y py_) X.env := by rfl)
    (hv : Vis X.env.scope y := by first | exact Or.inl rfl | exact Or.inr (Or.inl rfl) | exact Or.inr (Or.inr rfl)) (hd : (y == ("__debug__" : Str)) = false := by decide) (hcd : (y == ("__classdict__" : Str)) = false := by decide) :
    DE X (.Call (.Attribute (.Name y py_) "pop" apos) [] [] pos) S (.dat R) (S.set i (.own (lstO p Rs))) :=
  ⟨List.length_set, fun Fr F σ H Q hl sat c => (pe_bm0 PySem.F.plainAttrs_list PySem.F.slot_list_pop PySem.F.type_list_pop mt_pop (pe_var hN hv hd hcd) hbase hline).w (by
    obtain ⟨h1, vs, h2, h3, h4⟩ := sat.held hl hS
    have hlen := h3.length
    rw [List.length_append] at hlen
    have hlast : (Rs ++ [R])[vs.length - 1]? = some R := by
      rw [hlen]
      show (Rs ++ [R])[Rs.length + 1 - 1]? = _
      rw [Nat.add_sub_cancel, List.getElem?_append_right (Nat.le_refl _), Nat.sub_self]
      rfl
    obtain ⟨u, h5, h6⟩ := h3.get hlast
    refine ⟨_, h1, .inl ⟨rfl, vs, .inl (.inl h2)⟩, p, vs, u, rfl, rfl, h2, h5, c _ u F _ rfl (Exr F) ?_⟩
    have s2 := h4 F (L2.upd H p (.lst vs.dropLast)) vs.dropLast Rs (Exr F) (fun a o q => ?_) (fun a o q ha => by rw [upd_ne ha]; exact q) (fun a q => .inl q) upd_same ?_
    · exact s2.dat h6
    · have q2 := sat.ex a o q
      by_cases ha : a = p
      · subst ha
        obtain ⟨ov, e1, e2⟩ := zc_get hl hS
        obtain ⟨g, _, gF, _⟩ := (sat.perm (zc_out Fr hl hS e1)).upd
        obtain ⟨g', ⟨v', _, _, ef, _⟩, gF', _⟩ := (sat.perm (zc_out Fr hl hS e1)).upd
        rw [gF' a ((ef a).mpr rfl)] at q
        cases q
      · rw [upd_ne ha]
        exact q2
    · have h7 := h3.dropLast
      rw [List.dropLast_concat] at h7
      exact h7)⟩
end
section
variable {K : PySem.W.Frag} {F F' H H' : Hp} {L : List Cell} {σ σ' : L2.St} {S : List Slot} {Fr : List Cell} {i : Nat} {p : Addr} {Rs Rs' : List Rel}
/-- a held list is changed in its place -/
theorem Sat.poke {vs' : List V} (h : Sat K F H (zc σ S ++ Fr)) (hl : σ.length = S.length) (hS : S[i]? = some (.own (lstO p Rs))) (hr : Rels K F vs' Rs') : Sat K F (L2.upd H p (.lst vs')) (zc σ (S.set i (.own (lstO p Rs'))) ++ Fr) := by
  obtain ⟨h1, vs, h2, h3, h4⟩ := h.held hl hS
  refine h4 F (L2.upd H p (.lst vs')) vs' Rs' (Exr F) (fun a o q => ?_) (fun a o q ha => by rw [upd_ne ha]; exact q) (fun a q => .inl q) upd_same hr
  have q2 := h.ex a o q
  by_cases ha : a = p
  · subst ha
    obtain ⟨ov, e1, e2⟩ := zc_get hl hS
    obtain ⟨g', ⟨v', _, _, ef, _⟩, gF', _⟩ := (h.perm (zc_out Fr hl hS e1)).upd
    rw [gF' a ((ef a).mpr rfl)] at q
    cases q
  · rw [upd_ne ha]
    exact q2
end
section
variable {X : Cx} {S S1 S2 S3 : List Slot} {a b c e : Expr} {es : List Expr} {pos p0 : Pos} {k : Slot → Prop} {R R1 R2 R3 : Rel} {Rs : List Rel} {x : Str} {kk i : Nat} {o : Out} {sts : List Stmt} {p : Addr}
/-- name.pop(0) -/
theorem de_pop0O {y : Str} {py_ apos : Pos} (hS : S[i]? = some (.own (lstO p (R :: Rs)))) (hb : DE X b S (pi 0) S) (hN : X.N[i]? = some y := by rfl) (hline : (apos.endLine == pos.line) = true := by rfl) (hbase : attributeBase (.Name y py_) "pop" X.env (eval (.Name y py_) X.env) = eval (.Name y py_) X.env := by rfl)
    (hfew : ((backTo pos (starEach [b] X.env)).all (fun x => !x.1) && (backToKw pos (keywordEach [] X.env)).all (fun x => x.1.isSome) && decide (([b] : List Expr).length + ([] : List Keyword).length + (if ([] : List Keyword).isEmpty then 0 else 1) < 30)) = true := by rfl)
    (hs : starEach [b] X.env = (false, eval b X.env) :: starEach [] X.env := by rfl)
    (hv : Vis X.env.scope y := by first | exact Or.inl rfl | exact Or.inr (Or.inl rfl) | exact Or.inr (Or.inr rfl)) (hd : (y == ("__debug__" : Str)) = false := by decide) (hcd : (y == ("__classdict__" : Str)) = false := by decide) :
    DE X (.Call (.Attribute (.Name y py_) "pop" apos) [b] [] pos) S (.dat R) (S.set i (.own (lstO p Rs))) :=
  ⟨List.length_set, fun Fr F σ H Q hl sat c => (pe_bm PySem.F.plainAttrs_list PySem.F.slot_list_pop PySem.F.type_list_pop mt_popAt (pe_var hN hv hd hcd) (pa_cons pE pa_nil hs) hbase hfew hline hs).w (by
    obtain ⟨h1, vs, h2, h3, h4⟩ := sat.held hl hS
    refine ⟨_, h1, .inl ⟨rfl, vs, .inl (.inl h2)⟩, hb.2 Fr F σ H _ hl sat fun w v F2 H2 kw e2 s2 => ?_⟩
    subst kw
    have hd := s2.hd
    cases hd
    obtain ⟨g1, us, g2, g3, g4⟩ := s2.tail.held hl hS
    obtain ⟨u, h5, h6⟩ := g3.get (i := 0) (R := R) rfl
    have hlen := g3.length
    have e0 : seqIndex? 0 us.length = some 0 := by
      have h0 : 0 < us.length := by rw [hlen]; exact Nat.succ_pos _
      exact (ixN_seq (n := us.length) (i := 0) (j := 0) (by unfold ixN; rw [if_pos (by decide), if_pos (by omega)]; rfl)).1
    refine ⟨p, us, 0, 0, u, rfl, rfl, g2, by decide, by decide, e0, h5, c _ u F2 _ rfl e2 ?_⟩
    exact (s2.tail.poke hl hS (g3.eraseIdx 0)).dat h6)⟩
/-- name.append(e) -/
theorem ds_append {y : Str} {py_ apos spos : Pos} (i : Nat) (he : DE X e S (.dat R) S1) (hS : S[i]? = some (.own (lstO p Rs))) (hS1 : S1[i]? = some (.own (lstO p Rs))) (hz : Rs.length < sizeLine) (hS2 : S1.set i (.own (lstO p (Rs ++ [R]))) = S2 := by rfl) (hN : X.N[i]? = some y := by rfl) (hline : (apos.endLine == pos.line) = true := by rfl)
    (hbase : attributeBase (.Name y py_) "append" X.env (eval (.Name y py_) X.env) = eval (.Name y py_) X.env := by rfl)
    (hfew : ((backTo pos (starEach [e] X.env)).all (fun x => !x.1) && (backToKw pos (keywordEach [] X.env)).all (fun x => x.1.isSome) && decide (([e] : List Expr).length + ([] : List Keyword).length + (if ([] : List Keyword).isEmpty then 0 else 1) < 30)) = true := by rfl)
    (hs : starEach [e] X.env = (false, eval e X.env) :: starEach [] X.env := by rfl) (hsw : swapsWith (.Call (.Attribute (.Name y py_) "append" apos) [e] [] pos) none spos.line X.env = pure false := by rfl)
    (hv : Vis X.env.scope y := by first | exact Or.inl rfl | exact Or.inr (Or.inl rfl) | exact Or.inr (Or.inr rfl)) (hd : (y == ("__debug__" : Str)) = false := by decide) (hcd : (y == ("__classdict__" : Str)) = false := by decide) :
    DS X (.Expr (.Call (.Attribute (.Name y py_) "append" apos) [e] [] pos) spos) S (.nx S2) := by
  subst hS2
  exact ⟨by show (S1.set i _).length = _; rw [List.length_set]; exact he.1, fun Fr F σ H D hl sat q => (ps_expr (pe_bm PySem.F.plainAttrs_list PySem.F.slot_list_append PySem.F.type_list_append mt_append (pe_var hN hv hd hcd) (pa_cons pE pa_nil hs) hbase hfew hline hs) hsw).w (by
    obtain ⟨h1, vs, h2, h3, h4⟩ := sat.held hl hS
    refine ⟨_, h1, .inl ⟨rfl, vs, .inl (.inl h2)⟩, he.2 Fr F σ H _ hl sat fun w v F2 H2 kw e2 s2 => ?_⟩
    subst kw
    have hl1 : σ.length = S1.length := hl.trans he.1.symm
    obtain ⟨g1, us, g2, g3, g4⟩ := s2.tail.held hl1 hS1
    refine ⟨p, us, v, rfl, rfl, g2, by rw [g3.length]; exact hz, ?_⟩
    exact q σ F2 _ hl e2 (s2.tail.poke hl1 hS1 (g3.snoc s2.hd)))⟩

/-! ### comprehensions -/
theorem wipe_set {σ : L2.St} {j : Nat} {v : Option V} : ∀ {vs : List Nat}, j ∈ vs → wipe (σ.set j v) vs = wipe σ vs
  | [], h => by cases h
  | n :: vs, h => by
    unfold wipe
    by_cases e : n = j
    · subst e
      by_cases h2 : n ∈ vs
      · rw [wipe_set h2]
      · have : ∀ (vs : List Nat) (τ : L2.St), n ∉ vs → (wipe (τ.set n v) vs) = (wipe τ vs).set n v := by
          intro vs
          induction vs with
          | nil => intro τ _; rfl
          | cons m vs ih =>
            intro τ hm
            unfold wipe
            rw [ih τ (fun z => hm (List.mem_cons_of_mem _ z))]
            exact List.set_comm _ _ (fun z => hm (by rw [z]; exact List.mem_cons_self))
        rw [this vs σ h2, List.set_set]
    · rw [wipe_set (List.mem_of_ne_of_mem (Ne.symm e) h)]
theorem wipe_idem {σ : L2.St} : ∀ (vs : List Nat), wipe (wipe σ vs) vs = wipe σ vs := by
  intro vs
  have key : ∀ (us : List Nat) (τ : L2.St), (∀ j ∈ us, j ∈ vs) → wipe (wipe τ us) vs = wipe τ vs := by
    intro us
    induction us with
    | nil => intro τ _; rfl
    | cons n us ih =>
      intro τ h
      show wipe ((wipe τ us).set n none) vs = _
      rw [wipe_set (h n List.mem_cons_self), ih τ (fun j hj => h j (List.mem_cons_of_mem _ hj))]
  exact key vs σ (fun _ h => h)
theorem Sat.wipe {K : PySem.W.Frag} {F H : Hp} {σ : L2.St} {Fr : List Cell} {vs : List Nat} (h : Sat K F H (zc σ S ++ Fr)) (hl : σ.length = S.length) (hno : ∀ m ∈ vs, S[m]? = some .no) : Sat K F H (zc (wipe σ vs) S ++ Fr) :=
  h.agree hl (by rw [wipe_length]; exact hl) fun j => by
    by_cases hj : j ∈ vs
    · exact .inl (hno j hj)
    · exact .inr (wipe_out hj).symm
variable {α : Type} {xs : List α} {g f : α → Rel} {t : α → Bool} {vs : List Nat} {j : Nat} {tg it elt : Expr} {scope : Scope} {own : List (Str × Nat)}
/-- the reading of a comprehension: items xs as g tells, tested by t, each gives what f tells -/
theorem lc_read {tt : TT} {te : TE} (St : Nat → List Slot) (hj : j ∈ vs) (hlen : ∀ i, i ≤ xs.length → (St i).length = S.length) (hno : ∀ i, i ≤ xs.length → ∀ m ∈ vs, (St i)[m]? = some .no) (hz : xs.length < sizeLine) (hi : DI X tg it S (xs.map g) (St 0))
    (hT : ∀ i x, xs[i]? = some x → ∀ (Fr : List Cell) (F : Hp) (σ : L2.St) (H : Hp) (Q : Bool → Hp → Prop), σ.length = S.length → Sat X.K F H (zc σ ((St i).set j (.dat (g x))) ++ Fr) →
      (∀ (F2 H2 : Hp), Ex F F2 → Sat X.K F2 H2 (zc σ ((St i).set j (.dat (g x))) ++ Fr) → Q (t x) H2) → tt σ H Q)
    (hE : ∀ i x, xs[i]? = some x → t x = true → ∀ (Fr : List Cell) (F : Hp) (σ : L2.St) (H : Hp) (Q : VK), σ.length = S.length → Sat X.K F H (zc σ ((St i).set j (.dat (g x))) ++ Fr) →
      (∀ (v : V) (F2 H2 : Hp), Ex F F2 → Sat X.K F2 H2 ((some v, .dat (f x)) :: (zc σ ((St (i + 1)).set j (.dat (g x))) ++ Fr)) → Q v H2) → te σ H Q)
    (hF : ∀ i x, xs[i]? = some x → t x = false → St (i + 1) = St i)
    {Fr : List Cell} {F : Hp} {σ : L2.St} {H : Hp} {Q : VK} (hl : σ.length = S.length) (sat : Sat X.K F H (zc σ S ++ Fr))
    (q : ∀ (p : Addr) (F2 H2 : Hp), Ex F F2 → Sat X.K F2 H2 ((some (.ref p), .own (lstO p ((xs.filter t).map f))) :: (zc σ (St xs.length) ++ Fr)) → Q (.ref p) H2) :
    tLc (wpI X tg it) (gName j) tt te vs σ H Q := by
  refine hi.2 Fr F σ H _ hl sat fun J F2 H2 G Y e2 s2 wk hG hY => fun D hD => ?_
  rw [List.length_map] at wk
  refine lc_it wk (fun i H' => ∃ F', Ex F2 F' ∧ Sat X.K F' H' ((some (.ref D), .own (lstO D (((xs.take i).filter t).map f))) :: (zc σ (St i) ++ Fr))) ?_ (fun i H' _ ⟨F', e', s'⟩ => hG F' H' e' s'.ex) (fun i z H3 H' hlt ⟨F', e', s'⟩ y => ?_) fun H' ⟨F', e', s'⟩ => ?_
  · exact ⟨F2, Exr F2, s2.layOwn hD ⟨rfl, fun _ => Iff.rfl, [], upd_same, trivial⟩⟩
  · obtain ⟨F4, R4, e4, s4, hR, hx⟩ := hY i H3 z H' F' _ (by rw [List.length_map]; exact hlt) e' s' y
    have hxi : xs[i]? = some xs[i] := List.getElem?_eq_getElem hlt
    rw [List.getElem?_map, hxi] at hR
    have eR : g xs[i] = R4 := Option.some.inj hR
    subst eR
    have hli := hlen i (by omega)
    have hli1 := hlen (i + 1) (by omega)
    have hjl : j < (St i).length := by
      have := hno i (by omega) j hj
      exact (List.getElem?_eq_some_iff.mp this).1
    have s5 : Sat X.K F4 H' (zc σ (St i) ++ ((some (.ref D), .own (lstO D (((xs.take i).filter t).map f))) :: Fr)) := s4.frame1
    have hw : (wipe σ vs).length = (St i).length := by rw [wipe_length, hl, hli]
    have s6 := ((s5.wipe (hl.trans hli.symm) (hno i (by omega))).dat hx).store (i := j) hw hjl
    have hσ : ((wipe σ vs).set j (some z)).length = S.length := by rw [List.length_set, wipe_length]; exact hl
    refine ⟨by rw [wipe_set hj, wipe_idem], ?_⟩
    refine hT i _ hxi _ F4 _ H' _ hσ s6 fun F7 H7 e7 s7 => ?_
    have htk : xs.take (i + 1) = xs.take i ++ [xs[i]] := by rw [List.take_succ, hxi]; rfl
    cases hb : t xs[i] with
    | true =>
      refine iteT (hE i _ hxi hb _ F7 _ H7 _ hσ s7 fun u F8 H8 e8 s8 => ?_)
      -- the new list ahead
      have s9 : Sat X.K F8 H8 ((some (.ref D), .own (lstO D (((xs.take i).filter t).map f))) :: ((some u, .dat (f xs[i])) :: (zc ((wipe σ vs).set j (some z)) ((St (i + 1)).set j (.dat (g xs[i]))) ++ Fr))) := by
        refine s8.perm ?_
        refine List.Perm.trans (List.Perm.cons _ List.perm_middle) (List.Perm.swap _ _ _)
      obtain ⟨gg, ⟨v', ev, e1, ef, acc, h1, h2⟩, gF, cont⟩ := s9.upd
      cases ev
      have hacc := h2.length
      have hDF : F8 D = none := gF D ((ef D).mpr rfl)
      have hu : (f xs[i]).r X.K F8 u := s8.hd
      refine ⟨acc, h1, ?_, F8, Ext e' (Ext e4 (Ext e7 e8)), ?_⟩
      · rw [hacc, List.length_map]
        have h3 := List.length_filter_le t (xs.take i)
        rw [List.length_take] at h3
        omega
      have s10 := cont F8 (L2.upd H8 D (.lst (acc ++ [u]))) (some (.ref D)) (.own (lstO D (((xs.take (i + 1)).filter t).map f))) gg (Exr F8) (fun a o q => ?_) (fun a o q ha => by rw [upd_ne (fun z => ha ((ef a).mpr z))]; exact q) (fun a q => .inl q) ⟨_, rfl, rfl, ef, _, upd_same, ?_⟩ (fun a q => ⟨gF a q, .inl q⟩)
      · -- the block's name is forgotten
        have s11 : Sat X.K F8 (L2.upd H8 D (.lst (acc ++ [u]))) ((some (.ref D), .own (lstO D (((xs.take (i + 1)).filter t).map f))) :: (zc ((wipe σ vs).set j (some z)) ((St (i + 1)).set j (.dat (g xs[i]))) ++ Fr)) := s10.sub (.cons_cons _ (List.sublist_cons_self _ _))
        have hσ1 : ((wipe σ vs).set j (some z)).length = ((St (i + 1)).set j (Slot.dat (g xs[i]))).length := by rw [List.length_set, List.length_set, wipe_length, hl, hli1]
        have s12 := (s11.frame1.no (ov := none)).store (i := j) hσ1 (by rw [List.length_set, hli1, ← hli]; exact hjl)
        have e13 : ((St (i + 1)).set j (Slot.dat (g xs[i]))).set j .no = St (i + 1) := by
          rw [List.set_set]
          refine List.ext_getElem? fun m => ?_
          by_cases hm : j = m
          · subst hm
            rw [List.getElem?_set_self (by rw [hli1, ← hli]; exact hjl), hno (i + 1) (by omega) j hj]
          · rw [List.getElem?_set_ne hm]
        rw [e13] at s12
        have s14 := s12.agree (σ' := σ) (by rw [List.length_set, List.length_set, wipe_length, hl, hli1]) (hl.trans hli1.symm) fun m => by
          by_cases hm : m ∈ vs
          · exact .inl (hno (i + 1) (by omega) m hm)
          · have hmj : j ≠ m := fun z => hm (z ▸ hj)
            rw [List.set_set, List.getElem?_set_ne hmj]
            exact .inr (wipe_out hm)
        exact s14.frame1'
      · by_cases ha : a = D
        · subst ha
          rw [hDF] at q
          cases q
        · rw [upd_ne ha]
          exact s8.ex a o q
      · rw [htk, List.filter_append, List.map_append, List.filter_cons, if_pos hb]
        exact h2.snoc hu
    | false =>
      refine iteF ⟨F7, Ext e' (Ext e4 e7), ?_⟩
      have e8 := hF i _ hxi hb
      have hσ1 : ((wipe σ vs).set j (some z)).length = ((St i).set j (Slot.dat (g xs[i]))).length := by rw [List.length_set, List.length_set, wipe_length, hl, hli]
      have s12 := (s7.no (ov := none)).store (i := j) hσ1 (by rw [List.length_set]; exact hjl)
      have e13 : ((St i).set j (Slot.dat (g xs[i]))).set j .no = St i := by
        rw [List.set_set]
        refine List.ext_getElem? fun m => ?_
        by_cases hm : j = m
        · subst hm
          rw [List.getElem?_set_self hjl, hno i (by omega) j hj]
        · rw [List.getElem?_set_ne hm]
      rw [e13] at s12
      have s14 := s12.agree (σ' := σ) (by rw [List.length_set, List.length_set, wipe_length, hl, hli]) (hl.trans hli.symm) fun m => by
        by_cases hm : m ∈ vs
        · exact .inl (hno i (by omega) m hm)
        · have hmj : j ≠ m := fun z => hm (z ▸ hj)
          rw [List.set_set, List.getElem?_set_ne hmj]
          exact .inr (wipe_out hm)
      rw [htk, List.filter_append, List.filter_cons, if_neg (by rw [hb]; decide), e8]
      show Sat _ _ _ ((_, .own (lstO D (((xs.take i).filter t ++ []).map f))) :: _)
      rw [List.append_nil]
      exact s14.frame1'
  · rw [List.take_length] at s'
    exact q D F' H' (Ext e2 e') s'

abbrev bk (X : Cx) (scope : Scope) (s : Shared) (H : Hp) (C : Addr) (cl : List (Str × Addr)) (fp : List Addr) : Cx := X.blk s H scope (compEnvC scope cl C X.env) fp
/-- the element's reading, wherever the block stands -/
def teB (X : Cx) (scope : Scope) (elt : Expr) : TE := fun σ H Q => ∀ (s : Shared) (H0 : Hp) (C : Addr) (cl : List (Str × Addr)) (fp : List Addr), wpE (bk X scope s H0 C cl fp) elt σ H Q
def ttB (X : Cx) (scope : Scope) (c : Expr) : TT := fun σ H Q => ∀ (s : Shared) (H0 : Hp) (C : Addr) (cl : List (Str × Addr)) (fp : List Addr), wpT (bk X scope s H0 C cl fp) c σ H Q
theorem pe_teB (s : Shared) (H : Hp) (C : Addr) (cl : List (Str × Addr)) (fp : List Addr) : PE (bk X scope s H C cl fp) elt (teB X scope elt) := ⟨fun pins s' σ H' Q I h => h s H C cl fp pins s' I⟩
theorem pt_ttB (s : Shared) (H : Hp) (C : Addr) (cl : List (Str × Addr)) (fp : List Addr) : PT (bk X scope s H C cl fp) c (ttB X scope c) := ⟨fun pins s' σ H' Q I h => h s H C cl fp pins s' I⟩
theorem bk_K {s : Shared} {H : Hp} {C : Addr} {cl : List (Str × Addr)} {fp : List Addr} : (bk X scope s H C cl fp).K = X.K := rfl
/-- [elt for x in it] -/
theorem lc_read0 (St : Nat → List Slot) (hj : j ∈ vs) (hlen : ∀ i, i ≤ xs.length → (St i).length = S.length) (hno : ∀ i, i ≤ xs.length → ∀ m ∈ vs, (St i)[m]? = some .no) (hz : xs.length < sizeLine) (hi : DI X tg it S (xs.map g) (St 0))
    (hE : ∀ i x, xs[i]? = some x → ∀ (s : Shared) (H : Hp) (C : Addr) (cl : List (Str × Addr)) (fp : List Addr), DE (bk X scope s H C cl fp) elt ((St i).set j (.dat (g x))) (.dat (f x)) ((St (i + 1)).set j (.dat (g x))))
    {Fr : List Cell} {F : Hp} {σ : L2.St} {H : Hp} {Q : VK} (hl : σ.length = S.length) (sat : Sat X.K F H (zc σ S ++ Fr))
    (q : ∀ (p : Addr) (F2 H2 : Hp), Ex F F2 → Sat X.K F2 H2 ((some (.ref p), .own (lstO p (xs.map f))) :: (zc σ (St xs.length) ++ Fr)) → Q (.ref p) H2) :
    tLc (wpI X tg it) (gName j) tYes (teB X scope elt) vs σ H Q := by
  refine lc_read (t := fun _ => true) (f := f) St hj hlen hno hz hi (fun i x _ Fr F σ H Q _ s c => c F H (Exr F) s) (fun i x hx _ Fr F σ H Q hl s c => fun s0 H0 C cl fp => ?_) (fun i x _ h => nomatch h) hl sat fun p F2 H2 e2 s2 => q p F2 H2 e2 ?_
  · have hli := hlen i (by have := (List.getElem?_eq_some_iff.mp hx).1; omega)
    refine (hE i x hx s0 H0 C cl fp).2 Fr F σ H Q (by rw [List.length_set, hli]; exact hl) s fun w v F2 H2 kw e2 s2 => ?_
    subst kw
    exact c v F2 H2 e2 s2
  · have e : xs.filter (fun _ => true) = xs := List.filter_eq_self.mpr fun _ _ => rfl
    rw [e] at s2
    exact s2
/-- [elt for x in it if c] (the test leaves all as it is) -/
theorem lc_read1 (St : Nat → List Slot) (hj : j ∈ vs) (hlen : ∀ i, i ≤ xs.length → (St i).length = S.length) (hno : ∀ i, i ≤ xs.length → ∀ m ∈ vs, (St i)[m]? = some .no) (hz : xs.length < sizeLine) (hi : DI X tg it S (xs.map g) (St 0))
    (hT : ∀ i x, xs[i]? = some x → ∀ (s : Shared) (H : Hp) (C : Addr) (cl : List (Str × Addr)) (fp : List Addr), DT (bk X scope s H C cl fp) c ((St i).set j (.dat (g x))) (t x) ((St i).set j (.dat (g x))))
    (hE : ∀ i x, xs[i]? = some x → t x = true → ∀ (s : Shared) (H : Hp) (C : Addr) (cl : List (Str × Addr)) (fp : List Addr), DE (bk X scope s H C cl fp) elt ((St i).set j (.dat (g x))) (.dat (f x)) ((St (i + 1)).set j (.dat (g x))))
    (hF : ∀ i x, xs[i]? = some x → t x = false → St (i + 1) = St i)
    {Fr : List Cell} {F : Hp} {σ : L2.St} {H : Hp} {Q : VK} (hl : σ.length = S.length) (sat : Sat X.K F H (zc σ S ++ Fr))
    (q : ∀ (p : Addr) (F2 H2 : Hp), Ex F F2 → Sat X.K F2 H2 ((some (.ref p), .own (lstO p ((xs.filter t).map f))) :: (zc σ (St xs.length) ++ Fr)) → Q (.ref p) H2) :
    tLc (wpI X tg it) (gName j) (ttB X scope c) (teB X scope elt) vs σ H Q := by
  refine lc_read (t := t) (f := f) St hj hlen hno hz hi (fun i x hx Fr F σ H Q hl s c => fun s0 H0 C cl fp => ?_) (fun i x hx ht Fr F σ H Q hl s c => fun s0 H0 C cl fp => ?_) hF hl sat q
  · have hli := hlen i (by have := (List.getElem?_eq_some_iff.mp hx).1; omega)
    exact (hT i x hx s0 H0 C cl fp).2 Fr F σ H Q (by rw [List.length_set, hli]; exact hl) s c
  · have hli := hlen i (by have := (List.getElem?_eq_some_iff.mp hx).1; omega)
    refine (hE i x hx ht s0 H0 C cl fp).2 Fr F σ H Q (by rw [List.length_set, hli]; exact hl) s fun w v F2 H2 kw e2 s2 => ?_
    subst kw
    exact c v F2 H2 e2 s2
variable {cpos tpos : Pos} {cx : Str}
/-- as a value -/
theorem we_lc (St : Nat → List Slot) (j : Nat) (hN : X.N.Nodup) (ok : BlkOk X.N X.env.scope scope own) (hi : DI X (.Name cx tpos) it S (xs.map g) (St 0)) (hz : xs.length < sizeLine) (hj : j ∈ own.map (·.2)) (hlen : ∀ i, i ≤ xs.length → (St i).length = S.length) (hno : ∀ i, i ≤ xs.length → ∀ m ∈ own.map (·.2), (St i)[m]? = some .no)
    (hE : ∀ i x, xs[i]? = some x → ∀ (s : Shared) (H : Hp) (C : Addr) (cl : List (Str × Addr)) (fp : List Addr), DE (bk X scope s H C cl fp) elt ((St i).set j (.dat (g x))) (.dat (f x)) ((St (i + 1)).set j (.dat (g x))))
    (hc : X.calm = true := by rfl) (hjN : X.N[j]? = some cx := by rfl) (hjL : Loc (relS scope X.env.scope) cx := by exact Or.inl rfl) (hjf : (scope.names.lookup cx == some .cell) = true ∨ (relS scope X.env.scope).names.lookup cx = some .local := by first | exact .inl rfl | exact .inr rfl)
    (hs : ∀ x, foldedSetIterable it X.env x = pure x := by intro _; rfl) :
    WE X (.ListComp elt [⟨.Name cx tpos, it, [], 0⟩] scope cpos) S (fun w => ∃ p, w = .own (lstO p (xs.map f))) (St xs.length) :=
  ⟨hlen _ (Nat.le_refl _), fun Fr F σ H Q hl sat q => (pe_lc (own := own) hc hN pI ok (fun _ _ _ _ _ => pg_name (i := j) hN hjN hjL hjf) (fun _ _ _ _ _ => pts_nil) pe_teB hs).w
    (lc_read0 (f := f) St hj hlen hno hz hi hE hl sat fun p F2 H2 e2 s2 => q _ _ F2 H2 ⟨p, rfl⟩ e2 s2)⟩
theorem we_lcIf (St : Nat → List Slot) (j : Nat) (t : α → Bool) (hN : X.N.Nodup) (ok : BlkOk X.N X.env.scope scope own) (hi : DI X (.Name cx tpos) it S (xs.map g) (St 0)) (hz : xs.length < sizeLine) (hj : j ∈ own.map (·.2)) (hlen : ∀ i, i ≤ xs.length → (St i).length = S.length) (hno : ∀ i, i ≤ xs.length → ∀ m ∈ own.map (·.2), (St i)[m]? = some .no)
    (hT : ∀ i x, xs[i]? = some x → ∀ (s : Shared) (H : Hp) (C : Addr) (cl : List (Str × Addr)) (fp : List Addr), DT (bk X scope s H C cl fp) c ((St i).set j (.dat (g x))) (t x) ((St i).set j (.dat (g x))))
    (hE : ∀ i x, xs[i]? = some x → t x = true → ∀ (s : Shared) (H : Hp) (C : Addr) (cl : List (Str × Addr)) (fp : List Addr), DE (bk X scope s H C cl fp) elt ((St i).set j (.dat (g x))) (.dat (f x)) ((St (i + 1)).set j (.dat (g x))))
    (hF : ∀ i x, xs[i]? = some x → t x = false → St (i + 1) = St i)
    (hc : X.calm = true := by rfl) (hjN : X.N[j]? = some cx := by rfl) (hjL : Loc (relS scope X.env.scope) cx := by exact Or.inl rfl) (hjf : (scope.names.lookup cx == some .cell) = true ∨ (relS scope X.env.scope).names.lookup cx = some .local := by first | exact .inl rfl | exact .inr rfl)
    (hs : ∀ x, foldedSetIterable it X.env x = pure x := by intro _; rfl) :
    WE X (.ListComp elt [⟨.Name cx tpos, it, [c], 0⟩] scope cpos) S (fun w => ∃ p, w = .own (lstO p ((xs.filter t).map f))) (St xs.length) :=
  ⟨hlen _ (Nat.le_refl _), fun Fr F σ H Q hl sat q => (pe_lc (own := own) hc hN pI ok (fun _ _ _ _ _ => pg_name (i := j) hN hjN hjL hjf) (fun _ _ _ _ _ => pts_one (pt_ttB _ _ _ _ _)) pe_teB hs).w
    (lc_read1 (f := f) (t := t) St hj hlen hno hz hi hT hE hF hl sat fun p F2 H2 e2 s2 => q _ _ F2 H2 ⟨p, rfl⟩ e2 s2)⟩
/-- the state as it is, all data: [f x for x in xs], [f x for x in xs if t x] -/
theorem de_lcP {ys : α → PyData} (j : Nat) (hN : X.N.Nodup) (ok : BlkOk X.N X.env.scope scope own) (hi : DI X (.Name cx tpos) it S (xs.map g) S1) (hz : xs.length < sizeLine) (hj : j ∈ own.map (·.2)) (hno : ∀ m ∈ own.map (·.2), S1[m]? = some .no)
    (hE : ∀ x, x ∈ xs → ∀ (s : Shared) (H : Hp) (C : Addr) (cl : List (Str × Addr)) (fp : List Addr), DE (bk X scope s H C cl fp) elt (S1.set j (.dat (g x))) (pd (ys x)) (S1.set j (.dat (g x))))
    (hc : X.calm = true := by rfl) (hjN : X.N[j]? = some cx := by rfl) (hjL : Loc (relS scope X.env.scope) cx := by exact Or.inl rfl) (hjf : (scope.names.lookup cx == some .cell) = true ∨ (relS scope X.env.scope).names.lookup cx = some .local := by first | exact .inl rfl | exact .inr rfl)
    (hs : ∀ x, foldedSetIterable it X.env x = pure x := by intro _; rfl) :
    DE X (.ListComp elt [⟨.Name cx tpos, it, [], 0⟩] scope cpos) S (pl (xs.map ys)) S1 := by
  have h := we_lc (X := X) (f := fun x => py (ys x)) (cpos := cpos) (fun _ => S1) j hN ok hi hz hj (fun _ _ => hi.1) (fun _ _ => hno) (fun i x hx => hE x (List.mem_of_getElem? hx)) hc hjN hjL hjf hs
  have e : (xs.map fun x => py (ys x)) = (xs.map ys).map py := by rw [List.map_map]; rfl
  rw [e] at h
  exact h.frz
theorem de_lcPIf {ys : α → PyData} (j : Nat) (t : α → Bool) (hN : X.N.Nodup) (ok : BlkOk X.N X.env.scope scope own) (hi : DI X (.Name cx tpos) it S (xs.map g) S1) (hz : xs.length < sizeLine) (hj : j ∈ own.map (·.2)) (hno : ∀ m ∈ own.map (·.2), S1[m]? = some .no)
    (hT : ∀ x, x ∈ xs → ∀ (s : Shared) (H : Hp) (C : Addr) (cl : List (Str × Addr)) (fp : List Addr), DT (bk X scope s H C cl fp) c (S1.set j (.dat (g x))) (t x) (S1.set j (.dat (g x))))
    (hE : ∀ x, x ∈ xs → t x = true → ∀ (s : Shared) (H : Hp) (C : Addr) (cl : List (Str × Addr)) (fp : List Addr), DE (bk X scope s H C cl fp) elt (S1.set j (.dat (g x))) (pd (ys x)) (S1.set j (.dat (g x))))
    (hc : X.calm = true := by rfl) (hjN : X.N[j]? = some cx := by rfl) (hjL : Loc (relS scope X.env.scope) cx := by exact Or.inl rfl) (hjf : (scope.names.lookup cx == some .cell) = true ∨ (relS scope X.env.scope).names.lookup cx = some .local := by first | exact .inl rfl | exact .inr rfl)
    (hs : ∀ x, foldedSetIterable it X.env x = pure x := by intro _; rfl) :
    DE X (.ListComp elt [⟨.Name cx tpos, it, [c], 0⟩] scope cpos) S (pl ((xs.filter t).map ys)) S1 := by
  have h := we_lcIf (X := X) (f := fun x => py (ys x)) (cpos := cpos) (fun _ => S1) j t hN ok hi hz hj (fun _ _ => hi.1) (fun _ _ => hno) (fun i x hx => hT x (List.mem_of_getElem? hx)) (fun i x hx => hE x (List.mem_of_getElem? hx)) (fun _ _ _ _ => rfl) hc hjN hjL hjf hs
  have e : ((xs.filter t).map fun x => py (ys x)) = ((xs.filter t).map ys).map py := by rw [List.map_map]; rfl
  rw [e] at h
  exact h.frz
/-- y = [elt for x in it], what follows knows the new list -/
theorem dss_setLc {y : Str} {py0 spos : Pos} (i : Nat) (St : Nat → List Slot) (j : Nat) (hN : X.N.Nodup) (ok : BlkOk X.N X.env.scope scope own) (hi : DI X (.Name cx tpos) it S (xs.map g) (St 0)) (hz : xs.length < sizeLine) (hj : j ∈ own.map (·.2)) (hlen : ∀ i, i ≤ xs.length → (St i).length = S.length) (hno : ∀ i, i ≤ xs.length → ∀ m ∈ own.map (·.2), (St i)[m]? = some .no)
    (hE : ∀ i x, xs[i]? = some x → ∀ (s : Shared) (H : Hp) (C : Addr) (cl : List (Str × Addr)) (fp : List Addr), DE (bk X scope s H C cl fp) elt ((St i).set j (.dat (g x))) (.dat (f x)) ((St (i + 1)).set j (.dat (g x))))
    (h2 : ∀ p, DSs X sts ((St xs.length).set i (.own (lstO p (xs.map f)))) o) (hok : o.ok S.length) (hlt : i < (St xs.length).length := by exact Nat.le_of_ble_eq_true rfl) (hyN : X.N[i]? = some y := by rfl) (hyl : X.env.scope.names.lookup y = some .local := by rfl)
    (hsw : swapsWith (.ListComp elt [⟨.Name cx tpos, it, [], 0⟩] scope cpos) (some (.Name y py0)) spos.line X.env = pure true := by exact sw_true rfl rfl rfl (by decide +kernel))
    (hc : X.calm = true := by rfl) (hjN : X.N[j]? = some cx := by rfl) (hjL : Loc (relS scope X.env.scope) cx := by exact Or.inl rfl) (hjf : (scope.names.lookup cx == some .cell) = true ∨ (relS scope X.env.scope).names.lookup cx = some .local := by first | exact .inl rfl | exact .inr rfl)
    (hs : ∀ x, foldedSetIterable it X.env x = pure x := by intro _; rfl) :
    DSs X (.Assign [.Name y py0] (.ListComp elt [⟨.Name cx tpos, it, [], 0⟩] scope cpos) spos :: sts) S o := by
  have hln := hlen _ (Nat.le_refl xs.length)
  refine ⟨hok, fun Fr F σ H D hl sat q => (pss_cons (ps_setLc (own := own) hc hN hyN hyl hsw pI ok (fun _ _ _ _ _ => pg_name (i := j) hN hjN hjL hjf) (fun _ _ _ _ _ => pts_nil) pe_teB hs) pSs).w
    (show tLc (wpI X (.Name cx tpos) it) (gName j) tYes (teB X scope elt) (own.map (·.2)) σ H (fun v H1 => wpSs X sts D (σ.set i (some v)) H1) from lc_read0 (f := f) St hj hlen hno hz hi hE hl sat fun p F2 H2 e2 s2 => ?_)⟩
  refine (h2 p).2 Fr F2 (σ.set i (some (.ref p))) H2 D (by rw [List.length_set, List.length_set, hln]; exact hl) (s2.store (hl.trans hln.symm) hlt) ?_
  rw [List.length_set, hln]
  exact q.mono e2
end
end Lh
end
section
set_option Elab.async false
set_option linter.all false
set_option maxRecDepth 100000
set_option maxHeartbeats 4000000
/-! rules that the layer lacks: enumerate(tuple), list.extend(tuple), x in a tuple of data -/
namespace Lh
open PySem PySem.Spec PyProof.Rows L2
/-! enumerate over a tuple: the library's walk of an enumerate object (`WalksT.enumerateD`) over what a tuple's iterator draws -/
/-- the counter over the iterator at n, as it is made -/
abbrev cntObj (n : Nat) : Obj := { cls := .type "enumerate", data := .fields #[.none, .bool false, .ref n, rawInt 0, .none, .none] }
/-- the tuple's own iterator, and the counter over it, behind a heap -/
abbrev cntHeap (h : Heap) (o : Obj) : Heap := (h.push o).push (cntObj h.objs.size)
theorem cnt_made {v : Value} {o : Obj} {G : Heap → Prop} (B : Begins v o G) :
    Meets (Builtin.«enumerate.__new__» ⟨[.type "enumerate", v], []⟩) (fun _ R s => G s.heap ∧ R (.ok (.ret (.ref (s.heap.push o).objs.size))) { s with heap := cntHeap s.heap o }) :=
  Meets.of_wp fun P w A R s0 hs => by
    rcases s0 with ⟨h0, gs, dr, n, y⟩
    have go : ∀ {A1 : Around} {E1 : Value → Shared → Prop} {Q1 : Value → Shared → Prop}, Q1 (.ref h0.objs.size) ⟨h0.push o, gs, dr, n, y⟩ → wpAny (model P w) A1 (pyIter v) Q1 E1 ⟨h0, gs, dr, n, y⟩ := B.iter P w _ _ ⟨h0, gs, dr, n, y⟩ _ hs.1
    have self := sub_enumerate
    wp_walk using go
    refine wpAny_stack_any fun _ => wpAny_pure ?_
    split
    case h_1 t _ _ _ _ _ => cases (t == .type "enumerate") <;> (wp_walk using go; exact ⟨_, rfl, hs.2⟩)
    case h_2 => wp_walk using go; exact ⟨_, rfl, hs.2⟩
/-- enumerate(t), t a tuple -/
theorem cnt_call {P : Program} {w : World} {A : Around} {E : Value → Shared → Prop} {s : Shared} {t : Addr} {its : Array Value} {Q : Value → Shared → Prop} (ht : s.heap.IsTuple t its)
    (c : ∀ h1 : Heap, (∀ b u, s.heap.get? b = some u → h1.get? b = some u) → h1.IsTupleIter s.heap.objs.size t 0 → IsEnum h1 (s.heap.objs.size + 1) s.heap.objs.size 0 .none → Q (.ref (s.heap.objs.size + 1)) { s with heap := h1 }) :
    wpAny (model P w) A (call (.type "enumerate") [.ref t]) Q E s := by
  have B := begins_tuple t its
  refine callType_new F.called_enumerate (by decide) (F.typeCall_enumerate_1 _) (F.newCall_enumerate_1 _) (fun u => F.args_object_init_2 u (.ref t)) F.entry_enumerate_new (cnt_made B) ⟨ht, ?_⟩
  have n1 : ∀ o : Obj, (s.heap.push o).objs.size = s.heap.objs.size + 1 := fun o => Heap.size_push ..
  have at1 : ∀ o : Obj, IsEnum (cntHeap s.heap o) (s.heap.objs.size + 1) s.heap.objs.size 0 .none := fun o => by
    have q := Heap.get?_push_size (s.heap.push o) (o := cntObj s.heap.objs.size) rfl
    rwa [n1] at q
  show _ ∧ _
  rw [n1]
  exact ⟨⟨_, at1 _, rfl⟩, c _ (fun b u q => Heap.get?_push_of_some _ (Heap.get?_push_of_some _ q)) ⟨_, Heap.get?_push_of_some _ (Heap.get?_push_size _ B.free), rfl, rfl⟩ (at1 _)⟩
/-- the tuple at a has m items; a turn lays the pair of the index and the item anew -/
def CntT (K : PySem.W.Frag) (a : Addr) (m : Nat) : It where
  go i H := i < m ∧ ∃ xs, SqT K H a xs ∧ xs.length = m
  yld i H v H' := ∃ (T : Addr) (x : V), (∀ xs, SqT K H a xs → xs[i]? = some x) ∧ v = .ref T ∧ H T = none ∧ H' = upd H T (.tup [.int (i : Nat), x])
  stop i H := m ≤ i ∧ ∃ xs, SqT K H a xs ∧ xs.length = m
/-- what stands between two turns -/
def CntSt (a e it : Addr) (m i : Nat) (h : Heap) : Prop := i ≤ m ∧ h.IsTupleIter it a i ∧ ∃ old, IsEnum h e it (i : Nat) old
theorem cnt_obj {a e it b : Addr} {m i : Nat} {h : Heap} (st : CntSt a e it m i h) (hb : b ∈ [e, it]) : ∃ o, h.get? b = some o ∧ ∀ v, o.data ≠ .cell v := by
  obtain ⟨_, ⟨o, ho, _, hd⟩, old, he⟩ := st
  simp only [List.mem_cons, List.not_mem_nil, or_false] at hb
  cases hb with
  | inl z => exact z ▸ ⟨_, he, fun _ => nofun⟩
  | inr z => exact z ▸ ⟨o, ho, fun v q => by cases hd.symm.trans q⟩
theorem cnt_turn {P : Program} {w : World} {K : PySem.W.Frag} {elts : List Expr} {kk : Nat} {tpos : Pos} {a e it : Addr} {m : Nat} (hae : a ≠ e) (hai : a ≠ it) (hei : e ≠ it) :
    Turn P w K (.Tuple elts kk tpos) (CntT K a m) [e, it] e (CntSt a e it m) where
  mem := List.mem_cons_self ..
  obj i h st b hb := cnt_obj st hb
  keep i h h' st k := ⟨st.1, st.2.1.at fun o => k it (List.mem_cons_of_mem _ (List.mem_cons_self ..)) o, st.2.2.imp fun _ => k e (List.mem_cons_self ..) _⟩
  item X hP hw hK hc i pins s σ H E I hf st hg := by
    cases hP; cases hw; cases hK
    obtain ⟨hlt, xs, hq, rfl⟩ := hg
    obtain ⟨its, rv, p, _⟩ := I.tuple hq
    have hn : its.length = xs.length := rv.length.symm
    have W := WalksT.enumerateD (Draws.tuple (prog := X.prog) (w := X.w) (A := X.A.in1) (show X.A.in1.handled = none from I.ok.hd hc) it a hai its.toArray) e hei (by simp [hei, Ne.symm hae]) (List.mem_cons_self ..)
    refine W.item i s _ E (by simp only [List.size_toArray]; omega) ⟨st.2.2, st.2.1, p⟩ fun T vals h1 tk hv hT hp hm k1 => ⟨_, rfl, W.go elts kk tpos i T _ _ E hm fun h2 st2 k2 => ?_⟩
    obtain ⟨t, x, hx, rfl⟩ := hv
    obtain ⟨u, hu⟩ : ∃ u, xs[i]? = some u := ⟨_, List.getElem?_eq_getElem hlt⟩
    obtain ⟨x', hx', ru⟩ := rv.get hu
    cases hx'.symm.trans (by simpa using hx)
    have fresh : H T = none := I.hok.fresh hT
    have laid : ObjOk X.prog X.w (upd H T (.tup [.int (i : Nat), u])) h2 T (.tup [.int (i : Nat), u]) := ⟨(by decide : 2 ≤ sizeLine), [.int i t, x], .cons ⟨t, rfl⟩ (.cons ru .nil), hp.at fun o => k2 T o (W.apart i T _ hm)⟩
    exact ⟨.ref T, _, I.turnedNew (t' := tk) (fun b o hb q => k2 b o hb (k1 b o hb q)) hf hT laid, rfl, ⟨T, u, fun ys hy => I.tuple_inj hq hy ▸ hu, rfl, fresh, rfl⟩, ⟨hlt, st2.2.1, st2.1⟩, fun b hb => (upd_ne (Nat.ne_of_lt (Nat.lt_of_lt_of_le (Heap.lt_size (cnt_obj st hb).choose_spec.1) hT))).trans (hf b hb).1⟩
  done X hP hw hK hc i pins s σ H E I hf st hg := by
    cases hP; cases hw; cases hK
    obtain ⟨hle, xs, hq, rfl⟩ := hg
    obtain ⟨its, rv, p, _⟩ := I.tuple hq
    have hn : its.length = xs.length := rv.length.symm
    obtain ⟨hi, hit, old, he⟩ := st
    have hs : i = its.toArray.size := by simp only [List.size_toArray]; omega
    have g := hf it (List.mem_cons_of_mem _ (List.mem_cons_self ..))
    exact wpAny_pyNext_enum_endD (Draws.tuple (A := X.A.in1) (show X.A.in1.handled = none from I.ok.hd hc) it a hai its.toArray) he ⟨hs ▸ hit, p⟩ fun h1 k => ⟨rfl, I.turned (t' := s.toks) k g.1 g.2.1 g.2.2.2.1 g.2.2.2.2.1 g.2.2.2.2.2⟩
  self A i s Q E st c := st.2.2.elim fun _ he => wpAny_pyIter_enum he c
def iCnt (K : PySem.W.Frag) (ta : TA) : TI := fun σ H R => ta σ H fun vs H1 => ∃ (a : Addr) (xs : List V), SqT K H1 a xs ∧ vs = [.ref a] ∧ R (CntT K a xs.length) H1
theorem cnt_pi {X : Cx} {e : Expr} {ta : TA} {p pos tpos : Pos} {elts : List Expr} {kk : Nat} (hg : Gl X "enumerate") (hm : X.mg "enumerate" = none) (ha : PA X [e] ta) (hs : starEach [e] X.env = [(false, eval e X.env)] := by rfl) :
    PI X (.Tuple elts kk tpos) (.Call (.Name "enumerate" p) [e] [] pos) (iCnt X.K ta) where
  run pins s σ H R I h := by
    have next : ∀ us s1, (∃ vs H1, Inv X pins σ H1 s1 ∧ Vals vs us ∧ ∃ (a : Addr) (xs : List V), SqT X.K H1 a xs ∧ vs = [.ref a] ∧ R (CntT X.K a xs.length) H1) →
        wpAny (model X.prog X.w) X.A (call (.type "enumerate") us) (fun v s2 => wpAny (model X.prog X.w) X.A (pyIter v) (PIE X pins σ (.Tuple elts kk tpos) R) X.xe s2) X.xe s1 := by
      rintro us s1 ⟨_, H1, I1, rv, a, xs, hq, rfl, q⟩
      obtain ⟨u, rfl, ru⟩ := rv.one
      cases ru
      obtain ⟨its, ri, ht, _⟩ := I1.tuple hq
      have la : a < s1.heap.objs.size := ht.lt
      refine cnt_call ht fun h1 k hit he => wpAny_pyIter_enum he ⟨_, _, _, _, H1, rfl, I1.kept (t' := s1.toks) k, cnt_turn (m := xs.length) (Nat.ne_of_lt (Nat.lt_succ_of_lt la)) (Nat.ne_of_lt la) (Nat.succ_ne_self _), ⟨Nat.zero_le _, hit, _, he⟩, fun b hb => ?_, q⟩
      have new : s1.heap.objs.size ≤ b := by
        simp only [List.mem_cons, List.not_mem_nil, or_false] at hb
        cases hb with
        | inl z => exact z ▸ Nat.le_succ _
        | inr z => exact Nat.le_of_eq z.symm
      exact I1.fpOk new (I1.hok.fresh new)
    exact Call_ (ld_blt I hg hm boot_enumerate (PyProof.Rows.callWith_type1 (thn (ha.run pos pins s σ H _ I h) next) hs rfl))
theorem cnt_walk {K : PySem.W.Frag} {a : Addr} {xs : List V} : Walk (CntT K a xs.length) xs.length (fun H => SqT K H a xs) (YPair (fun i => some (.int (i : Nat))) (fun i => xs[i]?)) where
  goes _ _ hi q := ⟨hi, xs, q, rfl⟩
  stops _ q := ⟨Nat.le_refl _, xs, q, rfl⟩
  yields i _ _ _ _ q y := y.elim fun T y => y.elim fun x y => ⟨T, .int (i : Nat), x, y.2.1, y.2.2.1, y.2.2.2, rfl, y.1 xs q⟩
section
variable {X : Cx} {S S1 S2 S3 : List Slot} {a b c e : Expr} {pos p : Pos} {k : Slot → Prop} {R R1 R2 R3 : Rel} {Rs : List Rel} {i : Nat}
theorem di_enumT {tgs : List Expr} {kk : Nat} {tpos p : Pos} {Rs : List Rel} (hm : X.mg "enumerate" = none) (h : DE X a S (.dat R) S1) (hL : IsT R Rs) (hg : Gl X "enumerate" := by rfl) (hst : starEach [a] X.env = [(false, eval a X.env)] := by rfl) : DI X (.Tuple tgs kk tpos) (.Call (.Name "enumerate" p) [a] [] pos) S (enumR Rs) S1 :=
  ⟨h.1, fun Fr F σ H Q hl sat c => (cnt_pi hg hm pA hst).w ((da_cons h da_nil (by exact hst)).2 Fr F σ H _ hl sat fun vs F2 H2 hv e2 s2 => by
    match vs, hv with
    | [v], _ =>
      have s3 : Sat X.K F2 H2 ((some v, .dat R) :: (zc σ S1 ++ Fr)) := s2
      obtain ⟨a, vs, rfl, hq, hr⟩ := hL s3.hd
      have hlen := hr.length
      exact ⟨a, vs, Evl.ex_t s3.ex hq, rfl, c _ F2 H2 _ _ e2 s3.tail (by rw [enumR_len, ← hlen]; exact cnt_walk (xs := vs)) (fun F3 H3 e3 e4 => Evl.ex_t (Ext e3 e4) hq) fun i H3 x H' F3 L hi e3 s4 y => di_pair hr e3 s4 y⟩)⟩
/-! range(a, b, c) -/
def numsC (lo c : Int) (n : Nat) : List Rel := (List.range n).map fun (i : Nat) => py (.int (lo + (i : Int) * c))
theorem di_range3 {tg : Expr} {p : Pos} {lo hi st : Int} {n : Nat} (hm : X.mg "range" = none) (ha : DE X a S (pi lo) S1) (hb : DE X b S1 (pi hi) S2) (hc : DE X c S2 (pi st) S3) (hr : RgC lo hi st n) (hg : Gl X "range" := by rfl) (hs : starEach [a, b, c] X.env = (false, eval a X.env) :: starEach [b, c] X.env := by rfl)
    (hs2 : starEach [b, c] X.env = (false, eval b X.env) :: starEach [c] X.env := by rfl) (hs3 : starEach [c] X.env = (false, eval c X.env) :: starEach [] X.env := by rfl) (hpl : (backTo pos (starEach [b, c] X.env)).any (·.1) = false := by rfl) : DI X tg (.Call (.Name "range" p) [a, b, c] [] pos) S (numsC lo st n) S3 :=
  ⟨hc.1.trans (hb.1.trans ha.1), fun Fr F σ H Q hl sat q => (pi_range3 hg hm pA hs hpl).w ((da3 ha hb hc hs hs2 hs3).2 Fr F σ H _ hl sat fun vs F2 H2 hv e2 s2 => by
    match vs, hv with
    | [u, v, w], _ =>
      have s3 : Sat X.K F2 H2 ((some u, pi lo) :: ((some v, pi hi) :: ((some w, pi st) :: (zc σ S3 ++ Fr)))) := s2
      have h1 := s3.hd
      cases h1
      have h2 := s3.tail.hd
      cases h2
      have h3 := s3.tail.tail.hd
      cases h3
      have hlen : (numsC lo st n).length = n := by unfold numsC; rw [List.length_map, List.length_range]
      refine ⟨lo, hi, st, n, rfl, hr, q _ F2 H2 _ _ e2 s3.tail.tail.tail (by rw [hlen]; exact walk_rangeC (lo := lo) (c := st) (n := n)) (fun _ _ _ _ => trivial) fun i H3 x H' F3 L hi e3 s4 y => ?_⟩
      obtain ⟨rfl, rfl⟩ := y
      rw [hlen] at hi
      exact ⟨F3, _, Exr F3, s4, by unfold numsC; rw [List.getElem?_map, List.getElem?_range hi]; rfl, Dp.int _⟩)⟩
/-! xs[::-1] -/
theorem de_rev {kc : Nat} {p1 p2 p3 : Pos} (ha : DE X a S (.dat R) S1) (hq : IsQ R Rs) : DE X (.Subscript a (.Slice none none (some (.UnaryOp .USub (.Constant (.int 1) kc p1) p2)) p3) pos) S (.dat (lstR Rs.reverse)) S1 :=
  ⟨ha.1, fun Fr F σ H Q hl sat c => (pe_revL pE).w (ha.2 Fr F σ H _ hl sat fun w v F2 H2 kw e2 s2 => by
    subst kw
    obtain ⟨q, vs, rfl, e3, e4⟩ := hq s2.hd
    exact ⟨q, vs, rfl, Evl.ex_l s2.ex e3, fun p hp => c _ _ _ _ rfl (Ext e2 (Exn (s2.fresh hp))) ((s2.tail.lay hp).dat ⟨p, _, rfl, upd_same, e4.reverse.mono (Exn (s2.fresh hp))⟩)⟩)⟩
/-! a < b < c -/
theorem de_chainLt {i j l : Int} (ha : DE X a S (pi i) S1) (hb : DE X b S1 (pi j) S2) (hc : DE X c S2 (pi l) S3) (h : i < j) (hm : lastMarks [.Lt, .Lt] [b, c] = false := by with_unfolding_all rfl) : DE X (.Compare a [.Lt, .Lt] [b, c] pos) S (pb (decide (j < l))) S3 :=
  ⟨hc.1.trans (hb.1.trans ha.1), fun Fr F σ H Q hl sat q => (pe_chain op_lt op_lt pE pE pE hm).w (ha.2 Fr F σ H _ hl sat fun w v F2 H2 kw e2 s2 => by
    subst kw
    have h1 := s2.hd
    cases h1
    refine hb.2 Fr F2 σ H2 _ (hl.trans ha.1.symm) s2.tail fun w v F3 H3 kw e3 s3 => ?_
    subst kw
    have h2 := s3.hd
    cases h2
    refine ⟨i, j, rfl, rfl, true, by show V.bl (decide (i < j)) = V.bl true; rw [decide_eq_true h], iteT (hc.2 Fr F3 σ H3 _ (hl.trans (ha.1.symm.trans hb.1.symm)) s3.tail fun w v F4 H4 kw e4 s4 => ?_)⟩
    subst kw
    have h3 := s4.hd
    cases h3
    exact ⟨j, l, rfl, rfl, q _ _ F4 H4 rfl (Ext e2 (Ext e3 e4)) (s4.tail.dat (.bl _))⟩)⟩
/-! x in a tuple, a list of data -/
def rInTD (K : PySem.W.Frag) (neg : Bool) : L2.R2 := fun x y H Q => ∃ d ds, Dp K H x d ∧ Dp K H y (.tuple ds) ∧ SeqAt.shaped d = true ∧ SeqAt.shaped (.tuple ds) = true ∧ Q (.bl (if neg then !ds.any fun z => PyData.eqv z d else ds.any fun z => PyData.eqv z d)) H
theorem plain_all {ds : List PyData} (h : SeqAt.shaped (.tuple ds) = true) : PyData.plainAll ds = true := by
  have h1 := SeqAt.canLay_of_shaped h
  exact PyData.plainAll_of_canLay0 ds (by simpa [PyData.canLay0] using h1)
theorem sh_lt {d : PyData} (h : SeqAt.shaped d = true) {n m : Nat} (hu : n + 65 < cLine) : n + 1 + min m (PyData.depth d) < cLine := by
  have q := SeqAt.depth_of_shaped h
  omega
theorem op_inTD (hu : X.A.units + 65 < cLine) : OpR X (compareOp .In) (rInTD X.K false) := fun pins s σ H x y v u Q I rx ry ⟨d, ds, kx, ky, s1, s2, c⟩ =>
  (Dp.reads I d x v kx rx).elim fun _ r1 => (Dp.reads I (.tuple ds) y u ky ry).elim fun _ r2 =>
    SeqAt.in_tuple_data r2 r1 (plain_all s2) (PyData.plain_of_canLay0 d (SeqAt.canLay_of_shaped s1)) (sh_lt s1 hu) ⟨.bl _, H, I, rfl, c⟩
theorem op_notInTD (hu : X.A.units + 65 < cLine) : OpR X (compareOp .NotIn) (rInTD X.K true) := fun pins s σ H x y v u Q I rx ry ⟨d, ds, kx, ky, s1, s2, c⟩ =>
  (Dp.reads I d x v kx rx).elim fun _ r1 => (Dp.reads I (.tuple ds) y u ky ry).elim fun _ r2 =>
    SeqAt.notIn_tuple_data r2 r1 (plain_all s2) (PyData.plain_of_canLay0 d (SeqAt.canLay_of_shaped s1)) (sh_lt s1 hu) ⟨.bl _, H, I, rfl, c⟩
theorem u65 {kk : Nat} {A : Around} (hr : Room kk A) : A.units + 65 < cLine := by have := hr.un; omega
theorem rd_inT {d : PyData} {ds : List PyData} {K : PySem.W.Frag} {neg z : Bool} (h1 : SeqAt.shaped d = true) (h2 : SeqAt.shaped (.tuple ds) = true) (hz : (if neg then !ds.any fun y => PyData.eqv y d else ds.any fun y => PyData.eqv y d) = z) : RD K (rInTD K neg) (py d) (py (.tuple ds)) (fun w => w = pb z) := by
  intro F H L x y Q sat hx hy c
  refine ⟨d, ds, (py d).mono sat.ex hx, (py (.tuple ds)).mono sat.ex hy, h1, h2, ?_⟩
  rw [hz]
  exact c _ _ F H rfl (Exr F) (sat.dat (.bl _))
theorem rd_inL {d : PyData} {ds : List PyData} {K : PySem.W.Frag} {z : Bool} (h1 : SeqAt.shaped d = true) (h2 : SeqAt.shaped (.list ds) = true) (hz : (ds.any fun y => PyData.eqv y d) = z) : RD K (rInD K) (py d) (lsR ds) (fun w => w = pb z) := by
  intro F H L x y Q sat hx hy c
  refine ⟨d, ds, (py d).mono sat.ex hx, lst_py ((lsR ds).mono sat.ex hy), h1, h2, ?_⟩
  rw [hz]
  exact c _ _ F H rfl (Exr F) (sat.dat (.bl _))
variable {d : PyData} {ds : List PyData} {z : Bool} {kk : Nat}
theorem dt_inT (hr : Room kk X.A) (ha : DE X a S (pd d) S1) (hb : DE X b S1 (pd (.tuple ds)) S2) (h1 : SeqAt.shaped d = true) (h2 : SeqAt.shaped (.tuple ds) = true) (hz : (ds.any fun y => PyData.eqv y d) = z) (hm : behindInMarks .In b = false := by rfl) : DT X (.Compare a [.In] [b] pos) S z S2 := dt_cmp (op_inTD (u65 hr)) (rd_inT (neg := false) h1 h2 hz) ha hb hm
theorem dt_notInT (hr : Room kk X.A) (ha : DE X a S (pd d) S1) (hb : DE X b S1 (pd (.tuple ds)) S2) (h1 : SeqAt.shaped d = true) (h2 : SeqAt.shaped (.tuple ds) = true) (hz : (!ds.any fun y => PyData.eqv y d) = z) (hm : behindInMarks .NotIn b = false := by rfl) : DT X (.Compare a [.NotIn] [b] pos) S z S2 := dt_cmp (op_notInTD (u65 hr)) (rd_inT (neg := true) h1 h2 hz) ha hb hm
theorem dt_inL (hr : Room kk X.A) (ha : DE X a S (pd d) S1) (hb : DE X b S1 (pl ds) S2) (h1 : SeqAt.shaped d = true) (h2 : SeqAt.shaped (.list ds) = true) (hz : (ds.any fun y => PyData.eqv y d) = z) (hm : behindInMarks .In b = false := by rfl) : DT X (.Compare a [.In] [b] pos) S z S2 := dt_cmp (op_inD (u65 hr)) (rd_inL h1 h2 hz) ha hb hm
end
end Lh
end
section
set_option Elab.async false
set_option linter.all false
set_option maxRecDepth 100000
set_option maxHeartbeats 4000000
/-! extend by a tuple, isinstance, dicts -/
namespace Lh
open PySem PySem.Spec PyProof.Rows L2
/-- the builtin's own body at a list and a tuple, each in its cell -/
theorem ext_body {l t : Addr} {xs ys : Array Value} {n m : Nat} {dd : Option Addr} {sl : Array (Option Value)} (short : ¬(!xs.isEmpty && Builtin.List.listTooLong (xs.size + ys.size)) = true) (hx : xs.size ≤ sizeLine) (hxy : xs.size + ys.size ≤ sizeLine + 1) :
    Meets (Builtin.«list.extend» ⟨[.ref l, .ref t], []⟩) (fun _ R s => (s.heap.get? l = some { cls := .type "list", dict := none, data := .seq xs n, slots := #[] } ∧ s.heap.get? t = some { cls := .type "tuple", dict := dd, data := .seq ys m, slots := sl }) ∧
      R (.ok (.ret Value.none)) { s with heap := s.heap.update l (Obj.mapSeq fun z => z ++ ys), toks := s.toks }) :=
  Meets.of_wp fun P w A R s0 hs => by
    rcases s0 with ⟨h0, gs, dr, k, y⟩
    rcases hs with ⟨⟨hl, ht⟩, post⟩
    have kinds := And.intro AutoSeq1.idx_int (And.intro AutoSeq1.sub_tuple_tuple (And.intro AutoSeq1.sub_list_list (And.intro AutoSeq1.sub_tuple_list AutoSeq1.sub_list_tuple)))
    obtain ⟨k1, k2, k3, k4, k5⟩ := kinds
    have both : (xs ++ ys).size ≤ sizeLine + 1 := Array.size_append ▸ hxy
    wp_walk using (wpAny_updateSeq hl rfl (hz := hx) (_hz' := both)), AutoSeq1.wpAny_loadPart' hl, AutoSeq1.wpAny_loadPart' ht
    exact ⟨_, rfl, post⟩
/-! list.extend(tuple) -/
def rExtT (K : PySem.W.Frag) : V → List V → Hp → VK → Prop := fun x vs H Q => ∃ (l t : Addr) (xs ys : List V), (x = .ref l ∧ vs = [.ref t]) ∧ (H l = some (.lst xs) ∧ SqT K H t ys) ∧ xs.length + ys.length ≤ sizeLine ∧ Q .non (upd H l (.lst (xs ++ ys)))
theorem mt_extT {X : Cx} : MtM X "list.extend" (rExtT X.K) := fun pins s σ H _ _ _ us Q I rx rv ⟨l, t, xs, ys, ⟨hxl, hvt⟩, ⟨hl, ht⟩, room, c⟩ => by
  subst hxl hvt
  cases rx
  obtain ⟨_, rfl, ru⟩ := rv.one
  cases ru
  obtain ⟨_, as, n, ra, len, at1⟩ := I.lstM hl
  obtain ⟨bs, rb, ⟨⟨c1, d1, dt, sl⟩, at2, hc, m, hd⟩, _⟩ := I.tuple ht
  cases hc
  cases hd
  have la := ra.length
  have lb := rb.length
  have sz : as.toArray.size + bs.toArray.size ≤ sizeLine := by
    simp only [List.size_toArray]
    omega
  exact call_meets F.slot_list_extend ⟨_, at1, rfl⟩ F.entry_list_extend (F.args_list_extend_2 (.ref l) (.ref t)) (ext_body (by rw [notLongL sz, Bool.and_false]; exact Bool.false_ne_true) (Nat.le_trans (Nat.le_add_right ..) sz) (Nat.le_succ_of_le sz))
    ⟨⟨at1, at2⟩, .non, _, I.lset (its' := as ++ bs) hl at1 (by simp) (ra.append rb) (by rw [List.length_append]; exact room), rfl, c⟩
section
variable {X : Cx} {S S1 S2 S3 : List Slot} {a b c e : Expr} {es : List Expr} {pos p0 : Pos} {k : Slot → Prop} {R R1 R2 R3 : Rel} {Rs Rs' : List Rel} {x : Str} {kk i : Nat} {o : Out} {sts : List Stmt} {p : Addr}
theorem ds_extend {y : Str} {py_ apos spos : Pos} (i : Nat) (he : DE X e S (.dat R) S1) (hT : IsT R Rs') (hS : S[i]? = some (.own (lstO p Rs))) (hS1 : S1[i]? = some (.own (lstO p Rs))) (hz : Rs.length + Rs'.length ≤ sizeLine) (hS2 : S1.set i (.own (lstO p (Rs ++ Rs'))) = S2 := by rfl) (hN : X.N[i]? = some y := by rfl) (hline : (apos.endLine == pos.line) = true := by rfl)
    (hbase : attributeBase (.Name y py_) "extend" X.env (eval (.Name y py_) X.env) = eval (.Name y py_) X.env := by rfl)
    (hfew : ((backTo pos (starEach [e] X.env)).all (fun x => !x.1) && (backToKw pos (keywordEach [] X.env)).all (fun x => x.1.isSome) && decide (([e] : List Expr).length + ([] : List Keyword).length + (if ([] : List Keyword).isEmpty then 0 else 1) < 30)) = true := by rfl)
    (hs : starEach [e] X.env = (false, eval e X.env) :: starEach [] X.env := by rfl) (hsw : swapsWith (.Call (.Attribute (.Name y py_) "extend" apos) [e] [] pos) none spos.line X.env = pure false := by rfl)
    (hv : Vis X.env.scope y := by first | exact Or.inl rfl | exact Or.inr (Or.inl rfl) | exact Or.inr (Or.inr rfl)) (hd : (y == ("__debug__" : Str)) = false := by decide) (hcd : (y == ("__classdict__" : Str)) = false := by decide) :
    DS X (.Expr (.Call (.Attribute (.Name y py_) "extend" apos) [e] [] pos) spos) S (.nx S2) := by
  subst hS2
  exact ⟨by show (S1.set i _).length = _; rw [List.length_set]; exact he.1, fun Fr F σ H D hl sat q => (ps_expr (pe_bm PySem.F.plainAttrs_list PySem.F.slot_list_extend PySem.F.type_list_extend mt_extT (pe_var hN hv hd hcd) (pa_cons pE pa_nil hs) hbase hfew hline hs) hsw).w (by
    obtain ⟨h1, vs, h2, h3, h4⟩ := sat.held hl hS
    refine ⟨_, h1, .inl ⟨rfl, vs, .inl (.inl h2)⟩, he.2 Fr F σ H _ hl sat fun w v F2 H2 kw e2 s2 => ?_⟩
    subst kw
    have hl1 : σ.length = S1.length := hl.trans he.1.symm
    obtain ⟨g1, us, g2, g3, g4⟩ := s2.tail.held hl1 hS1
    obtain ⟨b, zs, rfl, t1, t2⟩ := hT s2.hd
    refine ⟨p, b, us, zs, ⟨rfl, rfl⟩, ⟨g2, Evl.ex_t s2.ex t1⟩, by rw [g3.length, t2.length]; exact hz, ?_⟩
    exact q σ F2 _ hl e2 (s2.tail.poke hl1 hS1 (g3.append t2)))⟩
/-- name != [] of a held list of data -/
theorem dt_neNilO {y : Str} {py_ p2 : Pos} {ds : List PyData} (hr : Room kk X.A) (hS : S[i]? = some (.own (lstO p (ds.map py)))) (hsh : SeqAt.shaped (.list ds) = true) (hN : X.N[i]? = some y := by rfl) (hv : Vis X.env.scope y := by first | exact Or.inl rfl | exact Or.inr (Or.inl rfl) | exact Or.inr (Or.inr rfl))
    (hd : (y == ("__debug__" : Str)) = false := by decide) (hcd : (y == ("__classdict__" : Str)) = false := by decide) : DT X (.Compare (.Name y py_) [.NotEq] [.List [] p2] pos) S (!ds.isEmpty) S :=
  ⟨rfl, fun Fr F σ H Q hl sat c => (pt_cmpR (op_neD hr.units) (pe_var hN hv hd hcd) (pe_lst pa_nil) (nomark _)).w (by
    obtain ⟨h1, vs, h2, h3, _⟩ := sat.held hl hS
    refine ⟨_, h1, Nat.zero_le _, fun q hq => ?_⟩
    have hx : Dp X.K (L2.upd H q (.lst [])) (.ref p) (.list ds) := .lst (SqL.of (Exn hq _ _ h2)) (Rels.dp (h3.mono (Ext sat.ex (Exn hq))))
    refine ⟨.list ds, .list [], hx, .lst (SqL.of upd_same) .nil, hsh, by decide, !ds.isEmpty, ?_, c F _ (Exr F) (sat.grow (Exn hq))⟩
    have e1 : PyData.eqv (.list ds) (.list []) = ds.isEmpty := by
      simp only [PyData.eqv]
      cases ds with
      | nil => simp [PyData.eqvAll]
      | cons d ds => simp [PyData.eqvAll]
    rw [e1])⟩
/-! ### isinstance -/
theorem de_ty {y : Str} {T : String} (hm : X.mg y = none) (hv : bootBuiltins y = some (.type T)) (hg : Gl X y := by rfl) (hn : y ≠ "__name__" := by decide) (hd : (y == ("__debug__" : Str)) = false := by decide) : DE X (.Name y pos) S (.dat (at_ (.ty T))) S :=
  de_c (pe_bltn (v := .ty T) hg hm hv rfl hn hd) fun _ _ => rfl
/-- what type the values of R have -/
def TyR (K : PySem.W.Frag) (R : Rel) (t : Value) : Prop := ∀ {H : Hp} {v : V}, R.r K H v → TyX K H v t
theorem ty_int {K : PySem.W.Frag} {j : Int} : TyR K (py (.int j)) (.type "int") := fun h => by cases h; exact .base (.int _)
theorem tyx_t {K : PySem.W.Frag} {H : Hp} {q : Addr} {vs : List V} (h : SqT K H q vs) : TyX K H (.ref q) (.type "tuple") := by
  rcases h with (h | ⟨ob, h⟩) | ⟨ob, its, n, h, hc, _⟩
  · exact .base (.tup h)
  · exact .fTuple h
  · exact .kTuple h hc
theorem ty_tup {K : PySem.W.Frag} {ds : List PyData} : TyR K (py (.tuple ds)) (.type "tuple") := fun h => by
  obtain ⟨q, vs, rfl, h1, _⟩ := isT_py h
  exact tyx_t h1
theorem we_isi {t u : Value} {v0 : V} {z : Bool} (hm : X.mg "isinstance" = none) (ha : DE X a S (.dat R) S1) (hb : DE X b S1 (.dat (at_ v0)) S2) (hT : TyR X.K R t) (hk : ClsV v0 u) (hz : PySem.W.kitOne X.K t u = some z) (hg : Gl X "isinstance" := by rfl)
    (hs : starEach [a, b] X.env = (false, eval a X.env) :: starEach [b] X.env := by rfl) (hs2 : starEach [b] X.env = (false, eval b X.env) :: starEach [] X.env := by rfl) (hpl : (backTo pos (starEach [b] X.env)).any (·.1) = false := by rfl) : DE X (.Call (.Name "isinstance" p0) [a, b] [] pos) S (pb z) S2 :=
  we_B call_isi (rc2 fun F H L x y Q sat hr hr2 c => by
    have e : y = v0 := hr2
    subst e
    exact ⟨x, y, t, u, z, rfl, hk, hT (R.mono sat.ex hr), hz, c _ _ F H rfl (Exr F) (sat.dat (.bl z))⟩) hm (by decide +kernel) (da2 ha hb hs hs2) hg (hs := hs) (hpl := hpl)
theorem de_isi {t n : String} {z : Bool} {T : Str} (hm : X.mg "isinstance" = none) (ha : DE X a S (.dat R) S1) (hT : TyR X.K R (.type t)) (hm2 : X.mg T = none) (hv : bootBuiltins T = some (.type n)) (hz : kitB t n = some z) {tp : Pos} (hg : Gl X "isinstance" := by rfl) (hg2 : Gl X T := by rfl) (hn : T ≠ "__name__" := by decide) (hd : (T == ("__debug__" : Str)) = false := by decide)
    (hs : starEach [a, .Name T tp] X.env = (false, eval a X.env) :: starEach [.Name T tp] X.env := by rfl) (hs2 : starEach [.Name T tp] X.env = (false, eval (.Name T tp) X.env) :: starEach [] X.env := by rfl) (hpl : (backTo pos (starEach [.Name T tp] X.env)).any (·.1) = false := by rfl) : DE X (.Call (.Name "isinstance" p0) [a, .Name T tp] [] pos) S (pb z) S1 :=
  we_isi hm ha (de_ty hm2 hv hg2 hn hd) hT (.ty n) (kit_ty hz) hg hs hs2 hpl
/-- a tuple that was just made -/
def tupS (Rs : List Rel) : Rel := ⟨fun K H v => ∃ a vs, v = .ref a ∧ H a = some (.tup vs) ∧ Rels K H vs Rs, fun {K H H' v} e h => by
  obtain ⟨a, vs, e1, e2, e3⟩ := h
  exact ⟨a, vs, e1, e _ _ e2, e3.mono e⟩⟩
theorem de_tupS {x1} (h : DA X es S (Rs.map .dat) S1) (hz : Rs.length ≤ sizeLine) : DE X (.Tuple es x1 pos) S (.dat (tupS Rs)) S1 :=
  ⟨h.1, fun Fr F σ H Q hl sat c => (pe_tup pA).w (h.2 Fr F σ H _ hl sat fun vs F2 H2 hv e2 s2 => by
    rw [List.length_map] at hv
    obtain ⟨h1, h2⟩ := zc_dats hv s2
    exact ⟨by rw [hv]; exact hz, fun p hp => c _ _ _ _ rfl (Ext e2 (Exn (h2.fresh hp))) ((h2.lay hp).dat ⟨p, vs, rfl, upd_same, h1.mono (Exn (h2.fresh hp))⟩)⟩)⟩
theorem de_isi2 {t : Value} {z : Bool} {n1 n2 : String} (hm : X.mg "isinstance" = none) (ha : DE X a S (.dat R) S1) (hT : TyR X.K R t) (hb : DE X b S1 (.dat (tupS [at_ (.ty n1), at_ (.ty n2)])) S2) (hz : PySem.W.kitAny X.K t [.type n1, .type n2] = some z) (hg : Gl X "isinstance" := by rfl)
    (hs : starEach [a, b] X.env = (false, eval a X.env) :: starEach [b] X.env := by rfl) (hs2 : starEach [b] X.env = (false, eval b X.env) :: starEach [] X.env := by rfl) (hpl : (backTo pos (starEach [b] X.env)).any (·.1) = false := by rfl) : DE X (.Call (.Name "isinstance" p0) [a, b] [] pos) S (pb z) S2 :=
  we_B call_isiT (rc2 fun F H L x y Q sat hr hr2 c => by
    obtain ⟨q, vs, rfl, e1, e2⟩ := hr2
    match vs, e2 with
    | [v1, v2], ⟨h1, h2, _⟩ =>
      have h1' : v1 = .ty n1 := h1
      have h2' : v2 = .ty n2 := h2
      subst h1' h2'
      exact ⟨x, q, [.ty n1, .ty n2], t, [.type n1, .type n2], z, rfl, sat.ex _ _ e1, .cons (.ty n1) (.cons (.ty n2) .nil), hT (R.mono sat.ex hr), hz, c _ _ F H rfl (Exr F) (sat.dat (.bl z))⟩) hm (by decide +kernel) (da2 ha hb hs hs2) hg (hs := hs) (hpl := hpl)
end
/-! ### dicts -/
/-- a dict with keys that are ints, told by what it gives -/
def dctO (p : Addr) (n : Nat) (g : Int → Option Rel) : Own where
  r := fun K F H v f => v = .ref p ∧ (∀ a, f a ↔ a = p) ∧ ∃ kvs : List (Key × V), H p = some (.dK kvs) ∧ kvs.length ≤ n ∧ ∀ z : Int, match g z with
    | none => valV kvs (.inl z) = none
    | some R => ∃ u, valV kvs (.inl z) = some u ∧ R.r K F u
  keep := fun {K F F' H H' v f} e k h => by
    obtain ⟨e1, e2, vs, e3, e4, e5⟩ := h
    refine ⟨e1, e2, vs, by rw [k p ((e2 p).mpr rfl)]; exact e3, e4, fun z => ?_⟩
    have h := e5 z
    cases hg : g z with
    | none =>
      rw [hg] at h
      exact h
    | some R =>
      rw [hg] at h
      obtain ⟨u, h1, h2⟩ := h
      exact ⟨u, h1, R.mono e h2⟩
  live := fun {K F H v f a} h q => by
    obtain ⟨e1, e2, vs, e3, e4⟩ := h
    rw [(e2 a).mp q, e3]
    exact fun z => nomatch z
theorem pin_dct {p : Addr} {n : Nat} {g : Int → Option Rel} : Pin (dctO p n g) (.ref p) := fun h => h.1
/-- a dict with keys that are pairs of ints -/
def dtpO (p : Addr) (n : Nat) (g : Int → Int → Option Rel) : Own where
  r := fun K F H v f => v = .ref p ∧ (∀ a, f a ↔ a = p) ∧ ∃ kvs : List (List Key × V), H p = some (.dT kvs) ∧ kvs.length ≤ n ∧ ∀ z y : Int, match g z y with
    | none => valV kvs [.inl z, .inl y] = none
    | some R => ∃ u, valV kvs [.inl z, .inl y] = some u ∧ R.r K F u
  keep := fun {K F F' H H' v f} e k h => by
    obtain ⟨e1, e2, vs, e3, e4, e5⟩ := h
    refine ⟨e1, e2, vs, by rw [k p ((e2 p).mpr rfl)]; exact e3, e4, fun z y => ?_⟩
    have h := e5 z y
    cases hg : g z y with
    | none =>
      rw [hg] at h
      exact h
    | some R =>
      rw [hg] at h
      obtain ⟨u, h1, h2⟩ := h
      exact ⟨u, h1, R.mono e h2⟩
  live := fun {K F H v f a} h q => by
    obtain ⟨e1, e2, vs, e3, e4⟩ := h
    rw [(e2 a).mp q, e3]
    exact fun z => nomatch z
theorem pin_dtp {p : Addr} {n : Nat} {g : Int → Int → Option Rel} : Pin (dtpO p n g) (.ref p) := fun h => h.1
section
variable {K : PySem.W.Frag} {F F' H H' : Hp} {L : List Cell} {σ σ' : L2.St} {S : List Slot} {Fr : List Cell} {i : Nat} {p : Addr}
/-- one owned object is changed in its place -/
theorem Sat.pokeO {O O' : Own} {p : Addr} {ob : HO} (h : Sat K F H (zc σ S ++ Fr)) (hl : σ.length = S.length) (hS : S[i]? = some (.own O)) (hpin : Pin O (.ref p)) (hf : ∀ {F H : Hp} {v : V} {f : Ft}, O.r K F H v f → ∀ a, f a ↔ a = p)
    (hO : ∀ f : Ft, (∀ a, f a ↔ a = p) → O.r K F H (.ref p) f → O'.r K F (L2.upd H p ob) (.ref p) f) : Sat K F (L2.upd H p ob) (zc σ (S.set i (.own O')) ++ Fr) := by
  obtain ⟨ov, h1, h2⟩ := zc_get hl hS
  have hi : i < S.length := (List.getElem?_eq_some_iff.mp hS).1
  have s1 := h.perm (zc_out Fr hl hS h1)
  obtain ⟨g, ⟨v', rfl, hr⟩, gF, cont⟩ := s1.upd
  have ev := hpin hr
  subst ev
  have hfp := hf hr
  have hFp : F p = none := gF p ((hfp p).mpr rfl)
  have s2 := cont F (L2.upd H p ob) (some (.ref p)) (.own O') g (Exr F) (fun a o q => by
    by_cases ha : a = p
    · subst ha
      rw [hFp] at q
      cases q
    · rw [upd_ne ha]
      exact h.ex a o q) (fun a o q hg => by rw [upd_ne (fun z => hg ((hfp a).mpr z))]; exact q) (fun a q => .inl q) ⟨_, rfl, hO g hfp hr⟩ (fun a q => ⟨gF a q, .inl q⟩)
  have s3 := s2.perm (zc_in (.own O') (some (.ref p)) Fr hl hi)
  have e0 : σ.set i (some (.ref p)) = σ := by
    refine List.ext_getElem? fun j => ?_
    by_cases hj : i = j
    · subst hj
      rw [List.getElem?_set_self (by omega), h1]
    · rw [List.getElem?_set_ne hj]
  rw [e0] at s3
  exact s3
theorem Sat.owned {O : Own} (h : Sat K F H (zc σ S ++ Fr)) (hl : σ.length = S.length) (hS : S[i]? = some (.own O)) : ∃ v f, σ[i]? = some (some v) ∧ O.r K F H v f ∧ ∀ a, f a → F a = none := by
  obtain ⟨ov, h1, h2⟩ := zc_get hl hS
  obtain ⟨g, ⟨v', rfl, hr⟩, gF, _⟩ := (h.perm (zc_out Fr hl hS h1)).upd
  exact ⟨v', g, h1, hr, gF⟩
end
section
variable {X : Cx} {S S1 S2 S3 : List Slot} {a b c e : Expr} {es : List Expr} {pos p0 : Pos} {k : Slot → Prop} {R R1 R2 R3 : Rel} {Rs Rs' : List Rel} {x : Str} {kk i : Nat} {o : Out} {sts : List Stmt} {p : Addr}
/-- {} -/
theorem we_dct : WE X (.Dict [] [] pos) S (fun w => ∃ p, w = .own (dctO p 0 fun _ => none)) S :=
  ⟨rfl, fun Fr F σ H Q hl sat c => pe_dnewK.w fun p hp => c _ _ _ _ ⟨p, rfl⟩ (Exr F) (sat.layOwn hp ⟨rfl, fun _ => Iff.rfl, [], upd_same, Nat.le_refl _, fun _ => rfl⟩)⟩
theorem we_dtp : WE X (.Dict [] [] pos) S (fun w => ∃ p, w = .own (dtpO p 0 fun _ _ => none)) S :=
  ⟨rfl, fun Fr F σ H Q hl sat c => pe_dnewT.w fun p hp => c _ _ _ _ ⟨p, rfl⟩ (Exr F) (sat.layOwn hp ⟨rfl, fun _ => Iff.rfl, [], upd_same, Nat.le_refl _, fun _ _ => rfl⟩)⟩
/-- name.setdefault(key, value): what stands there, or the value -/
theorem de_setd {y : Str} {py_ apos : Pos} {n : Nat} {g : Int → Option Rel} {z : Int} (hS : S[i]? = some (.own (dctO p n g))) (hb : DE X b S (pi z) S1) (hS1 : S1[i]? = some (.own (dctO p n g))) (hc : DE X c S1 (.dat R) S2) (hS2 : S2[i]? = some (.own (dctO p n g))) (hn : n < sizeLine)
    (m : M2 X (.Name y py_) "setdefault" apos b c pos) (hN : X.N[i]? = some y := by rfl) (hv : Vis X.env.scope y := by first | exact Or.inl rfl | exact Or.inr (Or.inl rfl) | exact Or.inr (Or.inr rfl)) (hd : (y == ("__debug__" : Str)) = false := by decide) (hcd : (y == ("__classdict__" : Str)) = false := by decide) :
    DE X (.Call (.Attribute (.Name y py_) "setdefault" apos) [b, c] [] pos) S (.dat ((g z).getD R)) (S2.set i (.own (dctO p (n + 1) fun y => if y = z then some ((g z).getD R) else g y))) :=
  ⟨by rw [List.length_set]; exact hc.1.trans hb.1, fun Fr F σ H Q hl sat q => (pe_dsetd (pe_var hN hv hd hcd) pE pE m).w (by
    obtain ⟨v0, f0, h1, ⟨rfl, h2, kvs0, h3, h4, h5⟩, h6⟩ := sat.owned hl hS
    refine ⟨_, h1, p, rfl, .inl ⟨kvs0, .inl h3⟩, hb.2 Fr F σ H _ hl sat fun w v F2 H2 kw e2 s2 => ?_⟩
    subst kw
    have hd2 := s2.hd
    cases hd2
    refine hc.2 Fr F2 σ H2 _ (hl.trans hb.1.symm) s2.tail fun w v F3 H3 kw e3 s3 => ?_
    subst kw
    have hl3 : σ.length = S2.length := hl.trans (hb.1.symm.trans hc.1.symm)
    obtain ⟨v1, f1, g1, ⟨_, g2, kvs, g3, g4, g5⟩, g6⟩ := s3.tail.owned hl3 hS2
    refine ⟨kvs, .inl z, g3, rfl, by omega, fun u hu => ?_, fun hu => ?_⟩
    · have h := g5 z
      cases hg : g z with
      | none =>
        rw [hg] at h
        rw [h] at hu
        cases hu
      | some R0 =>
        rw [hg] at h
        obtain ⟨u', e1, e4⟩ := h
        rw [hu] at e1
        cases e1
        have s4 : Sat X.K F3 H3 (zc σ (S2.set i (.own (dctO p (n + 1) fun y => if y = z then some R0 else g y))) ++ Fr) := by
          have s5 := s3.tail
          obtain ⟨ov, q1, q2⟩ := zc_get hl3 hS2
          have hi : i < S2.length := (List.getElem?_eq_some_iff.mp hS2).1
          obtain ⟨gg, ⟨v', rfl, hr⟩, gF, cont⟩ := (s5.perm (zc_out Fr hl3 hS2 q1)).upd
          obtain ⟨r1, r2, r3⟩ := hr
          subst r1
          have s6 := cont F3 H3 (some (.ref p)) (.own (dctO p (n + 1) fun y => if y = z then some R0 else g y)) gg (Exr F3) s5.ex (fun a o q _ => q) (fun a q => .inl q) ⟨_, rfl, rfl, r2, ?_⟩ (fun a q => ⟨gF a q, .inl q⟩)
          · have s7 := s6.perm (zc_in _ (some (.ref p)) Fr hl3 hi)
            have e0 : σ.set i (some (.ref p)) = σ := by
              refine List.ext_getElem? fun j => ?_
              by_cases hj : i = j
              · subst hj
                rw [List.getElem?_set_self (by omega), q1]
              · rw [List.getElem?_set_ne hj]
            rw [e0] at s7
            exact s7
          · obtain ⟨kvs', r4, r5, r6⟩ := r3
            refine ⟨kvs', r4, Nat.le_succ_of_le r5, fun y => ?_⟩
            have h7 := r6 y
            by_cases hy : y = z
            · subst hy
              rw [hg] at h7
              show match (if y = y then some R0 else g y) with | none => _ | some R => _
              rw [if_pos rfl]
              exact h7
            · show match (if y = z then some R0 else g y) with | none => _ | some R => _
              rw [if_neg hy]
              exact h7
        have eR : (g z).getD R = R0 := by rw [hg]; rfl
        exact q _ u F3 H3 rfl (Ext e2 e3) (by rw [eR]; exact s4.dat e4)
    · have h := g5 z
      cases hg : g z with
      | some R0 =>
        rw [hg] at h
        obtain ⟨u', e1, e4⟩ := h
        rw [hu] at e1
        cases e1
      | none =>
        have hv3 := s3.hd
        have s4 := s3.tail.pokeO (O' := dctO p (n + 1) fun y => if y = z then some R else g y) (ob := .dK (putK kvs (.inl z) v)) hl3 hS2 pin_dct (fun hr => hr.2.1) (fun f hf _ => ⟨rfl, hf, _, upd_same, by
          have := length_putK kvs (.inl z) v
          omega, fun y => ?_⟩)
        · have eR : (g z).getD R = R := by rw [hg]; rfl
          exact q _ v F3 _ rfl (Ext e2 e3) (by rw [eR]; exact s4.dat hv3)
        · by_cases hy : y = z
          · subst hy
            show match (if y = y then some R else g y) with | none => _ | some R => _
            rw [if_pos rfl]
            exact ⟨v, by rw [valV_put, if_pos rfl], hv3⟩
          · show match (if y = z then some R else g y) with | none => _ | some R => _
            rw [if_neg hy]
            have h7 := g5 y
            have hk : ¬ (Sum.inl y : Key) = Sum.inl z := fun e => hy (Sum.inl.inj e)
            cases hgy : g y with
            | none =>
              rw [hgy] at h7
              show valV (putK kvs (.inl z) v) (.inl y) = none
              rw [valV_put, if_neg hk]
              exact h7
            | some Ry =>
              rw [hgy] at h7
              obtain ⟨u', e1, e4⟩ := h7
              exact ⟨u', by rw [valV_put, if_neg hk]; exact e1, e4⟩)⟩
end
end Lh
end
section
set_option Elab.async false
set_option linter.all false
/-! shapes, tables, what the program and the law reckon: plain functions -/
namespace Lh
inductive Sh where
  | o | n (a b : Sh)
  deriving DecidableEq
namespace Sh
def size : Sh → Nat
  | o => 1
  | n a b => a.size + b.size
def ht : Sh → Nat
  | o => 0
  | n a b => max a.ht b.ht + 1
end Sh
/-- a table: its entries from 2 on -/
abbrev Tb := List Sh
def ent (t : Tb) (m : Nat) : Sh := if m = 1 then .o else t.getD (m - 2) .o
/-- its entries have their sizes -/
def okT (t : Tb) : Prop := t ≠ [] ∧ ∀ (k : Nat) (s : Sh), t[k]? = some s → s.size = k + 2
def combL : Nat → Sh
  | 0 => .o
  | k + 1 => .n (combL k) .o
def combR : Nat → Sh
  | 0 => .o
  | k + 1 => .n .o (combR k)
def fill : Sh → List Sh → Sh
  | .o, ps => ps.headD .o
  | .n a b, ps => .n (fill a (ps.take a.size)) (fill b (ps.drop a.size))
def halvesF : Nat → Nat → Sh
  | 0, _ => .o
  | k + 1, n => if n < 2 then .o else .n (halvesF k (n - n / 2)) (halvesF k (n / 2))
/-- m / b, rounded up -/
def cl (m b : Nat) : Nat := (m + b - 1) / b
/-- the stretches of b among m, as pairs -/
def stret (m b : Nat) : List (Nat × Nat) := (List.range (cl m b)).map fun k => (k * b, min (k * b + b) m)
/-- a table of size b presses a row: its k-th stretch -/
def press (t : Tb) (row : List Sh) : List Sh := (List.range (cl row.length (t.length + 1))).map fun k => fill (ent t (min (t.length + 1) (row.length - k * (t.length + 1)))) ((row.drop (k * (t.length + 1))).take (t.length + 1))
/-- the rows behind so many stages -/
def rows (st : Nat → Tb) (row : List Sh) : Nat → List Sh
  | 0 => row
  | k + 1 => press (st k) (rows st row k)
/-- the shape of a plan with rounds -/
def shp (st : Nat → Tb) (n : Nat) : Sh := (rows st (List.replicate n .o) n).headD .o
def part : Sh → Nat → Nat → Option Sh
  | s, i, j => if i = 0 ∧ j = s.size then some s else match s with
    | .o => none
    | .n a b => if j ≤ a.size then part a i j else if a.size ≤ i then part b (i - a.size) (j - a.size) else none
/-- above the stretches, the program's way -/
def abv : Sh → List (Nat × Nat) → Nat → Sh
  | .o, _, _ => .o
  | .n a b, ps, i => if (i, i + (a.size + b.size)) ∈ ps then .o else .n (abv a ps i) (abv b ps (i + a.size))
/-- .. the law's -/
def labv : Sh → List Nat → Option Sh
  | s, ds => if ds = [s.size] then some .o else match s with
    | .o => none
    | .n a b => if a.size ∈ ds then
        (match labv a (ds.filter (· ≤ a.size)), labv b ((ds.filter (a.size < ·)).map (· - a.size)) with
        | some x, some y => some (.n x y)
        | _, _ => none) else none
/-- the stretches of m lumps are pressed as they should be -/
def wst (t : Tb) (b m : Nat) : Bool := (stret m b).all fun p => decide (part (ent t m) p.1 p.2 = some (ent t (p.2 - p.1)))
def abvT (t : Tb) (b m : Nat) : Sh := abv (ent t m) (stret m b) 0
/-- the first number with so many stretches -/
def fstq (b q : Nat) : Nat := if q = 1 then 2 else (q - 1) * b + 1
/-- the numbers from 2 to n -/
def from2 (n : Nat) : List Nat := (List.range (n - 1)).map (· + 2)
def cutB (t : Tb) (b : Nat) : Bool := decide ((t.length + 1) % b = 0) && (from2 (t.length + 1)).all fun m => wst t b m && decide (abvT t b (fstq b (cl m b)) = abvT t b m)
def cuts (t : Tb) : List Nat := (from2 t.length).filter (cutB t)
def behP (t : Tb) (b : Nat) : Tb := (from2 ((t.length + 1) / b)).map fun m => abvT t b (m * b)
def primesF : Nat → Tb → List Tb
  | 0, t => [t]
  | k + 1, t => match cuts t with
    | [] => [t]
    | b :: _ => t.take (b - 1) :: primesF k (behP t b)
def primes (t : Tb) : List Tb := primesF t.length t
/-- the law's -/
def stops (m b : Nat) : List Nat := (stret m b).map (·.2)
def lcutB (t : Tb) (b : Nat) : Bool := decide ((t.length + 1) % b = 0) && (from2 (t.length + 1)).all fun m =>
  match labv (ent t m) (stops m b) with
  | none => false
  | some a => wst t b m && decide (labv (ent t (fstq b (cl m b))) (stops (fstq b (cl m b)) b) = some a)
def behL (t : Tb) (b : Nat) : List (Option Sh) := (from2 ((t.length + 1) / b)).map fun m => labv (ent t (m * b)) ((List.range m).map fun k => b * (k + 1))
def lprimesF : Nat → Tb → List Tb
  | 0, t => [t]
  | k + 1, t => match (from2 t.length).find? (lcutB t) with
    | none => [t]
    | some b => t.take (b - 1) :: lprimesF k ((behL t b).map (·.getD .o))
def lprimes (t : Tb) : List Tb := lprimesF t.length t
/-- glued -/
def lglue (s t : Tb) : Tb := (from2 ((s.length + 1) * (t.length + 1))).map fun m => fill (ent t (press s (List.replicate m .o)).length) (press s (List.replicate m .o))
/-! plans with rounds -/
structure Pl where
  ts : List Tb
  rd : List Tb
  deriving DecidableEq
def Pl.st (p : Pl) (k : Nat) : Tb := if k < p.ts.length then p.ts.getD k [] else p.rd.getD ((k - p.ts.length) % p.rd.length) []
def prims (ts : List Tb) : List Tb := ts.flatMap primes
def isRound (row : List Tb) (s : Nat) : Bool := decide (row.length % s = 0) && decide (row = (List.replicate (row.length / s) (row.take s)).flatten)
def srd (row : List Tb) : List Tb := match ((List.range (row.length - 1)).map (· + 1)).find? (isRound row) with
  | some s => row.take s
  | none => row
def rotF : Nat → List Tb → List Tb → Pl
  | 0, f, r => ⟨f, r⟩
  | k + 1, f, r => if f ≠ [] ∧ f.getLast? = r.getLast? then rotF k f.dropLast (r.getLast?.toList ++ r.dropLast) else ⟨f, r⟩
def Pl.plain (p : Pl) : Pl := rotF (prims p.ts).length (prims p.ts) (srd (prims p.rd))

/-! small facts -/
theorem size_pos : ∀ s : Sh, 0 < s.size
  | .o => by simp [Sh.size]
  | .n a b => by
    have h1 := size_pos a
    simp only [Sh.size]
    omega
theorem ht_size : ∀ s : Sh, s.ht < s.size
  | .o => by simp [Sh.ht, Sh.size]
  | .n a b => by
    have h1 := ht_size a
    have h2 := ht_size b
    simp only [Sh.ht, Sh.size]
    omega
theorem combL_size : ∀ k, (combL k).size = k + 1
  | 0 => rfl
  | k + 1 => by simp only [combL, Sh.size]; rw [combL_size k]
theorem combR_size : ∀ k, (combR k).size = k + 1
  | 0 => rfl
  | k + 1 => by simp only [combR, Sh.size]; rw [combR_size k]; omega
theorem halves_size : ∀ k n, 1 ≤ n → n ≤ k → (halvesF k n).size = n
  | 0, n, h1, h2 => by omega
  | k + 1, n, h1, h2 => by
    unfold halvesF
    by_cases h : n < 2
    · rw [if_pos h]
      simp only [Sh.size]
      omega
    · rw [if_neg h]
      simp only [Sh.size]
      rw [halves_size k (n - n / 2) (by omega) (by omega), halves_size k (n / 2) (by omega) (by omega)]
      omega
theorem fill_take : ∀ (s : Sh) (l : List Sh) (k : Nat), s.size ≤ k → fill s (l.take k) = fill s l
  | .o, l, k, h => by
    simp only [Sh.size] at h
    simp only [fill]
    cases l with
    | nil => simp
    | cons x l => cases k with
      | zero => omega
      | succ k => rfl
  | .n a b, l, k, h => by
    simp only [Sh.size] at h
    simp only [fill]
    rw [List.take_take, Nat.min_eq_left (by omega), List.drop_take, fill_take b (l.drop a.size) (k - a.size) (by omega)]
theorem fill_n (a b : Sh) (l : List Sh) : fill (.n a b) l = .n (fill a l) (fill b (l.drop a.size)) := by
  show Sh.n (fill a (l.take a.size)) _ = _
  rw [fill_take a l a.size (Nat.le_refl _)]
end Lh
end
section
set_option Elab.async false
set_option linter.all false
set_option maxRecDepth 100000
set_option maxHeartbeats 2000000
/-! shapes and tables as Python's data -/
namespace Lh
open PySem PySem.Spec PyProof.Rows L2
def shD : Sh → PyData
  | .o => .tuple []
  | .n a b => .tuple [shD a, shD b]
abbrev shs (l : List Sh) : List PyData := l.map shD
def tbD (t : Tb) : PyData := .tuple (shs t)
abbrev tbs (l : List Tb) : List PyData := l.map tbD
/-- rows of tables as a tuple -/
def tsD (l : List Tb) : PyData := .tuple (tbs l)
structure Nice (n : Nat) (d : PyData) : Prop where
  lay : d.canLay0 = true
  dep : d.depth ≤ n
theorem Nice.shaped {n : Nat} {d : PyData} (h : Nice n d) (hn : n ≤ 64 := by omega) : SeqAt.shaped d = true := by
  show (d.canLay0 && decide (d.depth ≤ 64)) = true
  rw [Bool.and_eq_true]
  exact ⟨h.lay, decide_eq_true (by have := h.dep; omega)⟩
theorem Nice.mono {n m : Nat} {d : PyData} (h : Nice n d) (hn : n ≤ m) : Nice m d := ⟨h.lay, Nat.le_trans h.dep hn⟩
theorem nice_all {n : Nat} : ∀ {ds : List PyData}, (∀ d ∈ ds, Nice n d) → PyData.canLayAll0 ds = true ∧ PyData.depthAll ds ≤ n
  | [], _ => ⟨by simp [PyData.canLayAll0], by simp [PyData.depthAll]⟩
  | d :: ds, h => by
    obtain ⟨h1, h2⟩ := nice_all (fun x hx => h x (List.mem_cons_of_mem _ hx))
    have h3 := h d List.mem_cons_self
    refine ⟨by simp [PyData.canLayAll0, h3.lay, h1], ?_⟩
    simp only [PyData.depthAll]
    have := h3.dep
    omega
theorem nice_tuple {n : Nat} {ds : List PyData} (h : ∀ d ∈ ds, Nice n d) : Nice (n + 1) (.tuple ds) := by
  obtain ⟨h1, h2⟩ := nice_all h
  exact ⟨by simp only [PyData.canLay0]; exact h1, by simp only [PyData.depth]; omega⟩
theorem nice_list {n : Nat} {ds : List PyData} (h : ∀ d ∈ ds, Nice n d) : Nice (n + 1) (.list ds) := by
  obtain ⟨h1, h2⟩ := nice_all h
  exact ⟨by simp only [PyData.canLay0]; exact h1, by simp only [PyData.depth]; omega⟩
theorem nice_int {n : Nat} {i : Int} : Nice n (.int i) := ⟨by simp [PyData.canLay0], by simp [PyData.depth]⟩
theorem nice_none {n : Nat} : Nice n .none := ⟨by simp [PyData.canLay0], by simp [PyData.depth]⟩
theorem nice_map {α : Type} {n : Nat} {f : α → PyData} {l : List α} (h : ∀ x ∈ l, Nice n (f x)) : ∀ d ∈ l.map f, Nice n d := fun d hd => by
  obtain ⟨x, hx, rfl⟩ := List.mem_map.mp hd
  exact h x hx
theorem nice_sh : ∀ {s : Sh} {n : Nat}, s.ht ≤ n → Nice (n + 1) (shD s)
  | .o, n, _ => nice_tuple (fun d hd => by cases hd)
  | .n a b, n, h => by
    have h' : max a.ht b.ht + 1 ≤ n := h
    obtain ⟨m, rfl⟩ : ∃ m, n = m + 1 := ⟨n - 1, by omega⟩
    refine nice_tuple (fun d hd => ?_)
    rcases List.mem_cons.mp hd with rfl | hd
    · exact nice_sh (by omega)
    · rw [List.mem_singleton.mp hd]
      exact nice_sh (by omega)
theorem nice_tb {t : Tb} {n : Nat} (h : ∀ s ∈ t, s.ht ≤ n) : Nice (n + 2) (tbD t) := nice_tuple (nice_map fun s hs => nice_sh (h s hs))
theorem eqvAll_map {α : Type} [DecidableEq α] {f : α → PyData} (h : ∀ x y, PyData.eqv (f x) (f y) = decide (x = y)) : ∀ xs ys : List α, PyData.eqvAll (xs.map f) (ys.map f) = decide (xs = ys)
  | [], [] => by simp [PyData.eqvAll]
  | [], _ :: _ => by simp [PyData.eqvAll]
  | _ :: _, [] => by simp [PyData.eqvAll]
  | x :: xs, y :: ys => by
    show PyData.eqvAll (f x :: xs.map f) (f y :: ys.map f) = _
    simp only [PyData.eqvAll]
    rw [h, eqvAll_map h xs ys]
    by_cases h1 : x = y
    · by_cases h2 : xs = ys
      · simp [h1, h2]
      · simp [h1, h2]
    · simp [h1]
theorem eqv_tuple {α : Type} [DecidableEq α] {f : α → PyData} (h : ∀ x y, PyData.eqv (f x) (f y) = decide (x = y)) (xs ys : List α) : PyData.eqv (.tuple (xs.map f)) (.tuple (ys.map f)) = decide (xs = ys) := by
  simp only [PyData.eqv]
  exact eqvAll_map h xs ys
theorem eqv_list {α : Type} [DecidableEq α] {f : α → PyData} (h : ∀ x y, PyData.eqv (f x) (f y) = decide (x = y)) (xs ys : List α) : PyData.eqv (.list (xs.map f)) (.list (ys.map f)) = decide (xs = ys) := by
  simp only [PyData.eqv]
  exact eqvAll_map h xs ys
theorem sh_eqv : ∀ s t : Sh, PyData.eqv (shD s) (shD t) = decide (s = t)
  | .o, .o => by simp [shD, PyData.eqv, PyData.eqvAll]
  | .o, .n _ _ => by simp [shD, PyData.eqv, PyData.eqvAll]
  | .n _ _, .o => by simp [shD, PyData.eqv, PyData.eqvAll]
  | .n a b, .n c d => by
    have h1 := sh_eqv a c
    have h2 := sh_eqv b d
    simp only [shD, PyData.eqv, PyData.eqvAll, h1, h2, Bool.and_true]
    by_cases e1 : a = c
    · by_cases e2 : b = d
      · simp [e1, e2]
      · simp [e1, e2]
    · simp [e1]
theorem tb_eqv (s t : Tb) : PyData.eqv (tbD s) (tbD t) = decide (s = t) := eqv_tuple sh_eqv s t
theorem ts_eqv (s t : List Tb) : PyData.eqv (tsD s) (tsD t) = decide (s = t) := eqv_tuple tb_eqv s t
theorem int_eqv (i j : Int) : PyData.eqv (.int i) (.int j) = decide (i = j) := by
  simp only [PyData.eqv, Bool.beq_eq_decide_eq]
/-- a shape's data is a tuple -/
theorem shD_o : shD .o = .tuple [] := rfl
theorem shD_n (a b : Sh) : shD (.n a b) = .tuple [shD a, shD b] := rfl
theorem isT_sh : ∀ s : Sh, ∃ ds, shD s = .tuple ds
  | .o => ⟨_, rfl⟩
  | .n _ _ => ⟨_, rfl⟩
theorem non_sh {s : Sh} : isNon (py (shD s)) false := by
  obtain ⟨ds, e⟩ := isT_sh s
  rw [e]
  exact non_tup
end Lh
end
section
set_option Elab.async false
set_option linter.all false
set_option maxRecDepth 100000
set_option maxHeartbeats 2000000
/-! what the top has left, by names -/
namespace Lh
open PySem PySem.Spec PyProof.Rows L2
structure Pg (K : PySem.W.Frag) (mg : Str → Option Value) : Prop where
  says : He.SaysD fas fns K
  more : ex K = true
  ns : ∃ h : Heap, K.In h ∧ h.Ns mainGlobals mg
section
variable {K : PySem.W.Frag} {mg : Str → Option Value}
theorem Pg.glo (Z : Pg K mg) (j : Nat) {x : Str} (h : fas[j]? = some (.glo x) := by rfl) : mg x = some (.ref (He.ga K x)) := by
  obtain ⟨hp, X, G⟩ := Z.ns
  exact He.glo_ok X G (Z.says.fact j h)
theorem Pg.fre (Z : Pg K mg) (j : Nat) {x : Str} (h : fas[j]? = some (.free x) := by rfl) : mg x = none := by
  obtain ⟨hp, X, G⟩ := Z.ns
  exact He.free_ok X G (Z.says.fact j h)
theorem Pg.f_is_integer (Z : Pg K mg) : ∃ fd, FunD K "is_integer" "is_integer" (defArgs s_is_integer) (defBody s_is_integer) (defScope s_is_integer) [] [] (He.ga K "is_integer") fd ∧ mg "is_integer" = some (.ref (He.ga K "is_integer")) := by
  obtain ⟨fd, F⟩ := Z.says.def_ 0 (d := d_is_integer) rfl
  exact ⟨fd, F, Z.glo 0⟩
theorem Pg.f_is_number (Z : Pg K mg) : ∃ fd, FunD K "is_number" "is_number" (defArgs s_is_number) (defBody s_is_number) (defScope s_is_number) [] [] (He.ga K "is_number") fd ∧ mg "is_number" = some (.ref (He.ga K "is_number")) := by
  obtain ⟨fd, F⟩ := Z.says.def_ 1 (d := d_is_number) rfl
  exact ⟨fd, F, Z.glo 1⟩
theorem Pg.f_wrong_shape (Z : Pg K mg) : ∃ fd, FunD K "wrong_shape" "wrong_shape" (defArgs s_wrong_shape) (defBody s_wrong_shape) (defScope s_wrong_shape) [] [] (He.ga K "wrong_shape") fd ∧ mg "wrong_shape" = some (.ref (He.ga K "wrong_shape")) := by
  obtain ⟨fd, F⟩ := Z.says.def_ 2 (d := d_wrong_shape) rfl
  exact ⟨fd, F, Z.glo 2⟩
theorem Pg.f_size_of (Z : Pg K mg) : ∃ fd, FunD K "size_of" "size_of" (defArgs s_size_of) (defBody s_size_of) (defScope s_size_of) [] [] (He.ga K "size_of") fd ∧ mg "size_of" = some (.ref (He.ga K "size_of")) := by
  obtain ⟨fd, F⟩ := Z.says.def_ 3 (d := d_size_of) rfl
  exact ⟨fd, F, Z.glo 3⟩
theorem Pg.f_wrong_sizes (Z : Pg K mg) : ∃ fd, FunD K "wrong_sizes" "wrong_sizes" (defArgs s_wrong_sizes) (defBody s_wrong_sizes) (defScope s_wrong_sizes) [] [] (He.ga K "wrong_sizes") fd ∧ mg "wrong_sizes" = some (.ref (He.ga K "wrong_sizes")) := by
  obtain ⟨fd, F⟩ := Z.says.def_ 4 (d := d_wrong_sizes) rfl
  exact ⟨fd, F, Z.glo 4⟩
theorem Pg.f_wrong_table (Z : Pg K mg) : ∃ fd, FunD K "wrong_table" "wrong_table" (defArgs s_wrong_table) (defBody s_wrong_table) (defScope s_wrong_table) [] [] (He.ga K "wrong_table") fd ∧ mg "wrong_table" = some (.ref (He.ga K "wrong_table")) := by
  obtain ⟨fd, F⟩ := Z.says.def_ 5 (d := d_wrong_table) rfl
  exact ⟨fd, F, Z.glo 5⟩
theorem Pg.f_table_size (Z : Pg K mg) : ∃ fd, FunD K "table_size" "table_size" (defArgs s_table_size) (defBody s_table_size) (defScope s_table_size) [] [] (He.ga K "table_size") fd ∧ mg "table_size" = some (.ref (He.ga K "table_size")) := by
  obtain ⟨fd, F⟩ := Z.says.def_ 6 (d := d_table_size) rfl
  exact ⟨fd, F, Z.glo 6⟩
theorem Pg.f_entry (Z : Pg K mg) : ∃ fd, FunD K "entry" "entry" (defArgs s_entry) (defBody s_entry) (defScope s_entry) [] [] (He.ga K "entry") fd ∧ mg "entry" = some (.ref (He.ga K "entry")) := by
  obtain ⟨fd, F⟩ := Z.says.def_ 7 (d := d_entry) rfl
  exact ⟨fd, F, Z.glo 7⟩
theorem Pg.f_wrong_member (Z : Pg K mg) : ∃ fd, FunD K "wrong_member" "wrong_member" (defArgs s_wrong_member) (defBody s_wrong_member) (defScope s_wrong_member) [] [] (He.ga K "wrong_member") fd ∧ mg "wrong_member" = some (.ref (He.ga K "wrong_member")) := by
  obtain ⟨fd, F⟩ := Z.says.def_ 8 (d := d_wrong_member) rfl
  exact ⟨fd, F, Z.glo 8⟩
theorem Pg.f_wrong_plan (Z : Pg K mg) : ∃ fd, FunD K "wrong_plan" "wrong_plan" (defArgs s_wrong_plan) (defBody s_wrong_plan) (defScope s_wrong_plan) [] [] (He.ga K "wrong_plan") fd ∧ mg "wrong_plan" = some (.ref (He.ga K "wrong_plan")) := by
  obtain ⟨fd, F⟩ := Z.says.def_ 9 (d := d_wrong_plan) rfl
  exact ⟨fd, F, Z.glo 9⟩
theorem Pg.f_Plan_init (Z : Pg K mg) : ∃ fd, FunD K "__init__" "Plan.__init__" (defArgs s_Plan_init) (defBody s_Plan_init) (defScope s_Plan_init) [] [] (He.ma K (He.ga K "Plan") "__init__") fd := by
  obtain ⟨fd, F⟩ := Z.says.def_ 10 (d := d_Plan_init) rfl
  exact ⟨fd, F⟩
theorem Pg.f_Plan_eq (Z : Pg K mg) : ∃ fd, FunD K "__eq__" "Plan.__eq__" (defArgs s_Plan_eq) (defBody s_Plan_eq) (defScope s_Plan_eq) [] [] (He.ma K (He.ga K "Plan") "__eq__") fd := by
  obtain ⟨fd, F⟩ := Z.says.def_ 11 (d := d_Plan_eq) rfl
  exact ⟨fd, F⟩
theorem Pg.f_Plan_tables (Z : Pg K mg) : ∃ fd, FunD K "tables" "Plan.tables" (defArgs s_Plan_tables) (defBody s_Plan_tables) (defScope s_Plan_tables) [] [] (He.ma K (He.ga K "Plan") "tables") fd := by
  obtain ⟨fd, F⟩ := Z.says.def_ 12 (d := d_Plan_tables) rfl
  exact ⟨fd, F⟩
theorem Pg.f_Plan_end (Z : Pg K mg) : ∃ fd, FunD K "end" "Plan.end" (defArgs s_Plan_end) (defBody s_Plan_end) (defScope s_Plan_end) [] [] (He.ma K (He.ga K "Plan") "end") fd := by
  obtain ⟨fd, F⟩ := Z.says.def_ 13 (d := d_Plan_end) rfl
  exact ⟨fd, F⟩
theorem Pg.f_Plan_stage (Z : Pg K mg) : ∃ fd, FunD K "stage" "Plan.stage" (defArgs s_Plan_stage) (defBody s_Plan_stage) (defScope s_Plan_stage) [] [] (He.ma K (He.ga K "Plan") "stage") fd := by
  obtain ⟨fd, F⟩ := Z.says.def_ 14 (d := d_Plan_stage) rfl
  exact ⟨fd, F⟩
theorem Pg.f_stretches (Z : Pg K mg) : ∃ fd, FunD K "stretches" "stretches" (defArgs s_stretches) (defBody s_stretches) (defScope s_stretches) [] [] (He.ga K "stretches") fd ∧ mg "stretches" = some (.ref (He.ga K "stretches")) := by
  obtain ⟨fd, F⟩ := Z.says.def_ 15 (d := d_stretches) rfl
  exact ⟨fd, F, Z.glo 10⟩
theorem Pg.f_put_parts (Z : Pg K mg) : ∃ fd, FunD K "put_parts" "put_parts" (defArgs s_put_parts) (defBody s_put_parts) (defScope s_put_parts) [] [] (He.ga K "put_parts") fd ∧ mg "put_parts" = some (.ref (He.ga K "put_parts")) := by
  obtain ⟨fd, F⟩ := Z.says.def_ 16 (d := d_put_parts) rfl
  exact ⟨fd, F, Z.glo 11⟩
theorem Pg.f_parts_of (Z : Pg K mg) : ∃ fd, FunD K "parts_of" "parts_of" (defArgs s_parts_of) (defBody s_parts_of) (defScope s_parts_of) [] [] (He.ga K "parts_of") fd ∧ mg "parts_of" = some (.ref (He.ga K "parts_of")) := by
  obtain ⟨fd, F⟩ := Z.says.def_ 17 (d := d_parts_of) rfl
  exact ⟨fd, F, Z.glo 12⟩
theorem Pg.f_wrong_stretch (Z : Pg K mg) : ∃ fd, FunD K "wrong_stretch" "wrong_stretch" (defArgs s_wrong_stretch) (defBody s_wrong_stretch) (defScope s_wrong_stretch) [] [] (He.ga K "wrong_stretch") fd ∧ mg "wrong_stretch" = some (.ref (He.ga K "wrong_stretch")) := by
  obtain ⟨fd, F⟩ := Z.says.def_ 18 (d := d_wrong_stretch) rfl
  exact ⟨fd, F, Z.glo 13⟩
theorem Pg.f_above (Z : Pg K mg) : ∃ fd, FunD K "above" "above" (defArgs s_above) (defBody s_above) (defScope s_above) [] [] (He.ga K "above") fd ∧ mg "above" = some (.ref (He.ga K "above")) := by
  obtain ⟨fd, F⟩ := Z.says.def_ 19 (d := d_above) rfl
  exact ⟨fd, F, Z.glo 14⟩
theorem Pg.f_shape_above (Z : Pg K mg) : ∃ fd, FunD K "shape_above" "shape_above" (defArgs s_shape_above) (defBody s_shape_above) (defScope s_shape_above) [] [] (He.ga K "shape_above") fd ∧ mg "shape_above" = some (.ref (He.ga K "shape_above")) := by
  obtain ⟨fd, F⟩ := Z.says.def_ 20 (d := d_shape_above) rfl
  exact ⟨fd, F, Z.glo 15⟩
theorem Pg.f_counter (Z : Pg K mg) : ∃ fd, FunD K "counter" "counter" (defArgs s_counter) (defBody s_counter) (defScope s_counter) [] [] (He.ga K "counter") fd ∧ mg "counter" = some (.ref (He.ga K "counter")) := by
  obtain ⟨fd, F⟩ := Z.says.def_ 21 (d := d_counter) rfl
  exact ⟨fd, F, Z.glo 16⟩
theorem Pg.f_is_cut (Z : Pg K mg) : ∃ fd, FunD K "is_cut" "is_cut" (defArgs s_is_cut) (defBody s_is_cut) (defScope s_is_cut) [] [] (He.ga K "is_cut") fd ∧ mg "is_cut" = some (.ref (He.ga K "is_cut")) := by
  obtain ⟨fd, F⟩ := Z.says.def_ 22 (d := d_is_cut) rfl
  exact ⟨fd, F, Z.glo 17⟩
theorem Pg.f_cuts (Z : Pg K mg) : ∃ fd, FunD K "cuts" "cuts" (defArgs s_cuts) (defBody s_cuts) (defScope s_cuts) [] [] (He.ga K "cuts") fd ∧ mg "cuts" = some (.ref (He.ga K "cuts")) := by
  obtain ⟨fd, F⟩ := Z.says.def_ 23 (d := d_cuts) rfl
  exact ⟨fd, F, Z.glo 18⟩
theorem Pg.f_behind (Z : Pg K mg) : ∃ fd, FunD K "behind" "behind" (defArgs s_behind) (defBody s_behind) (defScope s_behind) [] [] (He.ga K "behind") fd ∧ mg "behind" = some (.ref (He.ga K "behind")) := by
  obtain ⟨fd, F⟩ := Z.says.def_ 24 (d := d_behind) rfl
  exact ⟨fd, F, Z.glo 19⟩
theorem Pg.f_is_prime_table (Z : Pg K mg) : ∃ fd, FunD K "is_prime_table" "is_prime_table" (defArgs s_is_prime_table) (defBody s_is_prime_table) (defScope s_is_prime_table) [] [] (He.ga K "is_prime_table") fd ∧ mg "is_prime_table" = some (.ref (He.ga K "is_prime_table")) := by
  obtain ⟨fd, F⟩ := Z.says.def_ 25 (d := d_is_prime_table) rfl
  exact ⟨fd, F, Z.glo 20⟩
theorem Pg.f_primes (Z : Pg K mg) : ∃ fd, FunD K "primes" "primes" (defArgs s_primes) (defBody s_primes) (defScope s_primes) [] [] (He.ga K "primes") fd ∧ mg "primes" = some (.ref (He.ga K "primes")) := by
  obtain ⟨fd, F⟩ := Z.says.def_ 26 (d := d_primes) rfl
  exact ⟨fd, F, Z.glo 21⟩
theorem Pg.f_shortest_round (Z : Pg K mg) : ∃ fd, FunD K "shortest_round" "shortest_round" (defArgs s_shortest_round) (defBody s_shortest_round) (defScope s_shortest_round) [] [] (He.ga K "shortest_round") fd ∧ mg "shortest_round" = some (.ref (He.ga K "shortest_round")) := by
  obtain ⟨fd, F⟩ := Z.says.def_ 27 (d := d_shortest_round) rfl
  exact ⟨fd, F, Z.glo 22⟩
theorem Pg.f_plain (Z : Pg K mg) : ∃ fd, FunD K "plain" "plain" (defArgs s_plain) (defBody s_plain) (defScope s_plain) [] [] (He.ga K "plain") fd ∧ mg "plain" = some (.ref (He.ga K "plain")) := by
  obtain ⟨fd, F⟩ := Z.says.def_ 28 (d := d_plain) rfl
  exact ⟨fd, F, Z.glo 23⟩
theorem Pg.f_are_alike (Z : Pg K mg) : ∃ fd, FunD K "are_alike" "are_alike" (defArgs s_are_alike) (defBody s_are_alike) (defScope s_are_alike) [] [] (He.ga K "are_alike") fd ∧ mg "are_alike" = some (.ref (He.ga K "are_alike")) := by
  obtain ⟨fd, F⟩ := Z.says.def_ 29 (d := d_are_alike) rfl
  exact ⟨fd, F, Z.glo 24⟩
theorem Pg.f_filled (Z : Pg K mg) : ∃ fd, FunD K "filled" "filled" (defArgs s_filled) (defBody s_filled) (defScope s_filled) [] [] (He.ga K "filled") fd ∧ mg "filled" = some (.ref (He.ga K "filled")) := by
  obtain ⟨fd, F⟩ := Z.says.def_ 30 (d := d_filled) rfl
  exact ⟨fd, F, Z.glo 25⟩
theorem Pg.f_pressed (Z : Pg K mg) : ∃ fd, FunD K "pressed" "pressed" (defArgs s_pressed) (defBody s_pressed) (defScope s_pressed) [] [] (He.ga K "pressed") fd ∧ mg "pressed" = some (.ref (He.ga K "pressed")) := by
  obtain ⟨fd, F⟩ := Z.says.def_ 31 (d := d_pressed) rfl
  exact ⟨fd, F, Z.glo 26⟩
theorem Pg.f_shape (Z : Pg K mg) : ∃ fd, FunD K "shape" "shape" (defArgs s_shape) (defBody s_shape) (defScope s_shape) [] [] (He.ga K "shape") fd ∧ mg "shape" = some (.ref (He.ga K "shape")) := by
  obtain ⟨fd, F⟩ := Z.says.def_ 32 (d := d_shape) rfl
  exact ⟨fd, F, Z.glo 27⟩
theorem Pg.f_common_beginning (Z : Pg K mg) : ∃ fd, FunD K "common_beginning" "common_beginning" (defArgs s_common_beginning) (defBody s_common_beginning) (defScope s_common_beginning) [] [] (He.ga K "common_beginning") fd ∧ mg "common_beginning" = some (.ref (He.ga K "common_beginning")) := by
  obtain ⟨fd, F⟩ := Z.says.def_ 33 (d := d_common_beginning) rfl
  exact ⟨fd, F, Z.glo 28⟩
theorem Pg.f_left_behind (Z : Pg K mg) : ∃ fd, FunD K "left_behind" "left_behind" (defArgs s_left_behind) (defBody s_left_behind) (defScope s_left_behind) [] [] (He.ga K "left_behind") fd ∧ mg "left_behind" = some (.ref (He.ga K "left_behind")) := by
  obtain ⟨fd, F⟩ := Z.says.def_ 34 (d := d_left_behind) rfl
  exact ⟨fd, F, Z.glo 29⟩
theorem Pg.f_rests (Z : Pg K mg) : ∃ fd, FunD K "rests" "rests" (defArgs s_rests) (defBody s_rests) (defScope s_rests) [] [] (He.ga K "rests") fd ∧ mg "rests" = some (.ref (He.ga K "rests")) := by
  obtain ⟨fd, F⟩ := Z.says.def_ 35 (d := d_rests) rfl
  exact ⟨fd, F, Z.glo 30⟩
theorem Pg.f_least_unlike (Z : Pg K mg) : ∃ fd, FunD K "least_unlike" "least_unlike" (defArgs s_least_unlike) (defBody s_least_unlike) (defScope s_least_unlike) [] [] (He.ga K "least_unlike") fd ∧ mg "least_unlike" = some (.ref (He.ga K "least_unlike")) := by
  obtain ⟨fd, F⟩ := Z.says.def_ 36 (d := d_least_unlike) rfl
  exact ⟨fd, F, Z.glo 31⟩
theorem Pg.f_least_parting (Z : Pg K mg) : ∃ fd, FunD K "least_parting" "least_parting" (defArgs s_least_parting) (defBody s_least_parting) (defScope s_least_parting) [] [] (He.ga K "least_parting") fd ∧ mg "least_parting" = some (.ref (He.ga K "least_parting")) := by
  obtain ⟨fd, F⟩ := Z.says.def_ 37 (d := d_least_parting) rfl
  exact ⟨fd, F, Z.glo 32⟩
theorem Pg.f_parting (Z : Pg K mg) : ∃ fd, FunD K "parting" "parting" (defArgs s_parting) (defBody s_parting) (defScope s_parting) [] [] (He.ga K "parting") fd ∧ mg "parting" = some (.ref (He.ga K "parting")) := by
  obtain ⟨fd, F⟩ := Z.says.def_ 38 (d := d_parting) rfl
  exact ⟨fd, F, Z.glo 33⟩
theorem Pg.f_law_source (Z : Pg K mg) : ∃ fd, FunD K "_law_source" "_law_source" (defArgs s_law_source) (defBody s_law_source) (defScope s_law_source) [] [] (He.ga K "_law_source") fd ∧ mg "_law_source" = some (.ref (He.ga K "_law_source")) := by
  obtain ⟨fd, F⟩ := Z.says.def_ 39 (d := d_law_source) rfl
  exact ⟨fd, F, Z.glo 34⟩
theorem Pg.f_law_pick (Z : Pg K mg) : ∃ fd, FunD K "_law_pick" "_law_pick" (defArgs s_law_pick) (defBody s_law_pick) (defScope s_law_pick) [] [] (He.ga K "_law_pick") fd ∧ mg "_law_pick" = some (.ref (He.ga K "_law_pick")) := by
  obtain ⟨fd, F⟩ := Z.says.def_ 40 (d := d_law_pick) rfl
  exact ⟨fd, F, Z.glo 35⟩
theorem Pg.f_law_of (Z : Pg K mg) : ∃ fd, FunD K "_law_of" "_law_of" (defArgs s_law_of) (defBody s_law_of) (defScope s_law_of) [] [] (He.ga K "_law_of") fd ∧ mg "_law_of" = some (.ref (He.ga K "_law_of")) := by
  obtain ⟨fd, F⟩ := Z.says.def_ 41 (d := d_law_of) rfl
  exact ⟨fd, F, Z.glo 36⟩
theorem Pg.f_law_comb (Z : Pg K mg) : ∃ fd, FunD K "_law_comb" "_law_comb" (defArgs s_law_comb) (defBody s_law_comb) (defScope s_law_comb) [] [] (He.ga K "_law_comb") fd ∧ mg "_law_comb" = some (.ref (He.ga K "_law_comb")) := by
  obtain ⟨fd, F⟩ := Z.says.def_ 42 (d := d_law_comb) rfl
  exact ⟨fd, F, Z.glo 37⟩
theorem Pg.f_law_halves (Z : Pg K mg) : ∃ fd, FunD K "_law_halves" "_law_halves" (defArgs s_law_halves) (defBody s_law_halves) (defScope s_law_halves) [] [] (He.ga K "_law_halves") fd ∧ mg "_law_halves" = some (.ref (He.ga K "_law_halves")) := by
  obtain ⟨fd, F⟩ := Z.says.def_ 43 (d := d_law_halves) rfl
  exact ⟨fd, F, Z.glo 38⟩
theorem Pg.f_law_shape (Z : Pg K mg) : ∃ fd, FunD K "_law_shape" "_law_shape" (defArgs s_law_shape) (defBody s_law_shape) (defScope s_law_shape) [] [] (He.ga K "_law_shape") fd ∧ mg "_law_shape" = some (.ref (He.ga K "_law_shape")) := by
  obtain ⟨fd, F⟩ := Z.says.def_ 44 (d := d_law_shape) rfl
  exact ⟨fd, F, Z.glo 39⟩
theorem Pg.f_law_size (Z : Pg K mg) : ∃ fd, FunD K "_law_size" "_law_size" (defArgs s_law_size) (defBody s_law_size) (defScope s_law_size) [] [] (He.ga K "_law_size") fd ∧ mg "_law_size" = some (.ref (He.ga K "_law_size")) := by
  obtain ⟨fd, F⟩ := Z.says.def_ 45 (d := d_law_size) rfl
  exact ⟨fd, F, Z.glo 40⟩
theorem Pg.f_law_any_table (Z : Pg K mg) : ∃ fd, FunD K "_law_any_table" "_law_any_table" (defArgs s_law_any_table) (defBody s_law_any_table) (defScope s_law_any_table) [] [] (He.ga K "_law_any_table") fd ∧ mg "_law_any_table" = some (.ref (He.ga K "_law_any_table")) := by
  obtain ⟨fd, F⟩ := Z.says.def_ 46 (d := d_law_any_table) rfl
  exact ⟨fd, F, Z.glo 41⟩
theorem Pg.f_law_entry (Z : Pg K mg) : ∃ fd, FunD K "_law_entry" "_law_entry" (defArgs s_law_entry) (defBody s_law_entry) (defScope s_law_entry) [] [] (He.ga K "_law_entry") fd ∧ mg "_law_entry" = some (.ref (He.ga K "_law_entry")) := by
  obtain ⟨fd, F⟩ := Z.says.def_ 47 (d := d_law_entry) rfl
  exact ⟨fd, F, Z.glo 42⟩
theorem Pg.f_law_filled (Z : Pg K mg) : ∃ fd, FunD K "_law_filled" "_law_filled" (defArgs s_law_filled) (defBody s_law_filled) (defScope s_law_filled) [] [] (He.ga K "_law_filled") fd ∧ mg "_law_filled" = some (.ref (He.ga K "_law_filled")) := by
  obtain ⟨fd, F⟩ := Z.says.def_ 48 (d := d_law_filled) rfl
  exact ⟨fd, F, Z.glo 43⟩
theorem Pg.f_law_pressed (Z : Pg K mg) : ∃ fd, FunD K "_law_pressed" "_law_pressed" (defArgs s_law_pressed) (defBody s_law_pressed) (defScope s_law_pressed) [] [] (He.ga K "_law_pressed") fd ∧ mg "_law_pressed" = some (.ref (He.ga K "_law_pressed")) := by
  obtain ⟨fd, F⟩ := Z.says.def_ 49 (d := d_law_pressed) rfl
  exact ⟨fd, F, Z.glo 44⟩
theorem Pg.f_law_glue (Z : Pg K mg) : ∃ fd, FunD K "_law_glue" "_law_glue" (defArgs s_law_glue) (defBody s_law_glue) (defScope s_law_glue) [] [] (He.ga K "_law_glue") fd ∧ mg "_law_glue" = some (.ref (He.ga K "_law_glue")) := by
  obtain ⟨fd, F⟩ := Z.says.def_ 50 (d := d_law_glue) rfl
  exact ⟨fd, F, Z.glo 45⟩
theorem Pg.f_law_table (Z : Pg K mg) : ∃ fd, FunD K "_law_table" "_law_table" (defArgs s_law_table) (defBody s_law_table) (defScope s_law_table) [] [] (He.ga K "_law_table") fd ∧ mg "_law_table" = some (.ref (He.ga K "_law_table")) := by
  obtain ⟨fd, F⟩ := Z.says.def_ 51 (d := d_law_table) rfl
  exact ⟨fd, F, Z.glo 46⟩
theorem Pg.f_law_made (Z : Pg K mg) : ∃ fd, FunD K "_law_made" "_law_made" (defArgs s_law_made) (defBody s_law_made) (defScope s_law_made) [] [] (He.ga K "_law_made") fd ∧ mg "_law_made" = some (.ref (He.ga K "_law_made")) := by
  obtain ⟨fd, F⟩ := Z.says.def_ 52 (d := d_law_made) rfl
  exact ⟨fd, F, Z.glo 47⟩
theorem Pg.f_law_stage (Z : Pg K mg) : ∃ fd, FunD K "_law_stage" "_law_stage" (defArgs s_law_stage) (defBody s_law_stage) (defScope s_law_stage) [] [] (He.ga K "_law_stage") fd ∧ mg "_law_stage" = some (.ref (He.ga K "_law_stage")) := by
  obtain ⟨fd, F⟩ := Z.says.def_ 53 (d := d_law_stage) rfl
  exact ⟨fd, F, Z.glo 48⟩
theorem Pg.f_law_told (Z : Pg K mg) : ∃ fd, FunD K "_law_told" "_law_told" (defArgs s_law_told) (defBody s_law_told) (defScope s_law_told) [] [] (He.ga K "_law_told") fd ∧ mg "_law_told" = some (.ref (He.ga K "_law_told")) := by
  obtain ⟨fd, F⟩ := Z.says.def_ 54 (d := d_law_told) rfl
  exact ⟨fd, F, Z.glo 49⟩
theorem Pg.f_law_part (Z : Pg K mg) : ∃ fd, FunD K "_law_part" "_law_part" (defArgs s_law_part) (defBody s_law_part) (defScope s_law_part) [] [] (He.ga K "_law_part") fd ∧ mg "_law_part" = some (.ref (He.ga K "_law_part")) := by
  obtain ⟨fd, F⟩ := Z.says.def_ 55 (d := d_law_part) rfl
  exact ⟨fd, F, Z.glo 50⟩
theorem Pg.f_law_above (Z : Pg K mg) : ∃ fd, FunD K "_law_above" "_law_above" (defArgs s_law_above) (defBody s_law_above) (defScope s_law_above) [] [] (He.ga K "_law_above") fd ∧ mg "_law_above" = some (.ref (He.ga K "_law_above")) := by
  obtain ⟨fd, F⟩ := Z.says.def_ 56 (d := d_law_above) rfl
  exact ⟨fd, F, Z.glo 51⟩
theorem Pg.f_law_is_cut (Z : Pg K mg) : ∃ fd, FunD K "_law_is_cut" "_law_is_cut" (defArgs s_law_is_cut) (defBody s_law_is_cut) (defScope s_law_is_cut) [] [] (He.ga K "_law_is_cut") fd ∧ mg "_law_is_cut" = some (.ref (He.ga K "_law_is_cut")) := by
  obtain ⟨fd, F⟩ := Z.says.def_ 57 (d := d_law_is_cut) rfl
  exact ⟨fd, F, Z.glo 52⟩
theorem Pg.f_law_behind (Z : Pg K mg) : ∃ fd, FunD K "_law_behind" "_law_behind" (defArgs s_law_behind) (defBody s_law_behind) (defScope s_law_behind) [] [] (He.ga K "_law_behind") fd ∧ mg "_law_behind" = some (.ref (He.ga K "_law_behind")) := by
  obtain ⟨fd, F⟩ := Z.says.def_ 58 (d := d_law_behind) rfl
  exact ⟨fd, F, Z.glo 53⟩
theorem Pg.f_law_primes (Z : Pg K mg) : ∃ fd, FunD K "_law_primes" "_law_primes" (defArgs s_law_primes) (defBody s_law_primes) (defScope s_law_primes) [] [] (He.ga K "_law_primes") fd ∧ mg "_law_primes" = some (.ref (He.ga K "_law_primes")) := by
  obtain ⟨fd, F⟩ := Z.says.def_ 59 (d := d_law_primes) rfl
  exact ⟨fd, F, Z.glo 54⟩
theorem Pg.f_law_prime_list (Z : Pg K mg) : ∃ fd, FunD K "_law_prime_list" "_law_prime_list" (defArgs s_law_prime_list) (defBody s_law_prime_list) (defScope s_law_prime_list) [] [] (He.ga K "_law_prime_list") fd ∧ mg "_law_prime_list" = some (.ref (He.ga K "_law_prime_list")) := by
  obtain ⟨fd, F⟩ := Z.says.def_ 60 (d := d_law_prime_list) rfl
  exact ⟨fd, F, Z.glo 55⟩
theorem Pg.f_law_plain (Z : Pg K mg) : ∃ fd, FunD K "_law_plain" "_law_plain" (defArgs s_law_plain) (defBody s_law_plain) (defScope s_law_plain) [] [] (He.ga K "_law_plain") fd ∧ mg "_law_plain" = some (.ref (He.ga K "_law_plain")) := by
  obtain ⟨fd, F⟩ := Z.says.def_ 61 (d := d_law_plain) rfl
  exact ⟨fd, F, Z.glo 56⟩
theorem Pg.f_law_behind_primes (Z : Pg K mg) : ∃ fd, FunD K "_law_behind_primes" "_law_behind_primes" (defArgs s_law_behind_primes) (defBody s_law_behind_primes) (defScope s_law_behind_primes) [] [] (He.ga K "_law_behind_primes") fd ∧ mg "_law_behind_primes" = some (.ref (He.ga K "_law_behind_primes")) := by
  obtain ⟨fd, F⟩ := Z.says.def_ 62 (d := d_law_behind_primes) rfl
  exact ⟨fd, F, Z.glo 57⟩
theorem Pg.f_law_common (Z : Pg K mg) : ∃ fd, FunD K "_law_common" "_law_common" (defArgs s_law_common) (defBody s_law_common) (defScope s_law_common) [] [] (He.ga K "_law_common") fd ∧ mg "_law_common" = some (.ref (He.ga K "_law_common")) := by
  obtain ⟨fd, F⟩ := Z.says.def_ 63 (d := d_law_common) rfl
  exact ⟨fd, F, Z.glo 58⟩
theorem Pg.f_law_rests (Z : Pg K mg) : ∃ fd, FunD K "_law_rests" "_law_rests" (defArgs s_law_rests) (defBody s_law_rests) (defScope s_law_rests) [] [] (He.ga K "_law_rests") fd ∧ mg "_law_rests" = some (.ref (He.ga K "_law_rests")) := by
  obtain ⟨fd, F⟩ := Z.says.def_ 64 (d := d_law_rests) rfl
  exact ⟨fd, F, Z.glo 59⟩
theorem Pg.f_law_unlike_at (Z : Pg K mg) : ∃ fd, FunD K "_law_unlike_at" "_law_unlike_at" (defArgs s_law_unlike_at) (defBody s_law_unlike_at) (defScope s_law_unlike_at) [] [] (He.ga K "_law_unlike_at") fd ∧ mg "_law_unlike_at" = some (.ref (He.ga K "_law_unlike_at")) := by
  obtain ⟨fd, F⟩ := Z.says.def_ 65 (d := d_law_unlike_at) rfl
  exact ⟨fd, F, Z.glo 60⟩
theorem Pg.f_law (Z : Pg K mg) : ∃ fd, FunD K "law" "law" (defArgs s_law) (defBody s_law) (defScope s_law) [] [] (He.ga K "law") fd ∧ mg "law" = some (.ref (He.ga K "law")) := by
  obtain ⟨fd, F⟩ := Z.says.def_ 66 (d := d_law) rfl
  exact ⟨fd, F, Z.glo 61⟩
theorem Pg.g_Plan (Z : Pg K mg) : mg "Plan" = some (.ref (He.ga K "Plan")) := Z.glo 62
theorem Pg.g_ENDS (Z : Pg K mg) : mg "ENDS" = some (.ref (He.ga K "ENDS")) := Z.glo 63
theorem Pg.n_len (Z : Pg K mg) : mg "len" = none := Z.fre 64
theorem Pg.n_isinstance (Z : Pg K mg) : mg "isinstance" = none := Z.fre 65
theorem Pg.n_tuple (Z : Pg K mg) : mg "tuple" = none := Z.fre 66
theorem Pg.n_list (Z : Pg K mg) : mg "list" = none := Z.fre 67
theorem Pg.n_int (Z : Pg K mg) : mg "int" = none := Z.fre 68
theorem Pg.n_bool (Z : Pg K mg) : mg "bool" = none := Z.fre 69
theorem Pg.n_str (Z : Pg K mg) : mg "str" = none := Z.fre 70
theorem Pg.n_range (Z : Pg K mg) : mg "range" = none := Z.fre 71
theorem Pg.n_enumerate (Z : Pg K mg) : mg "enumerate" = none := Z.fre 72
theorem Pg.n_min (Z : Pg K mg) : mg "min" = none := Z.fre 73
theorem Pg.n_max (Z : Pg K mg) : mg "max" = none := Z.fre 74
theorem Pg.n_sum (Z : Pg K mg) : mg "sum" = none := Z.fre 75
theorem Pg.n_abs (Z : Pg K mg) : mg "abs" = none := Z.fre 76
theorem Pg.cls (Z : Pg K mg) : Cls K (He.ga K "Plan") := He.cls_ok (x := "Plan") (Z.says.fact 77)
theorem Pg.na_own_tables (Z : Pg K mg) : NoAttr K (He.ga K "Plan") "own_tables" := He.noat_ok (x := "Plan") (Z.says.fact 78)
theorem Pg.na_own_end (Z : Pg K mg) : NoAttr K (He.ga K "Plan") "own_end" := He.noat_ok (x := "Plan") (Z.says.fact 79)
theorem Pg.m_tables (Z : Pg K mg) : Meth K (He.ga K "Plan") "tables" (He.ma K (He.ga K "Plan") "tables") := He.meth_ok (x := "Plan") (Z.says.fact 80)
theorem Pg.m_end (Z : Pg K mg) : Meth K (He.ga K "Plan") "end" (He.ma K (He.ga K "Plan") "end") := He.meth_ok (x := "Plan") (Z.says.fact 81)
theorem Pg.m_stage (Z : Pg K mg) : Meth K (He.ga K "Plan") "stage" (He.ma K (He.ga K "Plan") "stage") := He.meth_ok (x := "Plan") (Z.says.fact 82)
theorem Pg.m_eq (Z : Pg K mg) : Meth K (He.ga K "Plan") "__eq__" (He.ma K (He.ga K "Plan") "__eq__") := He.meth_ok (x := "Plan") (Z.says.fact 83)
theorem Pg.mk_ (Z : Pg K mg) : Mk K (He.ga K "Plan") (He.ma K (He.ga K "Plan") "__init__") := He.mkr_ok (x := "Plan") (Z.says.fact 84)
theorem Pg.mores (Z : Pg K mg) : PySem.W.findIn K (.ref (He.ga K "Plan")) "__class__" = some (some (.builtin "object.__class__")) ∧ PySem.W.specialIn K (.builtin "object.__class__") "__get__" = some (some (.builtin "getset_descriptor.__get__"))
    ∧ PySem.W.takesIn K (.builtin "object.__class__") = some true ∧ PySem.W.mroIn K (He.ga K "Plan") (.type "object") = some true ∧ PySem.W.kitOne K (.ref (He.ga K "Plan")) (.ref (He.ga K "Plan")) = some true
    ∧ PySem.W.findIn K (.ref (He.ga K "Plan")) "__ne__" = some (some (.builtin "object.__ne__")) ∧ He.tupB K "ENDS" [.str "left", .str "right"] = true := by
  obtain ⟨h1, h⟩ := He.ba Z.more
  obtain ⟨h2, h⟩ := He.ba h
  obtain ⟨h3, h⟩ := He.ba h
  obtain ⟨h4, h⟩ := He.ba h
  obtain ⟨h5, h⟩ := He.ba h
  obtain ⟨h6, h⟩ := He.ba h
  exact ⟨He.eqO_ok h1, He.eqO_ok h2, of_decide_eq_true h3, of_decide_eq_true h4, of_decide_eq_true h5, He.eqO_ok h6, h⟩
theorem Pg.t_ENDS (Z : Pg K mg) (H : Hp) : SqT K H (He.ga K "ENDS") [.str "left", .str "right"] := He.tupB_ok Z.mores.2.2.2.2.2.2 H
end
end Lh
end
section
set_option Elab.async false
set_option linter.all false
set_option maxRecDepth 100000
set_option maxHeartbeats 4000000
/-! plans: instances of the class Plan -/
namespace Lh
open PySem PySem.Spec PyProof.Rows L2
/-! ### methods' contracts -/
structure FnM (P : Program) (w : World) (K : PySem.W.Frag) (mg : Str → Option Value) (base : Heap) (kk : Nat) (f : Addr) (pre : Pre) : Prop where
  ex : ∃ (fd : FuncData) (ps : List Str), PySem.W.keepIn K (.ref f) = true ∧ Binds K fd ps [] ∧ FnOk P w K mg base CX0 kk f fd ps (spD K pre)
theorem FnM.mono {P : Program} {w : World} {K : PySem.W.Frag} {mg : Str → Option Value} {base : Heap} {j kk : Nat} {f : Addr} {pre : Pre} (F : FnM P w K mg base j f pre) (h : j ≤ kk) : FnM P w K mg base kk f pre := by
  obtain ⟨fd, ps, b, c, d⟩ := F.ex
  exact ⟨fd, ps, b, c, d.mono h⟩
section
variable {P : Program} {w : World} {K : PySem.W.Frag} {mg : Str → Option Value} {base : Heap}
theorem FnM.ofBody {x : Str} {qual : Str} {pa : Arguments} {bd : List Stmt} {sc : Scope} {f : Addr} {N ps : List Str} {kk : Nat} {pre : Pre} (F : ∃ fd, FunD K x qual pa bd sc [] [] f fd) (S : FnScope N ps sc)
    (hb : ∀ (kV doc pm : Value) (an : Option Addr) (cdv ct : Value) (us : List Value), us.length = ps.length → bindArgs (PySem.W.fnOf x qual pa bd sc .none kV doc pm an cdv ct) ⟨us, []⟩ = pure (ps.zip us))
    (hlen : ∀ as k as', pre as k as' → as.length = ps.length)
    (body : ∀ (cdv : Value) (A : Around) (outer : List Env) (s : Shared) (H : Hp) (E : XK), Room kk (A.deeper (envOfC qual sc s.heap.objs.size f cdv)) → ∀ as k as', pre as k as' →
      DSs (bx P w K mg base N qual sc f cdv A outer s H E) bd (as ++ List.replicate (N.length - as.length) .no) (.rt k as') ∨
      (k (pd .none) ∧ ∃ S', as' = S'.take as'.length ∧ DSs (bx P w K mg base N qual sc f cdv A outer s H E) bd (as ++ List.replicate (N.length - as.length) .no) (.nx S'))) : FnM P w K mg base (kk + 1) f pre := by
  obtain ⟨fd, F⟩ := F
  refine ⟨fd, ps, F.kp, F.bindsN hb, F.ok S (fun vs H Q E h => ?_) (fun cdv A outer s H vs Q E hr h => ?_)⟩
  · obtain ⟨as, k, as', Fr, F0, h1, h2, _⟩ := h
    rw [h2]
    exact hlen as k as' h1
  · obtain ⟨as, k, as', Fr, F0, h1, h2, h3, h4⟩ := h
    have b0 := body cdv A outer s H E hr as k as' h1
    have hN : ps.length ≤ N.length := by
      have := congrArg List.length S.pre
      rw [List.length_take] at this
      omega
    have hl : (L2.start N vs).length = (as ++ List.replicate (N.length - as.length) Slot.no).length := by
      unfold L2.start
      rw [List.length_append, List.length_append, List.length_map, List.length_replicate, List.length_replicate, h2]
    have hs : Sat K F0 H (zc (L2.start N vs) (as ++ List.replicate (N.length - as.length) Slot.no) ++ Fr) := by
      unfold L2.start
      rw [h2]
      exact sat_start _ h2 h3
    rcases b0 with b | ⟨hk, S', eS, b⟩
    · exact ⟨wpSs _ bd, PSs.nox pSs, b.2 Fr F0 (L2.start N vs) H _ hl hs fun w v σ' F2 H2 kw hl2 e2 s2 => h4 w v σ' F2 H2 kw (by rw [hl2]; exact b.1) e2 s2⟩
    · refine ⟨wpSs _ bd, PSs.nox pSs, b.2 Fr F0 (L2.start N vs) H _ hl hs fun σ' F2 H2 hl2 e2 s2 => ?_⟩
      have hb1 : S'.length = (as ++ List.replicate (N.length - as.length) Slot.no).length := b.1
      have hle : as'.length ≤ S'.length := by
        have := congrArg List.length eS
        rw [List.length_take] at this
        omega
      refine h4 (pd .none) .non σ' F2 H2 hk (by rw [hl2, ← hb1]; exact hle) e2 (Sat.dat ?_ .non)
      rw [eS]
      refine s2.sub (List.Sublist.append_right ?_ _)
      rw [zc_take]
      exact List.take_sublist _ _
theorem FnM.ofD {x : Str} {qual : Str} {pa : Arguments} {bd : List Stmt} {sc : Scope} {f : Addr} {N ps : List Str} {kk : Nat} {I : Type} {c : I → Prop} {a : I → List Slot} {r : I → Slot} (F : ∃ fd, FunD K x qual pa bd sc [] [] f fd) (S : FnScope N ps sc)
    (hb : ∀ (kV doc pm : Value) (an : Option Addr) (cdv ct : Value) (us : List Value), us.length = ps.length → bindArgs (PySem.W.fnOf x qual pa bd sc .none kV doc pm an cdv ct) ⟨us, []⟩ = pure (ps.zip us))
    (hlen : ∀ i, (a i).length = ps.length)
    (body : ∀ (cdv : Value) (A : Around) (outer : List Env) (s : Shared) (H : Hp) (E : XK), Room kk (A.deeper (envOfC qual sc s.heap.objs.size f cdv)) → ∀ i, c i →
      DSs (bx P w K mg base N qual sc f cdv A outer s H E) bd (a i ++ List.replicate (N.length - ps.length) .no) (.rt (fun w => w = r i) [])) : FnM P w K mg base (kk + 1) f (PreD c a r) := by
  refine FnM.ofBody F S hb (lenD hlen) (fun cdv A outer s H E hr as k as' h => .inl ?_)
  obtain ⟨i, hi, rfl, rfl, rfl⟩ := h
  have h2 := body cdv A outer s H E hr i hi
  rw [hlen i]
  exact h2
end
/-! ### plans -/
abbrev plC (K : PySem.W.Frag) : Addr := He.ga K "Plan"
/-- a plan: tables, rounds -/
def plR (R1 R2 : Rel) : Rel := ⟨fun K H v => ∃ a dx u1 u2, v = .ref a ∧ H a = some (.ins (plC K) dx [("own_tables", u1), ("own_end", u2)]) ∧ R1.r K H u1 ∧ R2.r K H u2, fun {K H H' v} e h => by
  obtain ⟨a, dx, u1, u2, e1, e2, e3, e4⟩ := h
  exact ⟨a, dx, u1, u2, e1, e _ _ e2, R1.mono e e3, R2.mono e e4⟩⟩
/-- one that is being made -/
def insO (p dx : Addr) (fs : List (Str × Rel)) : Own where
  r := fun K F H v f => v = .ref p ∧ (∀ a, f a ↔ (a = p ∨ a = dx)) ∧ (∃ us, H p = some (.ins (plC K) dx ((fs.map (·.1)).zip us)) ∧ Rels K F us (fs.map (·.2))) ∧ H dx = some (.own p)
  keep := fun {K F F' H H' v f} e k h => by
    obtain ⟨e1, e2, ⟨us, e3, e4⟩, e5⟩ := h
    exact ⟨e1, e2, ⟨us, by rw [k p ((e2 p).mpr (.inl rfl))]; exact e3, e4.mono e⟩, by rw [k dx ((e2 dx).mpr (.inr rfl))]; exact e5⟩
  live := fun {K F H v f a} h q => by
    obtain ⟨e1, e2, ⟨us, e3, e4⟩, e5⟩ := h
    rcases (e2 a).mp q with z | z
    · rw [z, e3]
      exact fun z => nomatch z
    · rw [z, e5]
      exact fun z => nomatch z
theorem pin_ins {p dx : Addr} {fs : List (Str × Rel)} : Pin (insO p dx fs) (.ref p) := fun h => h.1
section
variable {K : PySem.W.Frag} {F F' H H' : Hp} {L : List Cell} {σ σ' : L2.St} {S : List Slot} {Fr : List Cell} {i : Nat} {p dx : Addr} {R1 R2 : Rel}
/-- it is made -/
theorem Sat.freezeP {v : Option V} (h : Sat K F H ((v, .own (insO p dx [("own_tables", R1), ("own_end", R2)])) :: L)) : ∃ F', Ex F F' ∧ Sat K F' H ((some (.ref p), .dat (plR R1 R2)) :: L) := by
  obtain ⟨g, ⟨v', rfl, e1, e2, ⟨us, e3, e4⟩, e5⟩, gF, cont⟩ := h.upd
  match us, e4 with
  | [u1, u2], e4 =>
    have hp : F p = none := gF p ((e2 p).mpr (.inl rfl))
    have e3' : H p = some (.ins (plC K) dx [("own_tables", u1), ("own_end", u2)]) := e3
    refine ⟨L2.upd F p (.ins (plC K) dx [("own_tables", u1), ("own_end", u2)]), Exn hp, cont _ H _ (.dat (plR R1 R2)) (fun _ => False) (Exn hp) (fun a o q => ?_) (fun a o q _ => q) (fun a q => ?_) ⟨⟨_, rfl, p, dx, u1, u2, rfl, upd_same, R1.mono (Exn hp) e4.1, R2.mono (Exn hp) e4.2.1⟩, fun _ q => q⟩ (fun a q => q.elim)⟩
    · by_cases ha : a = p
      · subst ha
        rw [upd_same] at q
        rw [← q]
        exact e3'
      · rw [upd_ne ha] at q
        exact h.ex a o q
    · by_cases ha : a = p
      · exact .inr (.inl ((e2 a).mpr (.inl ha)))
      · rw [upd_ne ha] at q
        exact .inl q
end
theorem putF_last {f : Str} {y : V} : ∀ {ks : List Str} {us : List V}, us.length = ks.length → f ∉ ks → putF f y (ks.zip us) = (ks ++ [f]).zip (us ++ [y])
  | [], [], _, _ => rfl
  | k :: ks, u :: us, h, hf => by
    show (if k = f then _ else _) = _
    rw [if_neg (show ¬ k = f from fun e => hf (by rw [e]; exact List.mem_cons_self))]
    show (k, u) :: putF f y (ks.zip us) = (k, u) :: (ks ++ [f]).zip (us ++ [y])
    rw [putF_last (by simpa using h) (fun z => hf (List.mem_cons_of_mem _ z))]
  | [], _ :: _, h, _ => by simp at h
  | _ :: _, [], h, _ => by simp at h
section
variable {X : Cx} {S S1 S2 S3 : List Slot} {a b c e o : Expr} {es : List Expr} {pos p0 : Pos} {k : Slot → Prop} {R R1 R2 R3 R4 : Rel} {Rs Rs' : List Rel} {x : Str} {kk i : Nat} {sts : List Stmt} {p dx : Addr} {pre : Pre} {as as' : List Slot} {f : Addr}
/-- name.f = e, the name's instance being made -/
theorem ds_fldO {y fl : Str} {py_ tpos : Pos} {fs : List (Str × Rel)} (i : Nat) (Z : Pg X.K X.mg) (he : DE X e S (.dat R) S1) (hna : NoAttr X.K (plC X.K) fl) (hS : S[i]? = some (.own (insO p dx fs))) (hS1 : S1[i]? = some (.own (insO p dx fs))) (hfl : fl ∉ fs.map (·.1)) (hn : fs.length < 1000) (hS2 : S1.set i (.own (insO p dx (fs ++ [(fl, R)]))) = S2 := by rfl)
    (hN : X.N[i]? = some y := by rfl) (hsw : swapsWith e (some (.Attribute (.Name y py_) fl tpos)) pos.line X.env = pure false := by rfl)
    (hv : Vis X.env.scope y := by first | exact Or.inl rfl | exact Or.inr (Or.inl rfl) | exact Or.inr (Or.inr rfl)) (hd : (y == ("__debug__" : Str)) = false := by decide) (hcd : (y == ("__classdict__" : Str)) = false := by decide) :
    DS X (.Assign [.Attribute (.Name y py_) fl tpos] e pos) S (.nx S2) := by
  subst hS2
  refine ⟨by show (S1.set i _).length = S.length; rw [List.length_set]; exact he.1, fun Fr F σ H D hl sat q => (ps_fld (pe_var hN hv hd hcd) pE hsw).w (he.2 Fr F σ H _ hl sat fun w v F2 H2 kw e2 s2 => ?_)⟩
  subst kw
  have hl1 : σ.length = S1.length := hl.trans he.1.symm
  have s3 := s2.tail
  have hi : i < S1.length := (List.getElem?_eq_some_iff.mp hS1).1
  obtain ⟨ov, h1, h2⟩ := zc_get hl1 hS1
  obtain ⟨g, ⟨v', rfl, ev, ef, ⟨us, h3, h4⟩, h5⟩, gF, cont⟩ := (s3.perm (zc_out Fr hl1 hS1 h1)).upd
  subst ev
  have hFp : F2 p = none := gF p ((ef p).mpr (.inl rfl))
  have hlu := h4.length
  rw [List.length_map] at hlu
  refine ⟨.ref p, h1, p, plC X.K, dx, _, rfl, h3, Z.cls, hna, by rw [List.length_zip, List.length_map, hlu]; omega, ?_⟩
  have hpd : dx ≠ p := fun z => by
    rw [z, h3] at h5
    cases h5
  have s4 := cont F2 (upd H2 p (.ins (plC X.K) dx (putF fl v ((fs.map (·.1)).zip us)))) (some (.ref p)) (.own (insO p dx (fs ++ [(fl, R)]))) g (Exr F2) (fun a o qq => by
    by_cases ha : a = p
    · rw [ha, hFp] at qq
      cases qq
    · rw [upd_ne ha]
      exact s3.ex a o qq) (fun a o q hg => by rw [upd_ne (fun z => hg ((ef a).mpr (.inl z)))]; exact q) (fun a q => .inl q) ⟨_, rfl, rfl, ef, ⟨us ++ [v], by
        rw [upd_same, putF_last (by rw [List.length_map, hlu]) hfl, List.map_append]
        rfl, by rw [List.map_append]; exact h4.snoc s2.hd⟩, by rw [upd_ne hpd]; exact h5⟩ (fun a q => ⟨gF a q, .inl q⟩)
  have s5 := s4.perm (zc_in _ (some (.ref p)) Fr hl1 hi)
  have e0 : σ.set i (some (.ref p)) = σ := by
    refine List.ext_getElem? fun j => ?_
    by_cases hj : i = j
    · subst hj
      rw [List.getElem?_set_self (by omega), h1]
    · rw [List.getElem?_set_ne hj]
  rw [e0] at s5
  exact q σ F2 _ hl e2 s5
/-- e.own_tables, e.own_end -/
theorem de_fld {fl : Str} (Z : Pg X.K X.mg) (he : DE X e S (.dat (plR R1 R2)) S1) (hna : NoAttr X.K (plC X.K) fl) (hR : (fl = "own_tables" ∧ R = R1) ∨ (fl = "own_end" ∧ R = R2)) (hb : attributeBase e fl X.env (eval e X.env) = eval e X.env := by rfl) : DE X (.Attribute e fl pos) S (.dat R) S1 :=
  ⟨he.1, fun Fr F σ H Q hl sat c => (pe_fld pE hb).w (he.2 Fr F σ H _ hl sat fun w v F2 H2 kw e2 s2 => by
    subst kw
    obtain ⟨a, dx, u1, u2, rfl, h1, h2, h3⟩ := s2.hd
    rcases hR with ⟨rfl, rfl⟩ | ⟨rfl, rfl⟩
    · exact ⟨a, _, dx, _, u1, rfl, s2.ex _ _ h1, Z.cls, hna, rfl, c _ _ F2 H2 rfl e2 (s2.tail.dat h2)⟩
    · exact ⟨a, _, dx, _, u2, rfl, s2.ex _ _ h1, Z.cls, hna, rfl, c _ _ F2 H2 rfl e2 (s2.tail.dat h3)⟩)⟩
/-- e.m(), e.m(a) -/
theorem we_meth0 {m : Str} {apos : Pos} {pl : Sem Bool} (Z : Pg X.K X.mg) (he : DE X o S (.dat (plR R1 R2)) S1) (hm : Meth X.K (plC X.K) m f) (F : FnM X.prog X.w X.K X.mg X.base kk f pre) (hr : Room kk X.A) (hp : pre [.dat (plR R1 R2)] k as') (hl1 : m ≠ "own_tables" := by decide) (hl2 : m ≠ "own_end" := by decide) (ht : eval (.Call (.Attribute o m apos) [] [] pos) X.env = (do let ov ← eval o X.env; standAt apos.atName; let (f, first) ← holding [ov] (getMethod ov m pl); callWith pos f first (backTo pos (starEach [] X.env)) (backToKw pos (keywordEach [] X.env))) := by rfl) : WE X (.Call (.Attribute o m apos) [] [] pos) S k S1 := by
  obtain ⟨fd, ps, hk, hb, hF⟩ := F.ex
  refine ⟨he.1, fun Fr F σ H Q hl sat c => (pe_meth0 pE Z.cls hm hF hr hb .nil pass0 ht).w (he.2 Fr F σ H _ hl sat fun w v F2 H2 kw e2 s2 => ?_)⟩
  subst kw
  have hd := s2.hd
  obtain ⟨a, dx, u1, u2, rfl, h1, h2, h3⟩ := hd
  refine ⟨a, dx, _, rfl, s2.ex _ _ h1, by show List.lookup m [_, _] = none; unfold List.lookup; rw [beq_false_of_ne hl1]; unfold List.lookup; rw [beq_false_of_ne hl2]; rfl, ?_⟩
  exact ⟨_, k, as', zc σ S1 ++ Fr, F2, hp, rfl, s2, fun w v σ' F3 H3 kw hl3 e3 s3 => c w v F3 H3 kw (Ext e2 e3) (s3.sub (.cons_cons _ (List.sublist_append_right _ _)))⟩
theorem we_meth1 {m : Str} {apos : Pos} {pl : Sem Bool} {w1 : Slot} (Z : Pg X.K X.mg) (he : DE X o S (.dat (plR R1 R2)) S1) (h1 : DE X e S1 w1 S2) (hm : Meth X.K (plC X.K) m f) (F : FnM X.prog X.w X.K X.mg X.base kk f pre) (hr : Room kk X.A) (hp : pre [.dat (plR R1 R2), w1] k as') (hl1 : m ≠ "own_tables" := by decide) (hl2 : m ≠ "own_end" := by decide)
    (hst : starEach [e] X.env = (false, eval e X.env) :: starEach [] X.env := by rfl) (ht : eval (.Call (.Attribute o m apos) [e] [] pos) X.env = (do let ov ← eval o X.env; standAt apos.atName; let (f, first) ← holding [ov] (getMethod ov m pl); callWith pos f first (backTo pos (starEach [e] X.env)) (backToKw pos (keywordEach [] X.env))) := by rfl) : WE X (.Call (.Attribute o m apos) [e] [] pos) S k S2 := by
  obtain ⟨fd, ps, hk, hb, hF⟩ := F.ex
  refine ⟨h1.1.trans he.1, fun Fr F σ H Q hl sat c => (pe_meth pE Z.cls hm hF hr hb .nil pass0 pA hst rfl ht).w (he.2 Fr F σ H _ hl sat fun w v F2 H2 kw e2 s2 => ?_)⟩
  subst kw
  have hd := s2.hd
  obtain ⟨a, dx, u1, u2, rfl, g1, g2, g3⟩ := id hd
  refine ⟨a, dx, _, rfl, s2.ex _ _ g1, by show List.lookup m [_, _] = none; unfold List.lookup; rw [beq_false_of_ne hl1]; unfold List.lookup; rw [beq_false_of_ne hl2]; rfl, ?_⟩
  refine (da1 h1 hst).2 ((some (.ref a), .dat (plR R1 R2)) :: Fr) F2 σ H2 _ (hl.trans he.1.symm) s2.frame1 fun vs F3 H3 hv e3 s3 => ?_
  match vs, hv with
  | [v1], _ =>
    have s4 : Sat X.K F3 H3 ((some v1, w1) :: (zc σ S2 ++ ((some (.ref a), .dat (plR R1 R2)) :: Fr))) := s3
    have s5 : Sat X.K F3 H3 ((some (.ref a), .dat (plR R1 R2)) :: (some v1, w1) :: (zc σ S2 ++ Fr)) := s4.perm ((List.Perm.cons _ List.perm_middle).trans (List.Perm.swap _ _ _))
    exact ⟨_, k, as', zc σ S2 ++ Fr, F3, hp, rfl, s5, fun w v σ' F4 H4 kw hl4 e4 s6 => c w v F4 H4 kw (Ext e2 (Ext e3 e4)) (s6.sub (.cons_cons _ (List.sublist_append_right _ _)))⟩
/-- what __init__ promises -/
def preInit (c : Rel → Rel → Prop) : Pre := fun as k as' => ∃ p dx R1 R2, c R1 R2 ∧ as = [.own (insO p dx []), .dat R1, .dat R2] ∧ k = (fun w => w = pd .none) ∧ as' = [.own (insO p dx [("own_tables", R1), ("own_end", R2)])]
/-- Plan(a, b) -/
theorem de_plan {cc : Rel → Rel → Prop} (Z : Pg X.K X.mg) (F : FnM X.prog X.w X.K X.mg X.base kk (He.ma X.K (plC X.K) "__init__") (preInit cc)) (hr : Room (kk + 1) X.A) (ha : DE X a S (.dat R1) S1) (hb : DE X b S1 (.dat R2) S2) (hc : cc R1 R2) (hg : Gl X "Plan" := by rfl)
    (hs : starEach [a, b] X.env = (false, eval a X.env) :: starEach [b] X.env := by rfl) (hs2 : starEach [b] X.env = (false, eval b X.env) :: starEach [] X.env := by rfl) (hpl : (backTo pos (starEach [b] X.env)).any (·.1) = false := by rfl) : DE X (.Call (.Name "Plan" p0) [a, b] [] pos) S (.dat (plR R1 R2)) S2 := by
  obtain ⟨fd, ps, hk, hbd, hF⟩ := F.ex
  refine ⟨hb.1.trans ha.1, fun Fr F σ H Q hl sat c => (pe_make Z.mk_ hF hr hg Z.g_Plan hbd .nil pass0 pA (by decide +kernel) hs hpl).w ((da2 ha hb hs hs2).2 Fr F σ H _ hl sat fun vs F2 H2 hv e2 s2 => fun x dx hx hdx hne => ?_)⟩
  match vs, hv with
  | [v1, v2], _ =>
    have s3 : Sat X.K F2 H2 ((some v1, .dat R1) :: (some v2, .dat R2) :: (zc σ S2 ++ Fr)) := s2
    have hFx := s3.fresh hx
    -- the new two
    have s4 : Sat X.K F2 (upd (upd H2 dx (.own x)) x (.ins (plC X.K) dx [])) ((some (.ref x), .own (insO x dx [])) :: (some v1, .dat R1) :: (some v2, .dat R2) :: (zc σ S2 ++ Fr)) := by
      have hFd := s3.fresh hdx
      obtain ⟨g, s1, g2, g3⟩ := (s3.no (ov := none)).upd
      have eH : Ex H2 (upd (upd H2 dx (.own x)) x (.ins (plC X.K) dx [])) := Ext (Exn hdx) (Exn (by rw [upd_ne (Ne.symm hne)]; exact hx))
      exact g3 F2 _ (some (.ref x)) (.own (insO x dx [])) (fun a => a = x ∨ a = dx) (Exr F2) (Ext s3.ex eH) (fun a u e _ => eH a u e) (fun a q => .inl q) ⟨_, rfl, rfl, fun _ => Iff.rfl, ⟨[], upd_same, trivial⟩, by rw [upd_ne hne, upd_same]⟩ fun a q => by
        rcases q with q | q
        · subst q
          exact ⟨hFx, .inr hx⟩
        · subst q
          exact ⟨hFd, .inr hdx⟩
    refine ⟨_, _, _, zc σ S2 ++ Fr, F2, ⟨x, dx, R1, R2, hc, rfl, rfl, rfl⟩, rfl, s4, fun w v σ' F3 H3 kw hl3 e3 s5 => ?_⟩
    subst kw
    have hn := s5.hd
    cases hn
    refine ⟨rfl, ?_⟩
    match σ', hl3 with
    | ov :: σ', _ =>
      have s6 : Sat X.K F3 H3 ((ov, .own (insO x dx [("own_tables", R1), ("own_end", R2)])) :: (zc σ' [] ++ (zc σ S2 ++ Fr))) := s5.tail
      have e0 : zc σ' [] = [] := List.zip_nil_right
      rw [e0] at s6
      obtain ⟨F4, e4, s7⟩ := s6.freezeP
      exact c _ _ F4 H3 rfl (Ext e2 (Ext e3 e4)) s7
/-! ### == -/
/-- what __eq__ promises -/
abbrev preEq (cc : Rel → Rel → Rel → Rel → Bool → Prop) : Pre := fun as k as' => ∃ R1 R2 R3 R4 z, cc R1 R2 R3 R4 z ∧ as = [.dat (plR R1 R2), .dat (plR R3 R4)] ∧ k = (fun w => w = pb z) ∧ as' = []
/-- the own == of two plans -/
def rOwnEq (K : PySem.W.Frag) (sp : Sp) (neg : Bool) : L2.R2 := fun x y H Q => ∃ a b dx dy fs gs, x = .ref a ∧ y = .ref b ∧ H a = some (.ins (plC K) dx fs) ∧ H b = some (.ins (plC K) dy gs) ∧ sp [x, y] H (fun v H' => ∃ z, v = .bl z ∧ Q (.bl (if neg then !z else z)) H') E0
theorem ins_inst {pins : List (Addr × Obj)} {s : Shared} {σ : L2.St} {H : Hp} {C q dq : Addr} {fs : List (Str × V)} (I : Inv X pins σ H s) (h : H q = some (.ins C dq fs)) : ∃ oq od, PySem.W.InstAt s.heap q oq C od :=
  (ins_get I.hok h).elim fun _ g => (g.1.look).elim fun od l => ⟨_, some od, l.1⟩
/-- the class's own == called at two plans, whatever stands around the call -/
theorem eq_called {fd : FuncData} {ps : List Str} {sp : Sp} {f : Addr} {A : Around} {pins : List (Addr × Obj)} {s : Shared} {σ : L2.St} {H : Hp} {a b : Addr} {T : Bool → Hp → Prop} (F : FnOk X.prog X.w X.K X.mg X.base CX0 kk f fd ps sp) (bs : Binds X.K fd ps []) (hr : Room kk A)
    (env : Env0 X.prog X.w X.K X.mg X.base A X.stack s H) (I : Inv X pins σ H s) (hsp : sp [.ref a, .ref b] H (fun v H' => ∃ z, v = .bl z ∧ T z H') E0) :
    wpAny (model X.prog X.w) A (call (.ref f) [.ref a, .ref b]) (fun v s1 => ∃ z H1, v = .bool z ∧ Inv X pins σ H1 s1 ∧ T z H1) X.xe s := by
  have given : BindsTo s fd ⟨[.ref a, .ref b], []⟩ (ps.zip [.ref a, .ref b]) := bs s [.ref a, .ref b] I.kIn (F.len _ _ _ _ hsp)
  refine wpAny_call (codeAny_mono (F.run A X.stack s H _ _ [.ref a, .ref b] _ E0 hr env given (.cons rfl (.cons rfl .nil)) hsp) ?_)
  rintro (_ | w | _ | _ | _) s1 q
  case ok.ret =>
    obtain ⟨_, H1, I1, rv, z, rfl, t⟩ := I.after q
    cases rv
    exact ⟨z, H1, rfl, I1, t⟩
  all_goals exact q.elim
theorem op_ownEq {fd : FuncData} {ps : List Str} {sp : Sp} {f : Addr} (F : FnOk X.prog X.w X.K X.mg X.base CX0 kk f fd ps sp) (hs : Meth X.K (plC X.K) "__eq__" f) (hb : Binds X.K fd ps []) (hr : Room kk X.A) : OpR X (compareOp .Eq) (rOwnEq X.K sp false) := by
  rintro pins s σ H _ _ u v Q I rx ry ⟨a, b, dx, dy, fs, gs, rfl, rfl, ia, ib, hsp⟩
  cases rx
  cases ry
  obtain ⟨_, _, ja⟩ := ins_inst I ia
  obtain ⟨_, _, jb⟩ := ins_inst I ib
  have fr := I.fr.choose_spec
  refine PySem.W.cmp_K (op := .Eq) (tb := .ref (plC X.K)) hr.units0 fr I.ok.mod.kin ja jb.type (by simp [PySem.W.notFirst]) hs.at_ hs.fn (thn (eq_called F hb hr I.env0 I hsp) ?_)
  rintro _ s1 ⟨z, H1, rfl, I1, t⟩
  exact ⟨.bl z, H1, I1, rfl, t⟩
end
end Lh
end
section
set_option Elab.async false
set_option linter.all false
set_option maxRecDepth 100000
set_option maxHeartbeats 4000000
/-! x != y of plans, == of plans, isinstance of a plan -/
namespace PySem.W
open PySem PySem.Calls PyProof.Rows Builtin
section
variable {prog : Program} {w : World} {A : Around} {E : Value → Shared → Prop} {s : Shared} {K : Frag} {x C L f : Addr} {h₀ : Heap} {m : Str → Option Value} {ox : Obj} {od : Option Obj} {b : Value}
/-- a special that the class has from a builtin, bound -/
theorem lh_bound {M : Model} {A : Around} {name : Str} {id B : String} (X : K.In s.heap) (I : InstAt s.heap x ox C od) (hs : findIn K (.ref C) name = some (some (.builtin id))) (S : Slot B name id) :
    wpAny M A (bindSpecialIfBound? (.ref x) name) (fun r s1 => s1 = s ∧ r = some (.builtin id, [.ref x])) E s := by
  have sp : Looks M s.heap (specialOf (.ref x) name) (some (.builtin id)) := I.type.andThen (looks_findIn X hs)
  unfold bindSpecialIfBound?
  apply wpAny_bind
  apply sp.here
  dsimp only
  rw [S.bind]
  apply wpAny_bind
  apply wpAny_askSetting
  split
  · exact wpAny_bind (wpAny_pure (wpAny_pure ⟨rfl, rfl⟩))
  · exact wpAny_tryCatch (wpAny_bind (wpAny_pure (wpAny_pure ⟨rfl, rfl⟩)))
theorem lh_special {M : Model} {name : Str} {id B : String} {args : List Value} {Q : Option Value → Shared → Prop} (X : K.In s.heap) (I : InstAt s.heap x ox C od) (hs : findIn K (.ref C) name = some (some (.builtin id))) (S : Slot B name id)
    (c : wpAny M A (call (.builtin id) (.ref x :: args)) (fun v => Q (some v)) E s) : wpAny M A (callSpecialIfBound? (.ref x) name args) Q E s := by
  unfold callSpecialIfBound?
  refine wpAny_holding (wpAny_bind (wpAny_mono (lh_bound X I hs S) ?_ fun _ _ q => q))
  rintro _ _ ⟨rfl, rfl⟩
  exact wpAny_bind (wpAny_mono c (fun _ _ q => wpAny_pure q) fun _ _ q => q)
/-- the object's own !=, where the class tells == -/
theorem lh_objNe (X : K.In s.heap) (I : InstAt s.heap x ox C od) (he : findIn K (.ref C) "__eq__" = some (some (.ref f))) (hf : isFn K (.ref f) = true) (hu : A.units < cLine) {Q : Fin → Shared → Prop}
    (c : wpAny (model prog w) A (call (.ref f) [.ref x, b]) (fun v s1 => ∃ z, v = .bool z ∧ Q (.done (.ret (.bool (!z)))) s1) E s) : wpAny (model prog w) A (Builtin.«object.__ne__» ⟨[.ref x, b], []⟩) Q E s := by
  have told : wpAny (model prog w) A (callSpecialIfBound? (.ref x) "__eq__" [b]) (fun r s1 => ∃ z, r = some (.bool z) ∧ Q (.done (.ret (.bool (!z)))) s1) E s :=
    ifBound_K X I he hf (wpAny_mono c (fun _ _ g => g.imp fun _ g => ⟨congrArg some g.1, g.2⟩) fun _ _ g => g)
  show wpAny _ _ (cRoomFor "comparison" [.ref x, b] >>= _) Q E s
  apply wpAny_bind
  apply wpAny_cRoomFor hu
  apply wpAny_bind (wpAny_mono told _ fun _ _ g => g)
  rintro _ s1 ⟨z, rfl, q⟩
  exact wpAny_bind (wpAny_truthy_bool (wpAny_pure q))
theorem lh_tryNe {Q : Value → Shared → Prop} (hu : A.units + 1 < cLine) (X : K.In s.heap) (I : InstAt s.heap x ox C od) (hn : findIn K (.ref C) "__ne__" = some (some (.builtin "object.__ne__"))) (he : findIn K (.ref C) "__eq__" = some (some (.ref f))) (hf : isFn K (.ref f) = true) (hm : mroIn K C (.type "object") = some true)
    (c : wpAny (model prog w) A.in1 (call (.ref f) [.ref x, b]) (fun v s1 => ∃ z, v = .bool z ∧ Q (.bool (!z)) s1) E s) : wpAny (model prog w) A (tryCompare (.ref x) "__ne__" b) (fun r s1 => ∃ z, r = some (.bool z) ∧ Q (.bool z) s1) E s := by
  have isObj : Looks (model prog w) s.heap (isInstance (.ref x) (.type "object")) true := I.type.andThen (looks_mroIn X hm)
  unfold tryCompare
  apply wpAny_bind
  apply lh_special X I hn PySem.F.cmp_object.ne
  apply wpAny_call
  apply codeAny_call_builtin PySem.F.cmp_object.ne.plain PySem.F.cmpEntry_ne
  apply check_slot PySem.F.cmpKind_ne PySem.F.cmpSplit_ne isObj (PySem.F.cmpArgs_ne (.ref x) b)
  apply lh_objNe (A := A.in1) X I he hf hu
  refine wpAny_mono c ?_ fun _ _ g => g
  rintro _ s1 ⟨z, rfl, q⟩
  exact ⟨z, rfl, wpAny_pure ⟨!z, rfl, q⟩⟩
theorem lh_ne {Q : Value → Shared → Prop} (hu : A.units + 1 < cLine) (hFr : Fr h₀ L s.heap m) (X₀ : K.In h₀) (I : InstAt s.heap x ox C od) (hb : Looks (model prog w) s.heap (typeOf b) (.ref C))
    (hn : findIn K (.ref C) "__ne__" = some (some (.builtin "object.__ne__"))) (he : findIn K (.ref C) "__eq__" = some (some (.ref f))) (hf : isFn K (.ref f) = true) (hm : mroIn K C (.type "object") = some true)
    (c : wpAny (model prog w) A.in1 (call (.ref f) [.ref x, b]) (fun v s1 => ∃ z, v = .bool z ∧ Q (.bool (!z)) s1) E s) : wpAny (model prog w) A (richCompare .NotEq (.ref x) b) Q E s := by
  have alike : (Value.ref C != Value.ref C) = false := bne_self_eq_false _
  unfold richCompare
  apply wpAny_holding
  apply wpAny_bind
  apply wpAny_cRoomFor (Nat.lt_of_succ_lt hu)
  simp only [oneThing_ref, cmpInfo_NotEq]
  apply wpAny_bind
  apply I.type.here
  apply wpAny_bind
  apply hb.here
  rw [alike, if_neg Bool.false_ne_true]
  apply wpAny_bind
  apply wpAny_pure
  rw [if_neg Bool.false_ne_true]
  apply wpAny_bind
  refine wpAny_mono (lh_tryNe hu (X₀.keeps hFr.keep) I hn he hf hm c) ?_ fun _ _ g => g
  rintro _ s1 ⟨z, rfl, q⟩
  exact wpAny_pure q
end
end PySem.W
namespace Lh
open PySem PySem.Spec PyProof.Rows L2
section
variable {X : Cx} {S S1 S2 S3 : List Slot} {a b c e o : Expr} {es : List Expr} {pos p0 : Pos} {k : Slot → Prop} {R R1 R2 R3 R4 : Rel} {Rs Rs' : List Rel} {x : Str} {kk i : Nat} {sts : List Stmt} {p dx : Addr} {as as' : List Slot} {f : Addr}
theorem op_ownNe {fd : FuncData} {ps : List Str} {sp : Sp} {f : Addr} (Z : Pg X.K X.mg) (F : FnOk X.prog X.w X.K X.mg X.base CX0 kk f fd ps sp) (hs : Meth X.K (plC X.K) "__eq__" f) (hb : Binds X.K fd ps []) (hr : Room (kk + 1) X.A) : OpR X (compareOp .NotEq) (rOwnEq X.K sp true) := by
  rintro pins s σ H _ _ u v Q I rx ry ⟨a, b, dx, dy, fs, gs, rfl, rfl, ia, ib, hsp⟩
  cases rx
  cases ry
  obtain ⟨_, _, ja⟩ := ins_inst I ia
  obtain ⟨_, _, jb⟩ := ins_inst I ib
  have fr := I.fr.choose_spec
  have out := I.env0
  have env : Env0 X.prog X.w X.K X.mg X.base X.A.in1 X.stack s H := { out with frames := out.frames }
  have room : X.A.units + 1 < cLine := by
    have := hr.un
    omega
  refine PySem.W.lh_ne room fr I.ok.mod.kin ja jb.type Z.mores.2.2.2.2.2.1 hs.at_ hs.fn Z.mores.2.2.2.1 (thn (eq_called F hb hr.in1 env I hsp) ?_)
  rintro _ s1 ⟨z, H1, rfl, I1, t⟩
  exact ⟨z, rfl, .bl (!z), H1, I1, rfl, t⟩
theorem rd_ownEq {cc : Rel → Rel → Rel → Rel → Bool → Prop} {neg z : Bool} {K : PySem.W.Frag} (hc : cc R1 R2 R3 R4 z) : RD K (rOwnEq K (spD K (preEq cc)) neg) (plR R1 R2) (plR R3 R4) (fun w => w = pb (if neg then !z else z)) := by
  intro F H L x y Q sat hx hy c
  obtain ⟨a, dx, u1, u2, rfl, h1, h2, h3⟩ := id hx
  obtain ⟨b, dy, u3, u4, rfl, g1, g2, g3⟩ := id hy
  refine ⟨a, b, dx, dy, _, _, rfl, rfl, sat.ex _ _ h1, sat.ex _ _ g1, [.dat (plR R1 R2), .dat (plR R3 R4)], fun w => w = pb z, [], L, F, ⟨R1, R2, R3, R4, z, hc, rfl, rfl, rfl⟩, rfl, ?_, fun w v σ' F2 H2 kw hl e2 s2 => ?_⟩
  · show Sat K F H ((some (.ref a), .dat (plR R1 R2)) :: (some (.ref b), .dat (plR R3 R4)) :: L)
    exact (sat.dat hy).dat hx
  · subst kw
    have hd := s2.hd
    cases hd
    have e0 : zc σ' [] = [] := List.zip_nil_right
    rw [e0] at s2
    exact ⟨z, rfl, c _ _ F2 H2 rfl e2 (s2.tail.dat (.bl _))⟩
variable {cc : Rel → Rel → Rel → Rel → Bool → Prop} {z : Bool}
theorem de_eqP (Z : Pg X.K X.mg) (F : FnM X.prog X.w X.K X.mg X.base kk (He.ma X.K (plC X.K) "__eq__") (preEq cc)) (hr : Room kk X.A) (ha : DE X a S (.dat (plR R1 R2)) S1) (hb : DE X b S1 (.dat (plR R3 R4)) S2) (hc : cc R1 R2 R3 R4 z) : DE X (.Compare a [.Eq] [b] pos) S (pb z) S2 := by
  obtain ⟨fd, ps, hk, hbd, hF⟩ := F.ex
  exact we_cmp (op_ownEq hF Z.m_eq hbd hr) (rd_ownEq (neg := false) hc) ha hb (nomark _)
theorem dt_eqP (Z : Pg X.K X.mg) (F : FnM X.prog X.w X.K X.mg X.base kk (He.ma X.K (plC X.K) "__eq__") (preEq cc)) (hr : Room kk X.A) (ha : DE X a S (.dat (plR R1 R2)) S1) (hb : DE X b S1 (.dat (plR R3 R4)) S2) (hc : cc R1 R2 R3 R4 z) : DT X (.Compare a [.Eq] [b] pos) S z S2 := by
  obtain ⟨fd, ps, hk, hbd, hF⟩ := F.ex
  exact dt_cmp (op_ownEq hF Z.m_eq hbd hr) (rd_ownEq (neg := false) hc) ha hb (nomark _)
theorem dt_neP (Z : Pg X.K X.mg) (F : FnM X.prog X.w X.K X.mg X.base kk (He.ma X.K (plC X.K) "__eq__") (preEq cc)) (hr : Room (kk + 1) X.A) (ha : DE X a S (.dat (plR R1 R2)) S1) (hb : DE X b S1 (.dat (plR R3 R4)) S2) (hc : cc R1 R2 R3 R4 z) : DT X (.Compare a [.NotEq] [b] pos) S (!z) S2 := by
  obtain ⟨fd, ps, hk, hbd, hF⟩ := F.ex
  exact dt_cmp (op_ownNe Z hF Z.m_eq hbd hr) (rd_ownEq (neg := true) hc) ha hb (nomark _)
/-- isinstance(x, Plan), x a plan -/
theorem de_isP (Z : Pg X.K X.mg) {tp : Pos} (ha : DE X a S (.dat (plR R1 R2)) S1) (hg : Gl X "isinstance" := by rfl) (hg2 : Gl X "Plan" := by rfl)
    (hs : starEach [a, .Name "Plan" tp] X.env = (false, eval a X.env) :: starEach [.Name "Plan" tp] X.env := by rfl) (hs2 : starEach [.Name "Plan" tp] X.env = (false, eval (.Name "Plan" tp) X.env) :: starEach [] X.env := by rfl) (hpl : (backTo pos (starEach [.Name "Plan" tp] X.env)).any (·.1) = false := by rfl) :
    DE X (.Call (.Name "isinstance" p0) [a, .Name "Plan" tp] [] pos) S (pb true) S1 := by
  refine we_isi (R := plR R1 R2) (t := .ref (plC X.K)) (u := .ref (plC X.K)) (v0 := .ref (plC X.K)) Z.n_isinstance ha ?_ (fun {H v} h => ?_) (.own _) Z.mores.2.2.2.2.1 hg hs hs2 hpl
  · exact de_c (pe_glob (v := .ref (plC X.K)) hg2 Z.g_Plan rfl) fun _ _ => rfl
  · obtain ⟨q, dx, u1, u2, rfl, h1, _⟩ := h
    exact .base (.ins h1 Z.cls Z.mores.1 Z.mores.2.1 Z.mores.2.2.1 Z.mores.2.2.2.1)
/-- ENDS -/
theorem de_ENDS (Z : Pg X.K X.mg) (hg : Gl X "ENDS" := by rfl) : DE X (.Name "ENDS" pos) S (pd (.tuple [.str "left", .str "right"])) S := by
  refine ⟨rfl, fun Fr F σ H Q hl sat c => ((pe_glob (v := .ref (He.ga X.K "ENDS")) hg Z.g_ENDS rfl)).w (c _ _ F H rfl (Exr F) (sat.dat ?_))⟩
  exact .tup (Z.t_ENDS F) (.cons (.str _) (.cons (.str _) .nil))
/-- is not True -/
theorem dt_notTrue {j p} (ha : DE X a S (pb z) S1) : DT X (.Compare a [.IsNot] [.Constant (.bool true) j p] pos) S (!z) S1 :=
  dt_cmp op_notBl (R1 := py (.bool z)) (R2 := py (.bool true)) (fun F H L x y Q sat hx hy c => by
    cases hx
    cases hy
    have e : (!z) = !decide (z = true) := by cases z <;> decide
    exact ⟨z, true, rfl, rfl, c _ _ F H rfl (Exr F) (by rw [← e]; exact sat.dat (.bl _))⟩) ha de_bl (nomark _)
end
end Lh
end
section
set_option Elab.async false
set_option linter.all false
set_option maxRecDepth 100000
set_option maxHeartbeats 4000000
/-! dicts: with pairs as keys; the source; worlds -/
namespace Lh
open PySem PySem.Spec PyProof.Rows L2
theorem unit1 {kk : Nat} {A : Around} (hr : Room kk A) : A.units + 1 < cLine := by have := hr.un; omega
section
variable {K : PySem.W.Frag} {F F' H H' : Hp} {L : List Cell} {σ σ' : L2.St} {S : List Slot} {Fr : List Cell} {i : Nat} {p : Addr}
theorem Sat.pokeG {O O' : Own} (h : Sat K F H (zc σ S ++ Fr)) (hl : σ.length = S.length) (hS : S[i]? = some (.own O)) (hO : ∀ (v : V) (f : Ft), O.r K F H v f → O'.r K F H' v f ∧ ∀ a, ¬ f a → H' a = H a) : Sat K F H' (zc σ (S.set i (.own O')) ++ Fr) := by
  obtain ⟨ov, h1, h2⟩ := zc_get hl hS
  have hi : i < S.length := (List.getElem?_eq_some_iff.mp hS).1
  obtain ⟨g, ⟨v', rfl, hr⟩, gF, cont⟩ := (h.perm (zc_out Fr hl hS h1)).upd
  obtain ⟨hr', hk⟩ := hO v' g hr
  have s2 := cont F H' (some v') (.own O') g (Exr F) (fun a o q => by
    by_cases ha : g a
    · rw [gF a ha] at q
      cases q
    · rw [hk a ha]
      exact h.ex a o q) (fun a o q hg => by rw [hk a hg]; exact q) (fun a q => .inl q) ⟨_, rfl, hr'⟩ (fun a q => ⟨gF a q, .inl q⟩)
  have s3 := s2.perm (zc_in (.own O') (some v') Fr hl hi)
  have e0 : σ.set i (some v') = σ := by
    refine List.ext_getElem? fun j => ?_
    by_cases hj : i = j
    · subst hj
      rw [List.getElem?_set_self (by omega), h1]
    · rw [List.getElem?_set_ne hj]
  rw [e0] at s3
  exact s3
end
section
variable {X : Cx} {S S1 S2 S3 S4 : List Slot} {a b c d e : Expr} {es : List Expr} {pos p0 : Pos} {k : Slot → Prop} {R R1 R2 R3 : Rel} {Rs Rs' : List Rel} {x : Str} {kk i : Nat} {o : Out} {sts : List Stmt} {p : Addr}
/-! pairs as keys -/
theorem pairK {K : PySem.W.Frag} {H : Hp} {v : V} {z y : Int} (h : (tupS [py (.int z), py (.int y)]).r K H v) : ∃ q, v = .ref q ∧ H q = some (.tup (([.inl z, .inl y] : List Key).map kV)) := by
  obtain ⟨q, vs, rfl, h1, h2⟩ := h
  match vs, h2 with
  | [v1, v2], h2 =>
    have e1 : Dp K H v1 (.int z) := h2.1
    have e2 : Dp K H v2 (.int y) := h2.2.1
    cases e1
    cases e2
    exact ⟨q, rfl, h1⟩
variable {n : Nat} {g : Int → Int → Option Rel} {z y : Int} {nm : Str} {np : Pos} {x1 : Nat} {ip : Pos}
theorem dtp_get {K : PySem.W.Frag} {F H : Hp} {σ : L2.St} {Fr : List Cell} {w : Slot} {v : V} (hl : σ.length = S.length) (s : Sat K F H ((some v, w) :: (zc σ S ++ Fr))) (hS : S[i]? = some (.own (dtpO p n g))) : σ[i]? = some (some (.ref p)) ∧ ∃ kvs, H p = some (.dT kvs) ∧ kvs.length ≤ n ∧
    ∀ z y : Int, match g z y with | none => valV kvs [.inl z, .inl y] = none | some R => ∃ u, valV kvs [.inl z, .inl y] = some u ∧ R.r K F u := by
  obtain ⟨v1, f1, g1, ⟨rfl, g2, kvs, g3, g4, g5⟩, g6⟩ := s.tail.owned hl hS
  exact ⟨g1, kvs, g3, g4, g5⟩
theorem de_getT (hr : Room kk X.A) (hb : DE X b S (pi z) S1) (hc : DE X c S1 (pi y) S2) (hS : S[i]? = some (.own (dtpO p n g))) (hS2 : S2[i]? = some (.own (dtpO p n g))) (hg : g z y = some R) (hN : X.N[i]? = some nm := by rfl) (hsl : NoSl (.Tuple [b, c] x1 ip) := by exact fun _ _ => rfl)
    (hs : starEach [b, c] X.env = (false, eval b X.env) :: starEach [c] X.env := by rfl) (hs2 : starEach [c] X.env = (false, eval c X.env) :: starEach [] X.env := by rfl)
    (hv : Vis X.env.scope nm := by first | exact Or.inl rfl | exact Or.inr (Or.inl rfl) | exact Or.inr (Or.inr rfl)) (hd : (nm == ("__debug__" : Str)) = false := by decide) (hcd : (nm == ("__classdict__" : Str)) = false := by decide) :
    DE X (.Subscript (.Name nm np) (.Tuple [b, c] x1 ip) pos) S (.dat R) S2 :=
  ⟨hc.1.trans hb.1, fun Fr F σ H Q hl sat q => (pe_dget (unit1 hr) (pe_var hN hv hd hcd) pE hsl).w (by
    obtain ⟨v0, f0, h1, ⟨rfl, _⟩, _⟩ := sat.owned hl hS
    refine ⟨_, h1, (de_tupS (Rs := [py (.int z), py (.int y)]) (da2 hb hc hs hs2) (by show 2 ≤ sizeLine; decide)).2 Fr F σ H _ hl sat fun w v F2 H2 kw e2 s2 => ?_⟩
    subst kw
    have hl2 : σ.length = S2.length := hl.trans (hb.1.symm.trans hc.1.symm)
    obtain ⟨t, rfl, ht⟩ := pairK s2.hd
    obtain ⟨_, kvs, g3, g4, g5⟩ := dtp_get hl2 s2 hS2
    have h := g5 z y
    rw [hg] at h
    obtain ⟨u, e1, e4⟩ := h
    refine ⟨p, u, rfl, ?_, q _ u F2 H2 rfl e2 (s2.tail.dat e4)⟩
    rw [← e1]
    exact DGet.t g3 (s2.ex _ _ ht))⟩
theorem dt_notT (hr : Room kk X.A) (hb : DE X b S (pi z) S1) (hc : DE X c S1 (pi y) S2) (hS2 : S2[i]? = some (.own (dtpO p n g))) (hN : X.N[i]? = some nm := by rfl)
    (hs : starEach [b, c] X.env = (false, eval b X.env) :: starEach [c] X.env := by rfl) (hs2 : starEach [c] X.env = (false, eval c X.env) :: starEach [] X.env := by rfl)
    (hv : Vis X.env.scope nm := by first | exact Or.inl rfl | exact Or.inr (Or.inl rfl) | exact Or.inr (Or.inr rfl)) (hd : (nm == ("__debug__" : Str)) = false := by decide) (hcd : (nm == ("__classdict__" : Str)) = false := by decide) :
    DT X (.Compare (.Tuple [b, c] x1 ip) [.NotIn] [.Name nm np] pos) S (!(g z y).isSome) S2 :=
  ⟨hc.1.trans hb.1, fun Fr F σ H Q hl sat q => (pt_cmp (pc_dnotin (unit1 hr) pE (pe_var hN hv hd hcd))).w (by
    refine (de_tupS (Rs := [py (.int z), py (.int y)]) (da2 hb hc hs hs2) (by show 2 ≤ sizeLine; decide)).2 Fr F σ H _ hl sat fun w v F2 H2 kw e2 s2 => ?_
    subst kw
    have hl2 : σ.length = S2.length := hl.trans (hb.1.symm.trans hc.1.symm)
    obtain ⟨t, rfl, ht⟩ := pairK s2.hd
    obtain ⟨h1, kvs, g3, g4, g5⟩ := dtp_get hl2 s2 hS2
    refine ⟨_, h1, p, valV kvs [.inl z, .inl y], rfl, DGet.t g3 (s2.ex _ _ ht), _, rfl, ?_⟩
    have h := g5 z y
    have e : (valV kvs [.inl z, .inl y]).isSome = (g z y).isSome := by
      cases hg : g z y with
      | none =>
        rw [hg] at h
        rw [show valV kvs [.inl z, .inl y] = none from h]
        rfl
      | some R0 =>
        rw [hg] at h
        obtain ⟨u, e1, _⟩ := h
        rw [e1]
        rfl
    rw [e]
    exact q F2 H2 e2 s2.tail)⟩
theorem ds_putT {tp : Pos} (i : Nat) (hr : Room kk X.A) (ha : DE X a S (.dat R) S1) (hb : DE X b S1 (pi z) S2) (hc : DE X c S2 (pi y) S3) (hS1 : S1[i]? = some (.own (dtpO p n g))) (hS3 : S3[i]? = some (.own (dtpO p n g))) (hn : n < sizeLine)
    (hS4 : S3.set i (.own (dtpO p (n + 1) fun z' y' => if z' = z ∧ y' = y then some R else g z' y')) = S4 := by rfl) (hN : X.N[i]? = some nm := by rfl)
    (hsw : swapsWith a (some (.Subscript (.Name nm np) (.Tuple [b, c] x1 ip) tp)) pos.line X.env = pure false := by rfl)
    (hs : starEach [b, c] X.env = (false, eval b X.env) :: starEach [c] X.env := by rfl) (hs2 : starEach [c] X.env = (false, eval c X.env) :: starEach [] X.env := by rfl)
    (hv : Vis X.env.scope nm := by first | exact Or.inl rfl | exact Or.inr (Or.inl rfl) | exact Or.inr (Or.inr rfl)) (hd : (nm == ("__debug__" : Str)) = false := by decide) (hcd : (nm == ("__classdict__" : Str)) = false := by decide) :
    DS X (.Assign [.Subscript (.Name nm np) (.Tuple [b, c] x1 ip) tp] a pos) S (.nx S4) := by
  subst hS4
  refine ⟨by show (S3.set i _).length = _; rw [List.length_set]; exact hc.1.trans (hb.1.trans ha.1), fun Fr F σ H D hl sat q => (ps_dput (unit1 hr) (pe_var hN hv hd hcd) pE pE hsw).w (ha.2 Fr F σ H _ hl sat fun w v F2 H2 kw e2 s2 => ?_)⟩
  subst kw
  have hl1 : σ.length = S1.length := hl.trans ha.1.symm
  obtain ⟨v0, f0, h1, ⟨rfl, _⟩, _⟩ := s2.tail.owned hl1 hS1
  refine ⟨_, h1, (de_tupS (Rs := [py (.int z), py (.int y)]) (da2 hb hc hs hs2) (by show 2 ≤ sizeLine; decide)).2 ((some v, .dat R) :: Fr) F2 σ H2 _ hl1 s2.frame1 fun w u F3 H3 kw e3 s3 => ?_⟩
  subst kw
  have hl3 : σ.length = S3.length := hl1.trans (hb.1.symm.trans hc.1.symm)
  obtain ⟨t, rfl, ht⟩ := pairK s3.hd
  obtain ⟨_, kvs, g3, g4, g5⟩ := dtp_get hl3 s3 hS3
  refine ⟨p, _, rfl, DPut.t g3 (s3.ex _ _ ht) (by omega), ?_⟩
  have s4 : Sat X.K F3 H3 ((some v, .dat R) :: (zc σ S3 ++ Fr)) := s3.tail.frame1'
  have hR := s4.hd
  have s5 := s4.tail.pokeO (O' := dtpO p (n + 1) fun z' y' => if z' = z ∧ y' = y then some R else g z' y') (ob := .dT (putK kvs [.inl z, .inl y] v)) hl3 hS3 pin_dtp (fun hr => hr.2.1) (fun f hf _ => ⟨rfl, hf, _, upd_same, by
    have := length_putK kvs [.inl z, .inl y] v
    omega, fun z' y' => ?_⟩)
  · exact q σ F3 _ hl (Ext e2 e3) s5
  · by_cases hzy : z' = z ∧ y' = y
    · obtain ⟨rfl, rfl⟩ := hzy
      show match (if z' = z' ∧ y' = y' then some R else g z' y') with | none => _ | some R => _
      rw [if_pos ⟨rfl, rfl⟩]
      exact ⟨v, by rw [valV_put, if_pos rfl], hR⟩
    · show match (if z' = z ∧ y' = y then some R else g z' y') with | none => _ | some R => _
      rw [if_neg hzy]
      have h7 := g5 z' y'
      have hk : ¬ ([.inl z', .inl y'] : List Key) = [.inl z, .inl y] := fun e => hzy (by
        injection e with e1 e2
        injection e2 with e2 _
        exact ⟨Sum.inl.inj e1, Sum.inl.inj e2⟩)
      cases hgy : g z' y' with
      | none =>
        rw [hgy] at h7
        show valV (putK kvs [.inl z, .inl y] v) [.inl z', .inl y'] = none
        rw [valV_put, if_neg hk]
        exact h7
      | some Ry =>
        rw [hgy] at h7
        obtain ⟨u', e1, e4⟩ := h7
        exact ⟨u', by rw [valV_put, if_neg hk]; exact e1, e4⟩
/-! displays -/
/-- a dict display: its keys are texts, its values come from the left to the right -/
def DPs (X : Cx) (ks : List (Option Expr)) (vs : List Expr) (pos : Pos) (S : List Slot) (kw : List (Str × Slot) → Prop) (S' : List Slot) : Prop := S'.length = S.length ∧ ∃ trs, PPs X pos ks vs trs ∧
  ∀ (Fr : List Cell) (F : Hp) (σ : L2.St) (H : Hp) (Q : List (V × V) → Hp → Prop), σ.length = S.length → Sat X.K F H (zc σ S ++ Fr) →
    (∀ (ws : List (Str × Slot)) (us : List V) (F2 H2 : Hp), kw ws → us.length = ws.length → Ex F F2 → Sat X.K F2 H2 (zc (us.map some) (ws.map (·.2)) ++ (zc σ S' ++ Fr)) → Q ((ws.map fun w => V.str w.1).zip us) H2) → tPairs trs σ H Q
abbrev KN : List (Str × Slot) → Prop := fun ws => ws = []
abbrev KW (ky : Str) (k : Slot → Prop) (kw : List (Str × Slot) → Prop) : List (Str × Slot) → Prop := fun ws => ∃ w r, k w ∧ kw r ∧ ws = (ky, w) :: r
theorem dps_nil : DPs X [] [] pos S KN S := ⟨rfl, [], pps_nil, fun Fr F σ H Q hl sat c => c [] [] F H rfl rfl (Exr F) sat⟩
theorem dps_cons {ky : Str} {kj : Nat} {kp : Pos} {ks : List (Option Expr)} {vs : List Expr} {kw : List (Str × Slot) → Prop} (h : WE X e S k S1) (hr : DPs X ks vs pos S1 kw S2) : DPs X (some (.Constant (.str ky) kj kp) :: ks) (e :: vs) pos S (KW ky k kw) S2 := by
  obtain ⟨l, trs, hp, hc⟩ := hr
  refine ⟨l.trans h.1, _, pps_cons pe_str pE hp, fun Fr F σ H Q hl sat c => ?_⟩
  refine h.2 Fr F σ H _ hl sat fun w' v F2 H2 kw' e2 s2 => ?_
  refine hc ((some v, w') :: Fr) F2 σ H2 _ (hl.trans h.1.symm) s2.frame1 fun ws vs F3 H3 kws hv e3 s3 => ?_
  refine c ((ky, w') :: ws) (v :: vs) F3 H3 ⟨w', ws, kw', kws, rfl⟩ (by rw [List.length_cons, List.length_cons, hv]) (Ext e2 e3) ?_
  refine s3.perm ?_
  show (zc (vs.map some) (ws.map (·.2)) ++ (zc σ S2 ++ ((some v, w') :: Fr))).Perm ((some v, w') :: (zc (vs.map some) (ws.map (·.2)) ++ (zc σ S2 ++ Fr)))
  rw [← List.append_assoc, ← List.append_assoc]
  exact List.perm_middle
/-- an object that is there, as it is laid -/
def rawO (p : Addr) (ob : HO) : Own where
  r := fun K F H v f => v = .ref p ∧ (∀ a, f a ↔ a = p) ∧ H p = some ob
  keep := fun {K F F' H H' v f} e k h => ⟨h.1, h.2.1, by rw [k p ((h.2.1 p).mpr rfl)]; exact h.2.2⟩
  live := fun {K F H v f a} h q => by
    rw [(h.2.1 a).mp q, h.2.2]
    exact fun z => nomatch z
theorem mergeK_new : ∀ (more kvs : List (Key × V)), (more.map (·.1)).Nodup → (∀ q ∈ more, valV kvs q.1 = none) → mergeK kvs more = kvs ++ more
  | [], kvs, _, _ => (List.append_nil kvs).symm
  | q :: more, kvs, hn, h => by
    have h1 : putK kvs q.1 q.2 = kvs ++ [q] := by rw [putK_new _ (h q List.mem_cons_self)]
    have hn' : q.1 ∉ more.map (·.1) ∧ (more.map (·.1)).Nodup := List.nodup_cons.mp hn
    show mergeK (putK kvs q.1 q.2) more = _
    rw [h1, mergeK_new more (kvs ++ [q]) hn'.2 (fun r hr => ?_), List.append_assoc]
    · rfl
    · rw [← h1, valV_put, if_neg (fun z => hn'.1 (by rw [← z]; exact List.mem_map_of_mem hr))]
      exact h r (List.mem_cons_of_mem _ hr)
/-- the new dict, told -/
theorem we_disp {ks : List (Option Expr)} {vs : List Expr} {kw : List (Str × Slot) → Prop} {kk : Slot → Prop} (h : DPs X ks vs pos S kw S1) (hn0 : ∀ ws, kw ws → (ws.map (·.1)).Nodup ∧ ws.length ≤ 15) (hall : ks.all (·.isSome) = true := by rfl) (hll : ks.length = vs.length := by rfl) (h0 : ks ≠ [] := by exact fun z => nomatch z) (h15 : ks.length ≤ 15 := by decide)
    (fin : ∀ (ws : List (Str × Slot)) (F H : Hp) (p : Addr) (us : List V) (L : List Cell), kw ws → us.length = ws.length → Sat X.K F H ((some (.ref p), .own (rawO p (.dK ((ws.map fun w => (Sum.inr w.1 : Key)).zip us)))) :: (zc (us.map some) (ws.map (·.2)) ++ L)) → ∃ w F', kk w ∧ Ex F F' ∧ Sat X.K F' H ((some (.ref p), w) :: L)) : WE X (.Dict ks vs pos) S kk S1 := by
  obtain ⟨l, trs, hp, hc⟩ := h
  refine ⟨l, fun Fr F σ H Q hl sat c => (pe_disp hp hall hll h0 h15).w (fun p hp => ?_)⟩
  have s0 : Sat X.K F (upd H p (.dK [])) ((some (.ref p), .own (rawO p (.dK []))) :: (zc σ S ++ Fr)) := sat.layOwn hp ⟨rfl, fun _ => Iff.rfl, upd_same⟩
  refine hc ((some (.ref p), .own (rawO p (.dK []))) :: Fr) F σ _ _ hl s0.frame1 fun ws us F2 H2 kws hu e2 s2 => ?_
  obtain ⟨hn, hl15⟩ := hn0 ws kws
  have s3 : Sat X.K F2 H2 ((some (.ref p), .own (rawO p (.dK []))) :: (zc (us.map some) (ws.map (·.2)) ++ (zc σ S1 ++ Fr))) := by
    refine s2.perm ?_
    rw [← List.append_assoc, ← List.append_assoc]
    exact List.perm_middle
  obtain ⟨g, ⟨v', ev, e1, e3, e4⟩, gF, cont⟩ := s3.upd
  cases ev
  refine ⟨e4, (ws.map fun w => (Sum.inr w.1 : Key)).zip us, ?_, ?_, ?_⟩
  · clear hc hp s2 s3 cont e4 h0 h15 hall hll fin s0 hl15 hn kws
    induction ws generalizing us with
    | nil => rfl
    | cons w ws ih =>
      match us, hu with
      | u :: us, hu =>
        show (V.str w.1, u) :: List.zip (ws.map fun w => V.str w.1) us = (V.str w.1, u) :: _
        congr 1
        exact ih us (by simpa using hu)
  · rw [List.length_zip, List.length_map]
    omega
  · have em : mergeK [] ((ws.map fun w => (Sum.inr w.1 : Key)).zip us) = (ws.map fun w => (Sum.inr w.1 : Key)).zip us := by
      rw [mergeK_new _ [] ?_ (fun _ _ => rfl), List.nil_append]
      rw [List.map_fst_zip (by rw [List.length_map]; omega)]
      have e5 : (ws.map fun w => (Sum.inr w.1 : Key)) = (ws.map (·.1)).map Sum.inr := by rw [List.map_map]; rfl
      rw [e5]
      exact hn.map Sum.inr (fun _ _ h z => h (Sum.inr.inj z))
    rw [em]
    have s4 := cont F2 (upd H2 p (.dK ((ws.map fun w => (Sum.inr w.1 : Key)).zip us))) (some (.ref p)) (.own (rawO p (.dK ((ws.map fun w => (Sum.inr w.1 : Key)).zip us)))) g (Exr F2) (fun a o q => by
      by_cases ha : a = p
      · rw [ha, gF p ((e3 p).mpr rfl)] at q
        cases q
      · rw [upd_ne ha]
        exact s3.ex a o q) (fun a o q hg => by rw [upd_ne (fun z => hg ((e3 a).mpr z))]; exact q) (fun a q => .inl q) ⟨_, rfl, rfl, e3, upd_same⟩ (fun a q => ⟨gF a q, .inl q⟩)
    obtain ⟨w, F5, kw, e5, s5⟩ := fin ws F2 _ p us (zc σ S1 ++ Fr) kws hu s4
    exact c w _ F5 _ kw (Ext e2 e5) s5
end
end Lh
end
section
set_option Elab.async false
set_option linter.all false
set_option maxRecDepth 100000
set_option maxHeartbeats 4000000
/-! worlds, the source -/
namespace Lh
open PySem PySem.Spec PyProof.Rows L2
/-- a world: its tables, its end, perhaps its plan -/
def wlR (R1 R2 : Rel) (o : Option Rel) : Rel := ⟨fun K H v => ∃ a kvs u1 u2, v = .ref a ∧ H a = some (.dK kvs) ∧ valV kvs (.inr "tables") = some u1 ∧ valV kvs (.inr "end") = some u2 ∧ R1.r K H u1 ∧ R2.r K H u2 ∧ ∀ R, o = some R → ∃ u3, valV kvs (.inr "plan") = some u3 ∧ R.r K H u3, fun {K H H' v} e h => by
  obtain ⟨a, kvs, u1, u2, e1, e2, e3, e4, e5, e6, e7⟩ := h
  refine ⟨a, kvs, u1, u2, e1, e _ _ e2, e3, e4, R1.mono e e5, R2.mono e e6, fun R hR => ?_⟩
  obtain ⟨u3, h1, h2⟩ := e7 R hR
  exact ⟨u3, h1, R.mono e h2⟩⟩
structure Src where
  cs : List Int
  left : Int
  mixed : Int
  turn : Int
def srcO (p q : Addr) (s : Src) : Own where
  r := fun K F H v f => v = .ref p ∧ (∀ a, f a ↔ (a = p ∨ a = q)) ∧ (p ≠ q ∧ H p = some (.dK [(.inr "cells", .ref q), (.inr "left", .int s.left), (.inr "mixed", .int s.mixed), (.inr "turn", .int s.turn)])) ∧ H q = some (.lst (s.cs.reverse.map V.int))
  keep := fun {K F F' H H' v f} e k h => by
    obtain ⟨e1, e2, ⟨e3, e4⟩, e5⟩ := h
    exact ⟨e1, e2, ⟨e3, by rw [k p ((e2 p).mpr (.inl rfl))]; exact e4⟩, by rw [k q ((e2 q).mpr (.inr rfl))]; exact e5⟩
  live := fun {K F H v f a} h z => by
    obtain ⟨e1, e2, ⟨e3, e4⟩, e5⟩ := h
    rcases (e2 a).mp z with z | z
    · rw [z, e4]
      exact fun z => nomatch z
    · rw [z, e5]
      exact fun z => nomatch z
theorem pin_src {p q : Addr} {s : Src} : Pin (srcO p q s) (.ref p) := fun h => h.1
section
variable {X : Cx} {S S1 S2 S3 S4 : List Slot} {a b c d e : Expr} {es : List Expr} {pos p0 : Pos} {k : Slot → Prop} {R R1 R2 R3 : Rel} {Rs Rs' : List Rel} {x : Str} {kk i : Nat} {sts : List Stmt} {p q : Addr} {s : Src} {o : Option Rel}
theorem de_wget {fl : Str} {kj : Nat} {kp : Pos} (hr : Room kk X.A) (ha : DE X a S (.dat (wlR R1 R2 o)) S1) (hR : (fl = "tables" ∧ R = R1) ∨ (fl = "end" ∧ R = R2) ∨ (fl = "plan" ∧ o = some R)) : DE X (.Subscript a (.Constant (.str fl) kj kp) pos) S (.dat R) S1 :=
  ⟨ha.1, fun Fr F σ H Q hl sat c => (pe_dget (unit1 hr) pE pe_str (fun _ _ => rfl)).w (ha.2 Fr F σ H _ hl sat fun w v F2 H2 kw e2 s2 => by
    subst kw
    obtain ⟨a, kvs, u1, u2, rfl, h2, h3, h4, h5, h6, h7⟩ := s2.hd
    rcases hR with ⟨rfl, rfl⟩ | ⟨rfl, rfl⟩ | ⟨rfl, hR⟩
    · exact ⟨a, u1, rfl, h3 ▸ DGet.k (k := .inr "tables") (s2.ex _ _ h2), c _ u1 F2 H2 rfl e2 (s2.tail.dat h5)⟩
    · exact ⟨a, u2, rfl, h4 ▸ DGet.k (k := .inr "end") (s2.ex _ _ h2), c _ u2 F2 H2 rfl e2 (s2.tail.dat h6)⟩
    · obtain ⟨u3, g1, g2⟩ := h7 R hR
      exact ⟨a, u3, rfl, g1 ▸ DGet.k (k := .inr "plan") (s2.ex _ _ h2), c _ u3 F2 H2 rfl e2 (s2.tail.dat g2)⟩)⟩
theorem k_te : ¬ (Sum.inr "tables" : Key) = .inr "end" := by decide
theorem k_tp : ¬ (Sum.inr "tables" : Key) = .inr "plan" := by decide
theorem k_ep : ¬ (Sum.inr "end" : Key) = .inr "plan" := by decide
theorem nd2 : (["tables", "end"] : List Str).Nodup := by decide
theorem nd3 : (["tables", "end", "plan"] : List Str).Nodup := by decide
theorem nd4 : (["cells", "left", "mixed", "turn"] : List Str).Nodup := by decide
theorem v_tab {u1 u2 : V} {r : List (Key × V)} : valV ((.inr "tables", u1) :: (.inr "end", u2) :: r) (.inr "tables") = some u1 := valV_pos rfl
theorem v_end {u1 u2 : V} {r : List (Key × V)} : valV ((.inr "tables", u1) :: (.inr "end", u2) :: r) (.inr "end") = some u2 := by
  rw [valV_neg k_te]
  exact valV_pos rfl
/-- {'tables': a, 'end': b} -/
theorem de_wl2 {vs : List Expr} {ks : List (Option Expr)} (h : DPs X ks vs pos S (KW "tables" (fun w => w = .dat R1) (KW "end" (fun w => w = .dat R2) KN)) S1) (hall : ks.all (·.isSome) = true := by rfl) (hll : ks.length = vs.length := by rfl) (h0 : ks ≠ [] := by exact fun z => nomatch z) (h15 : ks.length ≤ 15 := by decide) : DE X (.Dict ks vs pos) S (.dat (wlR R1 R2 none)) S1 :=
  we_disp h (by rintro ws ⟨w, r, rfl, ⟨w2, r2, rfl, rfl, rfl⟩, rfl⟩; exact ⟨nd2, Nat.le_of_ble_eq_true rfl⟩) hall hll h0 h15 fun ws F H p us L kws hu s => by
    obtain ⟨w, r, rfl, ⟨w2, r2, rfl, rfl, rfl⟩, rfl⟩ := kws
    match us, hu with
    | [u1, u2], _ =>
      have s1 : Sat _ F H ((some (.ref p), .own (rawO p (.dK [(.inr "tables", u1), (.inr "end", u2)]))) :: (some u1, .dat R1) :: (some u2, .dat R2) :: L) := s
      have h1 := s1.tail.hd
      have h2 := s1.tail.tail.hd
      have s2 : Sat _ F H ((some (.ref p), .own (rawO p (.dK [(.inr "tables", u1), (.inr "end", u2)]))) :: L) := s1.sub (.cons_cons _ (.cons _ (.cons _ (List.Sublist.refl _))))
      obtain ⟨g, ⟨v', ev, e1, e3, e4⟩, gF, cont⟩ := s2.upd
      have hp : F p = none := gF p ((e3 p).mpr rfl)
      refine ⟨_, L2.upd F p (.dK [(.inr "tables", u1), (.inr "end", u2)]), rfl, Exn hp, cont _ H _ (.dat (wlR R1 R2 none)) (fun _ => False) (Exn hp) (fun a o q => ?_) (fun a o q _ => q) (fun a q => ?_) ⟨⟨_, rfl, p, _, u1, u2, rfl, upd_same, v_tab, v_end, R1.mono (Exn hp) h1, R2.mono (Exn hp) h2, fun _ z => nomatch z⟩, fun _ q => q⟩ (fun a q => q.elim)⟩
      · by_cases ha : a = p
        · rw [ha, upd_same] at q
          rw [ha, ← q]
          exact e4
        · rw [upd_ne ha] at q
          exact s2.ex a o q
      · by_cases ha : a = p
        · exact .inr (.inl ((e3 a).mpr ha))
        · rw [upd_ne ha] at q
          exact .inl q
theorem de_wl3 {vs : List Expr} {ks : List (Option Expr)} (h : DPs X ks vs pos S (KW "tables" (fun w => w = .dat R1) (KW "end" (fun w => w = .dat R2) (KW "plan" (fun w => w = .dat R3) KN))) S1) (hall : ks.all (·.isSome) = true := by rfl) (hll : ks.length = vs.length := by rfl) (h0 : ks ≠ [] := by exact fun z => nomatch z) (h15 : ks.length ≤ 15 := by decide) : DE X (.Dict ks vs pos) S (.dat (wlR R1 R2 (some R3))) S1 :=
  we_disp h (by rintro ws ⟨w, r, rfl, ⟨w2, r2, rfl, ⟨w3, r3, rfl, rfl, rfl⟩, rfl⟩, rfl⟩; exact ⟨nd3, Nat.le_of_ble_eq_true rfl⟩) hall hll h0 h15 fun ws F H p us L kws hu s => by
    obtain ⟨w, r, rfl, ⟨w2, r2, rfl, ⟨w3, r3, rfl, rfl, rfl⟩, rfl⟩, rfl⟩ := kws
    match us, hu with
    | [u1, u2, u3], _ =>
      have s1 : Sat _ F H ((some (.ref p), .own (rawO p (.dK [(.inr "tables", u1), (.inr "end", u2), (.inr "plan", u3)]))) :: (some u1, .dat R1) :: (some u2, .dat R2) :: (some u3, .dat R3) :: L) := s
      have h1 := s1.tail.hd
      have h2 := s1.tail.tail.hd
      have h3 := s1.tail.tail.tail.hd
      have s2 : Sat _ F H ((some (.ref p), .own (rawO p (.dK [(.inr "tables", u1), (.inr "end", u2), (.inr "plan", u3)]))) :: L) := s1.sub (.cons_cons _ (.cons _ (.cons _ (.cons _ (List.Sublist.refl _)))))
      obtain ⟨g, ⟨v', ev, e1, e3, e4⟩, gF, cont⟩ := s2.upd
      have hp : F p = none := gF p ((e3 p).mpr rfl)
      refine ⟨_, L2.upd F p (.dK [(.inr "tables", u1), (.inr "end", u2), (.inr "plan", u3)]), rfl, Exn hp, cont _ H _ (.dat (wlR R1 R2 (some R3))) (fun _ => False) (Exn hp) (fun a o q => ?_) (fun a o q _ => q) (fun a q => ?_) ⟨⟨_, rfl, p, _, u1, u2, rfl, upd_same, v_tab, v_end, R1.mono (Exn hp) h1, R2.mono (Exn hp) h2, fun R z => ?_⟩, fun _ q => q⟩ (fun a q => q.elim)⟩
      · by_cases ha : a = p
        · rw [ha, upd_same] at q
          rw [ha, ← q]
          exact e4
        · rw [upd_ne ha] at q
          exact s2.ex a o q
      · by_cases ha : a = p
        · exact .inr (.inl ((e3 a).mpr ha))
        · rw [upd_ne ha] at q
          exact .inl q
      · cases z
        exact ⟨u3, by rw [valV_neg k_tp, valV_neg k_ep]; exact valV_pos rfl, R3.mono (Exn hp) h3⟩
/-! the source -/
theorem src_at {K : PySem.W.Frag} {F H : Hp} {σ : L2.St} {Fr : List Cell} (hl : σ.length = S.length) (h : Sat K F H (zc σ S ++ Fr)) (hS : S[i]? = some (.own (srcO p q s))) : σ[i]? = some (some (.ref p)) ∧ p ≠ q ∧ H p = some (.dK [(.inr "cells", .ref q), (.inr "left", .int s.left), (.inr "mixed", .int s.mixed), (.inr "turn", .int s.turn)]) ∧ H q = some (.lst (s.cs.reverse.map V.int)) := by
  obtain ⟨v1, f1, g1, ⟨rfl, g2, g3, g4⟩, g6⟩ := h.owned hl hS
  exact ⟨g1, g3.1, g3.2, g4⟩
/-- one of its numbers -/
def sfI (s : Src) : Fin 3 → Int
  | 0 => s.left
  | 1 => s.mixed
  | 2 => s.turn
def sfN : Fin 3 → Str
  | 0 => "left"
  | 1 => "mixed"
  | 2 => "turn"
def sfP (s : Src) (z : Int) : Fin 3 → Src
  | 0 => { s with left := z }
  | 1 => { s with mixed := z }
  | 2 => { s with turn := z }
theorem k_s (j : Fin 3) : ¬ (Sum.inr "cells" : Key) = .inr (sfN j) := by
  match j with
  | 0 => decide
  | 1 => decide
  | 2 => decide
theorem k_lm : ¬ (Sum.inr "left" : Key) = .inr (sfN 1) := by decide
theorem k_lt : ¬ (Sum.inr "left" : Key) = .inr (sfN 2) := by decide
theorem k_mt : ¬ (Sum.inr "mixed" : Key) = .inr (sfN 2) := by decide
theorem v_src {u : V} (s : Src) (j : Fin 3) : valV [((.inr "cells" : Key), u), (.inr "left", .int s.left), (.inr "mixed", .int s.mixed), (.inr "turn", .int s.turn)] (.inr (sfN j)) = some (.int (sfI s j)) := by
  match j with
  | 0 => rw [valV_neg (k_s 0)]; exact valV_pos rfl
  | 1 => rw [valV_neg (k_s 1), valV_neg k_lm]; exact valV_pos rfl
  | 2 => rw [valV_neg (k_s 2), valV_neg k_lt, valV_neg k_mt]; exact valV_pos rfl
theorem p_src {u : V} (s : Src) (z : Int) (j : Fin 3) : putK [((.inr "cells" : Key), u), (.inr "left", .int s.left), (.inr "mixed", .int s.mixed), (.inr "turn", .int s.turn)] (.inr (sfN j)) (.int z) = [(.inr "cells", u), (.inr "left", .int (sfP s z j).left), (.inr "mixed", .int (sfP s z j).mixed), (.inr "turn", .int (sfP s z j).turn)] := by
  match j with
  | 0 => rfl
  | 1 => rfl
  | 2 => rfl
variable {nm : Str} {np : Pos} {kj : Nat} {kp : Pos}
theorem de_src (j : Fin 3) (hr : Room kk X.A) (hS : S[i]? = some (.own (srcO p q s))) (hN : X.N[i]? = some nm := by rfl)
    (hv : Vis X.env.scope nm := by first | exact Or.inl rfl | exact Or.inr (Or.inl rfl) | exact Or.inr (Or.inr rfl)) (hd : (nm == ("__debug__" : Str)) = false := by decide) (hcd : (nm == ("__classdict__" : Str)) = false := by decide) : DE X (.Subscript (.Name nm np) (.Constant (.str (sfN j)) kj kp) pos) S (pi (sfI s j)) S :=
  ⟨rfl, fun Fr F σ H Q hl sat c => (pe_dget (unit1 hr) (pe_var hN hv hd hcd) pe_str (fun _ _ => rfl)).w (by
    obtain ⟨h1, h2, h3, h4⟩ := src_at hl sat hS
    exact ⟨_, h1, p, _, rfl, v_src s j ▸ DGet.k (k := .inr (sfN j)) h3, c _ _ F H rfl (Exr F) (sat.dat (.int _))⟩)⟩
theorem ds_src {z : Int} {tp : Pos} (i : Nat) (j : Fin 3) (hr : Room kk X.A) (he : DE X e S (pi z) S1) (hS1 : S1[i]? = some (.own (srcO p q s))) (hS2 : S1.set i (.own (srcO p q (sfP s z j))) = S2 := by rfl) (hN : X.N[i]? = some nm := by rfl)
    (hsw : swapsWith e (some (.Subscript (.Name nm np) (.Constant (.str (sfN j)) kj kp) tp)) pos.line X.env = pure false := by rfl)
    (hv : Vis X.env.scope nm := by first | exact Or.inl rfl | exact Or.inr (Or.inl rfl) | exact Or.inr (Or.inr rfl)) (hd : (nm == ("__debug__" : Str)) = false := by decide) (hcd : (nm == ("__classdict__" : Str)) = false := by decide) :
    DS X (.Assign [.Subscript (.Name nm np) (.Constant (.str (sfN j)) kj kp) tp] e pos) S (.nx S2) := by
  subst hS2
  refine ⟨by show (S1.set i _).length = _; rw [List.length_set]; exact he.1, fun Fr F σ H D hl sat c => (ps_dput (unit1 hr) (pe_var hN hv hd hcd) pe_str pE hsw).w (he.2 Fr F σ H _ hl sat fun w v F2 H2 kw e2 s2 => ?_)⟩
  subst kw
  have hh := s2.hd
  cases hh
  have hl1 : σ.length = S1.length := hl.trans he.1.symm
  obtain ⟨h1, h2, h3, h4⟩ := src_at hl1 s2.tail hS1
  refine ⟨_, h1, p, _, rfl, DPut.k (k := .inr (sfN j)) h3 (by show 4 < sizeLine; decide), c σ F2 _ hl e2 ?_⟩
  rw [p_src]
  refine s2.tail.pokeG hl1 hS1 (fun v f hr => ?_)
  obtain ⟨rfl, g2, g3, g4⟩ := hr
  refine ⟨⟨rfl, g2, ⟨g3.1, upd_same⟩, ?_⟩, fun a ha => upd_ne fun z => ha ((g2 a).mpr (.inl z))⟩
  rw [upd_ne (Ne.symm g3.1)]
  have e0 : (sfP s z j).cs = s.cs := by
    match j with
    | 0 => rfl
    | 1 => rfl
    | 2 => rfl
  rw [e0]
  exact g4
theorem v_cells {u : V} {r : List (Key × V)} : valV ((.inr "cells", u) :: r) (.inr "cells") = some u := valV_pos rfl
theorem de_srcLen {lp : Pos} (hr : Room kk X.A) (hm : X.mg "len" = none) (hS : S[i]? = some (.own (srcO p q s))) (hN : X.N[i]? = some nm := by rfl) (hg : Gl X "len" := by rfl)
    (hv : Vis X.env.scope nm := by first | exact Or.inl rfl | exact Or.inr (Or.inl rfl) | exact Or.inr (Or.inr rfl)) (hd : (nm == ("__debug__" : Str)) = false := by decide) (hcd : (nm == ("__classdict__" : Str)) = false := by decide) : DE X (.Call (.Name "len" lp) [.Subscript (.Name nm np) (.Constant (.str "cells") kj kp) p0] [] pos) S (pi (s.cs.length : Nat)) S :=
  ⟨rfl, fun Fr F σ H Q hl sat c => (pe_callB call_len_seq hg hm PySem.boot_len (pa_cons (pe_dget (unit1 hr) (pe_var hN hv hd hcd) pe_str (fun _ _ => rfl)) pa_nil)).w (by
    obtain ⟨h1, h2, h3, h4⟩ := src_at hl sat hS
    refine ⟨_, h1, p, _, rfl, v_cells ▸ DGet.k (k := .inr "cells") h3, q, _, rfl, .inl (SqL.of h4), c _ _ F H rfl (Exr F) (sat.dat ?_)⟩
    rw [List.length_map, List.length_reverse]
    exact .int _)⟩
theorem de_srcPop {z : Int} {cs : List Int} {apos : Pos} (hr : Room kk X.A) (hS : S[i]? = some (.own (srcO p q { s with cs := z :: cs }))) (hN : X.N[i]? = some nm := by rfl)
    (hline : (apos.endLine == pos.line) = true := by rfl) (hbase : attributeBase (.Subscript (.Name nm np) (.Constant (.str "cells") kj kp) p0) "pop" X.env (eval (.Subscript (.Name nm np) (.Constant (.str "cells") kj kp) p0) X.env) = eval (.Subscript (.Name nm np) (.Constant (.str "cells") kj kp) p0) X.env := by rfl)
    (hv : Vis X.env.scope nm := by first | exact Or.inl rfl | exact Or.inr (Or.inl rfl) | exact Or.inr (Or.inr rfl)) (hd : (nm == ("__debug__" : Str)) = false := by decide) (hcd : (nm == ("__classdict__" : Str)) = false := by decide) :
    DE X (.Call (.Attribute (.Subscript (.Name nm np) (.Constant (.str "cells") kj kp) p0) "pop" apos) [] [] pos) S (pi z) (S.set i (.own (srcO p q { s with cs := cs }))) :=
  ⟨List.length_set, fun Fr F σ H Q hl sat c => (pe_bm0 PySem.F.plainAttrs_list PySem.F.slot_list_pop PySem.F.type_list_pop mt_pop (pe_dget (unit1 hr) (pe_var hN hv hd hcd) pe_str (fun _ _ => rfl)) hbase hline).w (by
    obtain ⟨h1, h2, h3, h4⟩ := src_at hl sat hS
    have e1 : (z :: cs).reverse.map V.int = cs.reverse.map V.int ++ [.int z] := by rw [List.reverse_cons, List.map_append]; rfl
    have h4' : H q = some (.lst (cs.reverse.map V.int ++ [.int z])) := by rw [← e1]; exact h4
    refine ⟨_, h1, p, .ref q, rfl, (v_cells (u := .ref q)) ▸ DGet.k (k := .inr "cells") h3, .inl ⟨rfl, _, .inl (.inl h4')⟩, q, _, .int z, rfl, rfl, h4', ?_, ?_⟩
    · rw [List.length_append, List.length_cons, List.length_nil]
      rw [List.getElem?_append_right (by omega)]
      have : (cs.reverse.map V.int).length + (0 + 1) - 1 - (cs.reverse.map V.int).length = 0 := by omega
      rw [this]
      rfl
    · rw [List.dropLast_concat]
      have s2 := sat.pokeG (H' := upd H q (.lst (cs.reverse.map V.int))) (O' := srcO p q { s with cs := cs }) hl hS (fun v f hr => ?_)
      · exact c _ _ F _ rfl (Exr F) (s2.dat (.int z))
      · obtain ⟨rfl, g2, g3, g4⟩ := hr
        exact ⟨⟨rfl, g2, ⟨g3.1, by rw [upd_ne g3.1]; exact g3.2⟩, upd_same⟩, fun a ha => upd_ne fun z => ha ((g2 a).mpr (.inr z))⟩)⟩
/-- xs[::-1], to be held -/
theorem we_revO {kc : Nat} {p1 p2 p3 : Pos} (ha : DE X a S (.dat R) S1) (hq : IsQ R Rs) : WE X (.Subscript a (.Slice none none (some (.UnaryOp .USub (.Constant (.int 1) kc p1) p2)) p3) pos) S (fun w => ∃ q, w = .own (lstO q Rs.reverse)) S1 :=
  ⟨ha.1, fun Fr F σ H Q hl sat c => (pe_revL pE).w (ha.2 Fr F σ H _ hl sat fun w v F2 H2 kw e2 s2 => by
    subst kw
    obtain ⟨q, vs, rfl, e3, e4⟩ := hq s2.hd
    exact ⟨q, vs, rfl, Evl.ex_l s2.ex e3, fun p hp => c _ _ _ _ ⟨p, rfl⟩ e2 (s2.tail.layOwn hp ⟨rfl, fun _ => Iff.rfl, _, upd_same, e4.reverse⟩)⟩)⟩
/-- {'cells': .., 'left': .., 'mixed': .., 'turn': ..} -/
theorem we_src {vs : List Expr} {ks : List (Option Expr)} {ns : List Int} {l m t : Int} (h : DPs X ks vs pos S (KW "cells" (fun w => ∃ q, w = .own (lstO q ((ns.map fun n => py (.int n)).reverse))) (KW "left" (fun w => w = pi l) (KW "mixed" (fun w => w = pi m) (KW "turn" (fun w => w = pi t) KN)))) S1)
    (hall : ks.all (·.isSome) = true := by rfl) (hll : ks.length = vs.length := by rfl) (h0 : ks ≠ [] := by exact fun z => nomatch z) (h15 : ks.length ≤ 15 := by decide) : WE X (.Dict ks vs pos) S (fun w => ∃ p q, w = .own (srcO p q ⟨ns, l, m, t⟩)) S1 :=
  we_disp h (by rintro ws ⟨w, r, ⟨q, rfl⟩, ⟨w2, r2, rfl, ⟨w3, r3, rfl, ⟨w4, r4, rfl, rfl, rfl⟩, rfl⟩, rfl⟩, rfl⟩; exact ⟨nd4, Nat.le_of_ble_eq_true rfl⟩) hall hll h0 h15 fun ws F H p us L kws hu s => by
    obtain ⟨w, r, ⟨q, rfl⟩, ⟨w2, r2, rfl, ⟨w3, r3, rfl, ⟨w4, r4, rfl, rfl, rfl⟩, rfl⟩, rfl⟩, rfl⟩ := kws
    match us, hu with
    | [u1, u2, u3, u4], _ =>
      have s1 : Sat _ F H ((some (.ref p), .own (rawO p (.dK [(.inr "cells", u1), (.inr "left", u2), (.inr "mixed", u3), (.inr "turn", u4)]))) :: (some u1, .own (lstO q ((ns.map fun n => py (.int n)).reverse))) :: (some u2, pi l) :: (some u3, pi m) :: (some u4, pi t) :: L) := s
      have h2 := s1.tail.tail.hd
      have h3 := s1.tail.tail.tail.hd
      have h4 := s1.tail.tail.tail.tail.hd
      cases h2
      cases h3
      cases h4
      have s2 : Sat _ F H ((some (.ref p), .own (rawO p (.dK [(.inr "cells", u1), (.inr "left", .int l), (.inr "mixed", .int m), (.inr "turn", .int t)]))) :: (some u1, .own (lstO q ((ns.map fun n => py (.int n)).reverse))) :: L) := s1.sub (.cons_cons _ (.cons_cons _ (.cons _ (.cons _ (.cons _ (List.Sublist.refl _))))))
      obtain ⟨ex, f, ⟨g1, h1, ⟨v', ev, a1, a2, a3⟩, ⟨g2, h2, ⟨v2, ev2, b1, b2, vs, b3, b4⟩, t2, t3, t4⟩, t5, t6⟩, fr⟩ := s2
      cases ev
      cases ev2
      subst b1
      have hpq : p ≠ q := fun z => t5 p ((a2 p).mpr rfl) ((t4 p).mpr (.inl ((b2 p).mpr z)))
      have ei : vs = ns.reverse.map V.int := by
        rw [← List.map_reverse] at b4
        exact rels_ints b4
      subst ei
      refine ⟨_, F, ⟨p, q, rfl⟩, Exr F, ex, f, ⟨fun a => a = p ∨ a = q, h2, ⟨_, rfl, rfl, fun _ => Iff.rfl, ⟨hpq, a3⟩, b3⟩, t2, ?_, ?_⟩, fr⟩
      · intro a ha hb
        rcases ha with rfl | rfl
        · exact t5 _ ((a2 _).mpr rfl) ((t4 _).mpr (.inr hb))
        · exact t3 _ ((b2 _).mpr rfl) hb
      · intro a
        rw [t6, t4, a2, b2]
        constructor
        · rintro (z | z | z)
          · exact .inl (.inl z)
          · exact .inl (.inr z)
          · exact .inr z
        · rintro ((z | z) | z)
          · exact .inl z
          · exact .inr (.inl z)
          · exact .inr (.inr z)
end
end Lh
end
section
set_option Elab.async false
set_option linter.all false
set_option maxRecDepth 100000
set_option maxHeartbeats 4000000
/-! [y for x in xs for y in ys(x)] -/
namespace Lh
open PySem PySem.Spec PyProof.Rows L2
theorem out_it {J : It} {n : Nat} {G : Hp → Prop} {Y : Nat → Hp → V → Hp → Prop} (w : Walk J n G Y) {Body : V → Hp → (Hp → Prop) → Prop} {H0 : Hp} {Qd : Hp → Prop} (Pv : Nat → Hp → Prop) (h0 : Pv 0 H0) (hG : ∀ i H, i ≤ n → Pv i H → G H)
    (hs : ∀ i x H H', i < n → Pv i H → Y i H x H' → Body x H' (Pv (i + 1))) (hd : ∀ H, Pv n H → Qd H) :
    ∃ W : Nat → Nat → Hp → Prop, (∃ m, W 0 m H0) ∧ ∀ i m H, W i m H → (J.stop i H ∧ Qd H) ∨ (J.go i H ∧ ∃ Nx : Hp → Prop, (∀ H', Nx H' → ∃ m', m' < m ∧ W (i + 1) m' H') ∧ ∀ x H', J.yld i H x H' → Body x H' Nx) := by
  refine ⟨fun i m H => i + m = n ∧ Pv i H, ⟨n, Nat.zero_add n, h0⟩, ?_⟩
  rintro i (_ | m) H ⟨hm, p⟩
  · cases hm
    exact .inl ⟨w.stops H (hG i H (Nat.le_refl i) p), hd H p⟩
  · have lt : i < n := by omega
    have g := hG i H (Nat.le_of_lt lt) p
    exact .inr ⟨w.goes i H lt g, Pv (i + 1), fun H1 p1 => ⟨m, Nat.lt_succ_self m, by omega, p1⟩, fun x H1 y => hs i x H H1 lt p (w.yields i H x H1 lt g y)⟩
theorem tyes {σ : L2.St} {H : Hp} {Q : Bool → Hp → Prop} (h : Q true H) : tYes σ H Q := h
theorem Sat.app {K : PySem.W.Frag} {F H : Hp} {L : List Cell} {u : V} {R : Rel} {D : Addr} {Rs : List Rel} (s : Sat K F H ((some u, .dat R) :: (some (.ref D), .own (lstO D Rs)) :: L)) :
    ∃ acc, H D = some (.lst acc) ∧ acc.length = Rs.length ∧ Sat K F (L2.upd H D (.lst (acc ++ [u]))) ((some (.ref D), .own (lstO D (Rs ++ [R]))) :: L) := by
  have hu := s.hd
  have s9 := s.tail
  obtain ⟨gg, ⟨v', ev, e1, ef, acc, h1, h2⟩, gF, cont⟩ := s9.upd
  cases ev
  have hDF : F D = none := gF D ((ef D).mpr rfl)
  refine ⟨acc, h1, h2.length, cont F (L2.upd H D (.lst (acc ++ [u]))) (some (.ref D)) (.own (lstO D (Rs ++ [R]))) gg (Exr F) (fun a o q => ?_) (fun a o q ha => by rw [upd_ne (fun z => ha ((ef a).mpr z))]; exact q) (fun a q => .inl q) ⟨_, rfl, rfl, ef, _, upd_same, h2.snoc hu⟩ (fun a q => ⟨gF a q, .inl q⟩)⟩
  by_cases ha : a = D
  · rw [ha, hDF] at q
    cases q
  · rw [upd_ne ha]
    exact s9.ex a o q
section
variable {X : Cx} {S S1 S2 S3 : List Slot} {a b c e : Expr} {es : List Expr} {pos p0 : Pos} {k : Slot → Prop} {R R1 R2 R3 : Rel} {Rs : List Rel} {x : Str} {kk i : Nat} {o : Out} {sts : List Stmt} {p : Addr}
variable {α : Type} {xs : List α} {g : α → Rel} {ys : α → List PyData} {vs : List Nat} {j j1 : Nat} {tg it tg1 it1 elt : Expr} {scope : Scope} {own : List (Str × Nat)}
def tiB (X : Cx) (scope : Scope) (tg it : Expr) : TI := fun σ H R => ∀ (s : Shared) (H0 : Hp) (C : Addr) (cl : List (Str × Addr)) (fp : List Addr), wpI (bk X scope s H0 C cl fp) tg it σ H R
theorem pi_tiB (s : Shared) (H : Hp) (C : Addr) (cl : List (Str × Addr)) (fp : List Addr) : PI (bk X scope s H C cl fp) tg it (tiB X scope tg it) := ⟨fun pins s' σ H' R I h => h s H C cl fp pins s' I⟩
theorem lc2_read (hj : j ∈ vs) (hj1 : j1 ∈ vs) (hjj : j ≠ j1) (hno : ∀ m ∈ vs, S1[m]? = some .no) (hz : (xs.flatMap ys).length < sizeLine) (hi : DI X tg it S (xs.map g) S1)
    (hi1 : ∀ x, x ∈ xs → ∀ (s : Shared) (H : Hp) (C : Addr) (cl : List (Str × Addr)) (fp : List Addr), DI (bk X scope s H C cl fp) tg1 it1 (S1.set j (.dat (g x))) ((ys x).map py) (S1.set j (.dat (g x))))
    (hE : ∀ x, x ∈ xs → ∀ y, y ∈ ys x → ∀ (s : Shared) (H : Hp) (C : Addr) (cl : List (Str × Addr)) (fp : List Addr), DE (bk X scope s H C cl fp) elt ((S1.set j (.dat (g x))).set j1 (pd y)) (pd y) ((S1.set j (.dat (g x))).set j1 (pd y)))
    {Fr : List Cell} {F : Hp} {σ : L2.St} {H : Hp} {Q : VK} (hl : σ.length = S.length) (sat : Sat X.K F H (zc σ S ++ Fr))
    (q : ∀ (p : Addr) (F2 H2 : Hp), Ex F F2 → Sat X.K F2 H2 ((some (.ref p), .own (lstO p ((xs.flatMap ys).map py))) :: (zc σ S1 ++ Fr)) → Q (.ref p) H2) :
    tLc2 (wpI X tg it) (gName j) tYes (tiB X scope tg1 it1) (gName j1) tYes (teB X scope elt) vs [j1] σ H Q := by
  have hl1 : S1.length = S.length := hi.1
  refine hi.2 Fr F σ H _ hl sat fun J F2 H2 G Y e2 s2 wk hG hY => fun D hD => ?_
  rw [List.length_map] at wk
  refine out_it wk (Body := fun x H' Nx => gName j x (wipe σ vs) H' fun σ2 H2 => wipe σ2 vs = wipe σ vs ∧ tYes σ2 H2 fun b H3 => if b = true then tiB X scope tg1 it1 σ2 H3 fun J1 H4 => ∃ W1 : Nat → Nat → Hp → Prop, (∃ m, W1 0 m H4) ∧ ∀ j k H, W1 j k H →
      (J1.stop j H ∧ Nx H) ∨ (J1.go j H ∧ ∃ Nx1 : Hp → Prop, (∀ H', Nx1 H' → ∃ k', k' < k ∧ W1 (j + 1) k' H') ∧ ∀ x H', J1.yld j H x H' → gName j1 x (wipe σ2 [j1]) H' fun σ3 H5 => wipe σ3 [j1] = wipe σ2 [j1] ∧ tYes σ3 H5 fun b H6 =>
        if b = true then teB X scope elt σ3 H6 fun y H7 => ∃ acc, H7 D = some (.lst acc) ∧ acc.length < sizeLine ∧ Nx1 (upd H7 D (.lst (acc ++ [y]))) else Nx1 H6)
    else Nx H3)
    (fun i H' => ∃ F', Ex F2 F' ∧ Sat X.K F' H' ((some (.ref D), .own (lstO D (((xs.take i).flatMap ys).map py))) :: (zc σ S1 ++ Fr))) ?_ (fun i H' _ ⟨F', e', s'⟩ => hG F' H' e' s'.ex) (fun i z H3 H' hlt ⟨F', e', s'⟩ y => ?_) fun H' ⟨F', e', s'⟩ => ?_
  · exact ⟨F2, Exr F2, s2.layOwn hD ⟨rfl, fun _ => Iff.rfl, [], upd_same, trivial⟩⟩
  · obtain ⟨F4, R4, e4, s4, hR, hx⟩ := hY i H3 z H' F' _ (by rw [List.length_map]; exact hlt) e' s' y
    have hxi : xs[i]? = some xs[i] := List.getElem?_eq_getElem hlt
    rw [List.getElem?_map, hxi] at hR
    have eR : g xs[i] = R4 := Option.some.inj hR
    subst eR
    have hxm : xs[i] ∈ xs := List.getElem_mem hlt
    have hjl : j < S1.length := (List.getElem?_eq_some_iff.mp (hno j hj)).1
    have hj1l : j1 < S1.length := (List.getElem?_eq_some_iff.mp (hno j1 hj1)).1
    have s5 : Sat X.K F4 H' (zc σ S1 ++ ((some (.ref D), .own (lstO D (((xs.take i).flatMap ys).map py))) :: Fr)) := s4.frame1
    have hw : (wipe σ vs).length = S1.length := by rw [wipe_length, hl, hl1]
    have s6 := ((s5.wipe (hl.trans hl1.symm) hno).dat hx).store (i := j) hw hjl
    have hσ : ((wipe σ vs).set j (some z)).length = (S1.set j (Slot.dat (g xs[i]))).length := by rw [List.length_set, List.length_set]; exact hw
    have htk : xs.take (i + 1) = xs.take i ++ [xs[i]] := by rw [List.take_succ, hxi]; rfl
    refine ⟨by rw [wipe_set hj, wipe_idem], ?_⟩
    refine tyes ?_
    rw [if_pos rfl]
    intro s0 H0 C cl fp
    refine (hi1 _ hxm s0 H0 C cl fp).2 _ F4 _ H' _ hσ s6 fun J1 F5 H5 G1 Y1 e5 s7 wk1 hG1 hY1 => ?_
    rw [List.length_map] at wk1
    have hsl : (S1.set j (Slot.dat (g xs[i])))[j1]? = some .no := by rw [List.getElem?_set_ne hjj]; exact hno j1 hj1
    refine out_it wk1 (Body := fun x H' Nx1 => gName j1 x (wipe ((wipe σ vs).set j (some z)) [j1]) H' fun σ3 H5 => wipe σ3 [j1] = wipe ((wipe σ vs).set j (some z)) [j1] ∧ tYes σ3 H5 fun b H6 =>
        if b = true then teB X scope elt σ3 H6 fun y H7 => ∃ acc, H7 D = some (.lst acc) ∧ acc.length < sizeLine ∧ Nx1 (upd H7 D (.lst (acc ++ [y]))) else Nx1 H6)
      (fun k H' => ∃ F', Ex F5 F' ∧ Sat X.K F' H' ((some (.ref D), .own (lstO D (((xs.take i).flatMap ys ++ (ys xs[i]).take k).map py))) :: (zc ((wipe σ vs).set j (some z)) (S1.set j (.dat (g xs[i]))) ++ Fr))) ?_ (fun k H' _ ⟨F', e', s'⟩ => hG1 F' H' e' s'.ex) (fun k z1 H6 H7 hlt1 ⟨F', e', s'⟩ y1 => ?_) fun H6 ⟨F6, e6, s8⟩ => ?_
    · refine ⟨F5, Exr F5, ?_⟩
      rw [List.take_zero, List.append_nil]
      exact s7.frame1'
    · obtain ⟨F8, R8, e8, s8, hR8, hx8⟩ := hY1 k H6 z1 H7 F' _ (by rw [List.length_map]; exact hlt1) e' s' y1
      have hyk : (ys xs[i])[k]? = some (ys xs[i])[k] := List.getElem?_eq_getElem hlt1
      rw [List.getElem?_map, hyk] at hR8
      have eR : py (ys xs[i])[k] = R8 := Option.some.inj hR8
      subst eR
      have hym : (ys xs[i])[k] ∈ ys xs[i] := List.getElem_mem hlt1
      have s9 : Sat X.K F8 H7 (zc ((wipe σ vs).set j (some z)) (S1.set j (.dat (g xs[i]))) ++ ((some (.ref D), .own (lstO D (((xs.take i).flatMap ys ++ (ys xs[i]).take k).map py))) :: Fr)) := s8.frame1
      have hno1 : ∀ m ∈ [j1], (S1.set j (Slot.dat (g xs[i])))[m]? = some .no := fun m hm => by
        rw [List.mem_singleton.mp hm]
        exact hsl
      have hw1 : (wipe ((wipe σ vs).set j (some z)) [j1]).length = (S1.set j (Slot.dat (g xs[i]))).length := by rw [wipe_length]; exact hσ
      have s10 := ((s9.wipe hσ hno1).dat hx8).store (i := j1) hw1 (by rw [List.length_set]; exact hj1l)
      have hσ1 : ((wipe ((wipe σ vs).set j (some z)) [j1]).set j1 (some z1)).length = ((S1.set j (Slot.dat (g xs[i]))).set j1 (pd (ys xs[i])[k])).length := by rw [List.length_set, List.length_set]; exact hw1
      refine ⟨by rw [wipe_set (List.mem_singleton.mpr rfl), wipe_idem], ?_⟩
      refine tyes ?_
      rw [if_pos rfl]
      intro s0 H0 C cl fp
      refine (hE _ hxm _ hym s0 H0 C cl fp).2 _ F8 _ H7 _ hσ1 s10 fun w u F9 H9 kw e9 s11 => ?_
      subst kw
      have s12 : Sat X.K F9 H9 ((some u, pd (ys xs[i])[k]) :: (some (.ref D), .own (lstO D (((xs.take i).flatMap ys ++ (ys xs[i]).take k).map py))) :: (zc ((wipe ((wipe σ vs).set j (some z)) [j1]).set j1 (some z1)) ((S1.set j (.dat (g xs[i]))).set j1 (pd (ys xs[i])[k])) ++ Fr)) := s11.perm (List.Perm.cons _ List.perm_middle)
      obtain ⟨acc, h1, h2, s13⟩ := s12.app
      refine ⟨acc, h1, ?_, F9, Ext e' (Ext e8 e9), ?_⟩
      · rw [h2, List.length_map]
        have h3 : ((xs.take i).flatMap ys ++ (ys xs[i]).take k).length ≤ (xs.flatMap ys).length := by
          have e3 : xs = xs.take i ++ xs[i] :: xs.drop (i + 1) := by rw [← List.drop_eq_getElem_cons hlt, List.take_append_drop]
          have e4 : xs.flatMap ys = (xs.take i).flatMap ys ++ (ys xs[i] ++ (xs.drop (i + 1)).flatMap ys) := by
            conv => lhs; rw [e3]
            rw [List.flatMap_append, List.flatMap_cons]
          rw [e4, List.length_append, List.length_append, List.length_append, List.length_take]
          omega
        omega
      · have s14 := (s13.frame1.no (ov := none)).store (i := j1) hσ1 (by rw [List.length_set, List.length_set]; exact hj1l)
        have e13 : ((S1.set j (Slot.dat (g xs[i]))).set j1 (pd (ys xs[i])[k])).set j1 .no = S1.set j (Slot.dat (g xs[i])) := by
          rw [List.set_set]
          refine List.ext_getElem? fun m => ?_
          by_cases hm : j1 = m
          · subst hm
            rw [List.getElem?_set_self (by rw [List.length_set]; exact hj1l), hsl]
          · rw [List.getElem?_set_ne hm]
        rw [e13] at s14
        have s15 := s14.agree (σ' := (wipe σ vs).set j (some z)) (by rw [List.length_set, List.length_set]; exact hw1) hσ fun m => by
          by_cases hm : m = j1
          · subst hm
            exact .inl hsl
          · rw [List.set_set, List.getElem?_set_ne (Ne.symm hm), wipe_out (fun z => hm (List.mem_singleton.mp z))]
            exact .inr rfl
        have ek : (xs.take i).flatMap ys ++ (ys xs[i]).take (k + 1) = ((xs.take i).flatMap ys ++ (ys xs[i]).take k) ++ [(ys xs[i])[k]] := by
          rw [List.take_succ, hyk, List.append_assoc]
          rfl
        rw [ek, List.map_append]
        exact s15.frame1'
    · refine ⟨F6, Ext e' (Ext e4 (Ext e5 e6)), ?_⟩
      rw [List.take_length] at s8
      rw [htk, List.flatMap_append, List.flatMap_cons, List.flatMap_nil, List.append_nil]
      have s14 := (s8.frame1.no (ov := none)).store (i := j) hσ (by rw [List.length_set]; exact hjl)
      have e13 : (S1.set j (Slot.dat (g xs[i]))).set j .no = S1 := by
        rw [List.set_set]
        refine List.ext_getElem? fun m => ?_
        by_cases hm : j = m
        · subst hm
          rw [List.getElem?_set_self hjl, hno j hj]
        · rw [List.getElem?_set_ne hm]
      rw [e13] at s14
      have s15 := s14.agree (σ' := σ) (by rw [List.length_set, List.length_set]; exact hw) (hl.trans hl1.symm) fun m => by
        by_cases hm : m ∈ vs
        · exact .inl (hno m hm)
        · have hmj : j ≠ m := fun z => hm (z ▸ hj)
          rw [List.set_set, List.getElem?_set_ne hmj]
          exact .inr (wipe_out hm)
      exact s15.frame1'
  · rw [List.take_length] at s'
    exact q D F' H' (Ext e2 e') s'
variable {cpos tpos tpos1 : Pos} {cx cx1 : Str}
theorem we_lc2 (j j1 : Nat) (hN : X.N.Nodup) (ok : BlkOk X.N X.env.scope scope own) (hi : DI X (.Name cx tpos) it S (xs.map g) S1) (hz : (xs.flatMap ys).length < sizeLine) (hj : j ∈ own.map (·.2)) (hj1 : j1 ∈ own.map (·.2)) (hjj : j ≠ j1) (hno : ∀ m ∈ own.map (·.2), S1[m]? = some .no)
    (hi1 : ∀ x, x ∈ xs → ∀ (s : Shared) (H : Hp) (C : Addr) (cl : List (Str × Addr)) (fp : List Addr), DI (bk X scope s H C cl fp) (.Name cx1 tpos1) it1 (S1.set j (.dat (g x))) ((ys x).map py) (S1.set j (.dat (g x))))
    (hE : ∀ x, x ∈ xs → ∀ y, y ∈ ys x → ∀ (s : Shared) (H : Hp) (C : Addr) (cl : List (Str × Addr)) (fp : List Addr), DE (bk X scope s H C cl fp) elt ((S1.set j (.dat (g x))).set j1 (pd y)) (pd y) ((S1.set j (.dat (g x))).set j1 (pd y)))
    (hc : X.calm = true := by rfl) (hjN : X.N[j]? = some cx := by rfl) (hjL : Loc (relS scope X.env.scope) cx := by exact Or.inl rfl) (hjf : (scope.names.lookup cx == some .cell) = true ∨ (relS scope X.env.scope).names.lookup cx = some .local := by first | exact .inl rfl | exact .inr rfl)
    (hjN1 : X.N[j1]? = some cx1 := by rfl) (hjL1 : Loc (relS scope X.env.scope) cx1 := by exact Or.inl rfl) (hjf1 : (scope.names.lookup cx1 == some .cell) = true ∨ (relS scope X.env.scope).names.lookup cx1 = some .local := by first | exact .inl rfl | exact .inr rfl)
    (hs : ∀ x, foldedSetIterable it X.env x = pure x := by intro _; rfl) (hs1 : ∀ env x, foldedSetIterable it1 env x = pure x := by intro _ _; rfl) :
    WE X (.ListComp elt [⟨.Name cx tpos, it, [], 0⟩, ⟨.Name cx1 tpos1, it1, [], 0⟩] scope cpos) S (fun w => ∃ p, w = .own (lstO p ((xs.flatMap ys).map py))) S1 :=
  ⟨hi.1, fun Fr F σ H Q hl sat q => (pe_lc2 (own := own) (vs1 := [j1]) hc hN pI ok (fun m hm => by rw [List.mem_singleton.mp hm]; exact hj1) (fun _ _ _ _ _ => pg_name (i := j) hN hjN hjL hjf) (fun _ _ _ _ _ => pts_nil) pi_tiB (fun _ _ _ _ _ => pg_name (i := j1) hN hjN1 hjL1 hjf1) (fun _ _ _ _ _ => pts_nil) pe_teB hs hs1).w
    (lc2_read hj hj1 hjj hno hz hi hi1 hE hl sat fun p F2 H2 e2 s2 => q _ _ F2 H2 ⟨p, rfl⟩ e2 s2)⟩
theorem dss_setLc2 {y : Str} {py0 spos : Pos} (i : Nat) (j j1 : Nat) (hN : X.N.Nodup) (ok : BlkOk X.N X.env.scope scope own) (hi : DI X (.Name cx tpos) it S (xs.map g) S1) (hz : (xs.flatMap ys).length < sizeLine) (hj : j ∈ own.map (·.2)) (hj1 : j1 ∈ own.map (·.2)) (hjj : j ≠ j1) (hno : ∀ m ∈ own.map (·.2), S1[m]? = some .no)
    (hi1 : ∀ x, x ∈ xs → ∀ (s : Shared) (H : Hp) (C : Addr) (cl : List (Str × Addr)) (fp : List Addr), DI (bk X scope s H C cl fp) (.Name cx1 tpos1) it1 (S1.set j (.dat (g x))) ((ys x).map py) (S1.set j (.dat (g x))))
    (hE : ∀ x, x ∈ xs → ∀ y, y ∈ ys x → ∀ (s : Shared) (H : Hp) (C : Addr) (cl : List (Str × Addr)) (fp : List Addr), DE (bk X scope s H C cl fp) elt ((S1.set j (.dat (g x))).set j1 (pd y)) (pd y) ((S1.set j (.dat (g x))).set j1 (pd y)))
    (h2 : ∀ p, DSs X sts (S1.set i (.own (lstO p ((xs.flatMap ys).map py)))) o) (hok : o.ok S.length) (hlt : i < S1.length := by exact Nat.le_of_ble_eq_true rfl) (hyN : X.N[i]? = some y := by rfl) (hyl : X.env.scope.names.lookup y = some .local := by rfl)
    (hsw : swapsWith (.ListComp elt [⟨.Name cx tpos, it, [], 0⟩, ⟨.Name cx1 tpos1, it1, [], 0⟩] scope cpos) (some (.Name y py0)) spos.line X.env = pure true := by exact sw_true rfl rfl rfl (by decide +kernel))
    (hc : X.calm = true := by rfl) (hjN : X.N[j]? = some cx := by rfl) (hjL : Loc (relS scope X.env.scope) cx := by exact Or.inl rfl) (hjf : (scope.names.lookup cx == some .cell) = true ∨ (relS scope X.env.scope).names.lookup cx = some .local := by first | exact .inl rfl | exact .inr rfl)
    (hjN1 : X.N[j1]? = some cx1 := by rfl) (hjL1 : Loc (relS scope X.env.scope) cx1 := by exact Or.inl rfl) (hjf1 : (scope.names.lookup cx1 == some .cell) = true ∨ (relS scope X.env.scope).names.lookup cx1 = some .local := by first | exact .inl rfl | exact .inr rfl)
    (hs : ∀ x, foldedSetIterable it X.env x = pure x := by intro _; rfl) (hs1 : ∀ env x, foldedSetIterable it1 env x = pure x := by intro _ _; rfl) :
    DSs X (.Assign [.Name y py0] (.ListComp elt [⟨.Name cx tpos, it, [], 0⟩, ⟨.Name cx1 tpos1, it1, [], 0⟩] scope cpos) spos :: sts) S o := by
  have hln := hi.1
  refine ⟨hok, fun Fr F σ H D hl sat q => (pss_cons (ps_setLc2 (own := own) (vs1 := [j1]) hc hN hyN hyl hsw pI ok (fun m hm => by rw [List.mem_singleton.mp hm]; exact hj1) (fun _ _ _ _ _ => pg_name (i := j) hN hjN hjL hjf) (fun _ _ _ _ _ => pts_nil) pi_tiB (fun _ _ _ _ _ => pg_name (i := j1) hN hjN1 hjL1 hjf1) (fun _ _ _ _ _ => pts_nil) pe_teB hs hs1) pSs).w
    (show tLc2 (wpI X (.Name cx tpos) it) (gName j) tYes (tiB X scope (.Name cx1 tpos1) it1) (gName j1) tYes (teB X scope elt) (own.map (·.2)) [j1] σ H (fun v H1 => wpSs X sts D (σ.set i (some v)) H1) from lc2_read hj hj1 hjj hno hz hi hi1 hE hl sat fun p F2 H2 e2 s2 => ?_)⟩
  refine (h2 p).2 Fr F2 (σ.set i (some (.ref p))) H2 D (by rw [List.length_set, List.length_set, hln]; exact hl) (s2.store (hl.trans hln.symm) hlt) ?_
  rw [List.length_set, hln]
  exact q.mono e2
end
end Lh
end
section
set_option Elab.async false
set_option linter.all false
set_option maxRecDepth 100000
set_option maxHeartbeats 4000000
namespace Lh
open PySem PySem.Spec PyProof.Rows L2
section
variable {P : Program} {w : World} {K : PySem.W.Frag} {mg : Str → Option Value} {base : Heap}
theorem DT.t {X : Cx} {e : Expr} {S S1 : List Slot} {z : Bool} (h : DT X e S z S1) (q : z = true) : DT X e S true S1 := h.to q
theorem DT.f {X : Cx} {e : Expr} {S S1 : List Slot} {z : Bool} (h : DT X e S z S1) (q : z = false) : DT X e S false S1 := h.to q
theorem ent_at {t : Tb} {m : Nat} (h1 : m ≠ 1) (h0 : 1 ≤ m) (h2 : m ≤ t.length + 1) : atI (shs t) ((m : Int) - 2) = some (shD (ent t m)) := by
  have e : ((m : Int) - 2) = ((m - 2 : Nat) : Int) := by omega
  rw [e]
  refine atI_nat ?_
  rw [List.getElem?_map, List.getElem?_eq_getElem (by omega)]
  unfold ent
  rw [if_neg h1, List.getD_eq_getElem?_getD, List.getElem?_eq_getElem (by omega)]
  rfl
/-! table_size, entry -/
theorem sc_table_size : FnScope ["table"] ["table"] (defScope s_table_size) := ⟨rfl, rfl, rfl, by decide +kernel, rfl, by decide +kernel, by decide +kernel⟩
theorem c_table_size (Z : Pg K mg) : FnC P w K mg base 1 "table_size" (PreD (fun _ : Tb => True) (fun t => [pd (tbD t)]) (fun t => pi ((t.length + 1 : Nat)))) := by
  refine FnC.ofD Z.f_table_size sc_table_size (fun _ _ _ _ _ _ us hl => match us, hl with | [_], _ => rfl) (fun _ => rfl) (fun cdv A outer s H E hr ds _ => ?_)
  exact dss_one (ds_ret 0 (DE.to (de_add (de_lent Z.n_len (de_var (i := 0) rfl)) de_int) (by rw [List.length_map]; rfl)))
abbrev preEnt : Pre := PreD (fun i : Tb × Nat => 1 ≤ i.2 ∧ i.2 ≤ i.1.length + 1) (fun i => [pd (tbD i.1), pi (i.2 : Nat)]) (fun i => pd (shD (ent i.1 i.2)))
theorem sc_entry : FnScope ["table", "m"] ["table", "m"] (defScope s_entry) := ⟨rfl, rfl, rfl, by decide +kernel, rfl, by decide +kernel, by decide +kernel⟩
theorem c_entry (Z : Pg K mg) : FnC P w K mg base 1 "entry" preEnt := by
  refine FnC.ofD Z.f_entry sc_entry (fun _ _ _ _ _ _ us hl => match us, hl with | [_, _], _ => rfl) (fun _ => rfl) (fun cdv A outer s H E hr i hi => ?_)
  obtain ⟨t, m⟩ := i
  obtain ⟨h1, h2⟩ := hi
  by_cases e : m = 1
  · subst e
    exact dss_one (ds_ret 0 (de_ifT ((dt_eqI (de_var (i := 1) rfl) de_int).t rfl) de_tup0))
  · refine dss_one (ds_ret 0 (de_ifF ((dt_eqI (de_var (i := 1) rfl) de_int).f (decide_eq_false (by show ¬ ((m : Nat) : Int) = 1; omega))) (de_ixt (de_var (i := 0) rfl) (de_sub (de_var (i := 1) rfl) de_int) (ent_at e h1 h2))))
theorem sc_law_entry : FnScope ["_law_table_here", "_law_m"] ["_law_table_here", "_law_m"] (defScope s_law_entry) := ⟨rfl, rfl, rfl, by decide +kernel, rfl, by decide +kernel, by decide +kernel⟩
theorem c_law_entry (Z : Pg K mg) : FnC P w K mg base 1 "_law_entry" preEnt := by
  refine FnC.ofD Z.f_law_entry sc_law_entry (fun _ _ _ _ _ _ us hl => match us, hl with | [_, _], _ => rfl) (fun _ => rfl) (fun cdv A outer s H E hr i hi => ?_)
  obtain ⟨t, m⟩ := i
  obtain ⟨h1, h2⟩ := hi
  by_cases e : m = 1
  · subst e
    exact dss_one (ds_ret 0 (de_ifT ((dt_eqI (de_var (i := 1) rfl) de_int).t rfl) de_tup0))
  · refine dss_one (ds_ret 0 (de_ifF ((dt_eqI (de_var (i := 1) rfl) de_int).f (decide_eq_false (by show ¬ ((m : Nat) : Int) = 1; omega))) (de_ixt (de_var (i := 0) rfl) (de_sub (de_var (i := 1) rfl) de_int) (ent_at e h1 h2))))
/-! sizes -/
theorem is_o {X : Cx} {S S1 : List Slot} {a : Expr} {pos p1 : Pos} {x1 kk} {s : Sh} (hr : Room kk X.A) (h : DE X a S (pd (shD s)) S1) (hs : s.ht ≤ 60) : DT X (.Compare a [.Eq] [.Tuple [] x1 p1] pos) S (decide (s = .o)) S1 :=
  dt_eqD hr h de_tup0 (nice_sh hs).shaped (by decide) (sh_eqv s .o)
theorem isnt_o {X : Cx} {S S1 : List Slot} {a : Expr} {pos p1 : Pos} {x1 kk} {s : Sh} (hr : Room kk X.A) (h : DE X a S (pd (shD s)) S1) (hs : s.ht ≤ 60) : DT X (.Compare a [.NotEq] [.Tuple [] x1 p1] pos) S (!decide (s = .o)) S1 :=
  dt_neD hr h de_tup0 (nice_sh hs).shaped (by decide) (congrArg (fun z => !z) (sh_eqv s .o))
theorem de_l {X : Cx} {S S1 : List Slot} {a : Expr} {pos p1 : Pos} {x1} {s t : Sh} (h : DE X a S (pd (shD (.n s t))) S1) : DE X (.Subscript a (.Constant (.int 0) x1 p1) pos) S (pd (shD s)) S1 := de_ixt (ds := [shD s, shD t]) h de_int rfl
theorem de_r {X : Cx} {S S1 : List Slot} {a : Expr} {pos p1 : Pos} {x1} {s t : Sh} (h : DE X a S (pd (shD (.n s t))) S1) : DE X (.Subscript a (.Constant (.int 1) x1 p1) pos) S (pd (shD t)) S1 := de_ixt (ds := [shD s, shD t]) h de_int rfl
theorem sc_law_size : FnScope ["_law_form"] ["_law_form"] (defScope s_law_size) := ⟨rfl, rfl, rfl, by decide +kernel, rfl, by decide +kernel, by decide +kernel⟩
theorem c_law_size (Z : Pg K mg) : ∀ h, h ≤ 60 → FnC P w K mg base (h + 1) "_law_size" (PreD (fun s : Sh => s.ht ≤ h) (fun s => [pd (shD s)]) (fun s => pi (s.size : Nat))) := by
  intro h
  induction h with
  | zero =>
    intro hh
    refine FnC.ofD Z.f_law_size sc_law_size (fun _ _ _ _ _ _ us hl => match us, hl with | [_], _ => rfl) (fun _ => rfl) (fun cdv A outer s H E hr i hi => ?_)
    have e : i = .o := by cases i with | o => rfl | n a b => simp [Sh.ht] at hi
    subst e
    exact dss_one (ds_ret 0 (de_ifT ((is_o hr (de_var (i := 0) rfl) (by decide)).t rfl) de_int))
  | succ h ih =>
    intro hh
    have ih := ih (by omega)
    refine FnC.ofD Z.f_law_size sc_law_size (fun _ _ _ _ _ _ us hl => match us, hl with | [_], _ => rfl) (fun _ => rfl) (fun cdv A outer s H E hr i hi => ?_)
    cases i with
    | o => exact dss_one (ds_ret 0 (de_ifT ((is_o hr (de_var (i := 0) rfl) (by decide)).t rfl) de_int))
    | n a b =>
      simp only [Sh.ht] at hi
      exact dss_one (ds_ret 0 (de_ifF ((is_o hr (de_var (i := 0) rfl) (by simp only [Sh.ht]; omega)).f rfl)
        (DE.to (de_add (we_call ih hr (da1 (de_l (de_var (i := 0) rfl))) ⟨a, by show a.ht ≤ h; omega, rfl, rfl, rfl⟩) (we_call ih hr (da1 (de_r (de_var (i := 0) rfl))) ⟨b, by show b.ht ≤ h; omega, rfl, rfl, rfl⟩)) rfl)))
end
end Lh
end
section
set_option Elab.async false
set_option linter.all false
set_option maxRecDepth 100000
set_option maxHeartbeats 4000000
namespace Lh
open PySem PySem.Spec PyProof.Rows L2
theorem cut_to {α : Type} (xs : List α) (n : Nat) : cutG xs none (some (n : Int)) = xs.take n := by
  unfold cutG
  rw [HT.sIx_none, HT.sIx_nat, List.drop_zero, Nat.sub_zero]
  by_cases h : n ≤ xs.length
  · rw [Nat.min_eq_left h]
  · rw [Nat.min_eq_right (by omega), List.take_length, List.take_of_length_le (by omega)]
theorem cut_from {α : Type} (xs : List α) (n : Nat) : cutG xs (some (n : Int)) none = xs.drop n := by
  unfold cutG
  rw [HT.sIx_none, HT.sIx_nat]
  by_cases h : n ≤ xs.length
  · rw [Nat.min_eq_left h, List.take_of_length_le (by rw [List.length_drop]; omega)]
  · rw [Nat.min_eq_right (by omega), List.drop_length, List.drop_eq_nil_of_le (by omega), List.take_nil]
theorem cut_mid {α : Type} (xs : List α) (n m : Nat) : cutG xs (some (n : Int)) (some (m : Int)) = (xs.drop n).take (m - n) := by
  unfold cutG
  rw [HT.sIx_nat, HT.sIx_nat]
  by_cases h : n ≤ xs.length
  · rw [Nat.min_eq_left h]
    by_cases h2 : m ≤ xs.length
    · rw [Nat.min_eq_left h2]
    · rw [Nat.min_eq_right (by omega), List.take_of_length_le (by rw [List.length_drop]; omega), List.take_of_length_le (by rw [List.length_drop]; omega)]
  · rw [Nat.min_eq_right (by omega : xs.length ≤ n), List.drop_length, List.drop_eq_nil_of_le (by omega), List.take_nil, List.take_nil]
section
variable {P : Program} {w : World} {K : PySem.W.Frag} {mg : Str → Option Value} {base : Heap}
/-! combs -/
theorem sc_law_comb : FnScope ["_law_n", "_law_side", "_law_found", "_law_lap"] ["_law_n", "_law_side"] (defScope s_law_comb) := ⟨rfl, rfl, rfl, by decide +kernel, rfl, by decide +kernel, by decide +kernel⟩
def sideS (l : Bool) : Str := if l then "left" else "right"
def combS (l : Bool) (n : Nat) : Sh := if l then combL n else combR n
theorem c_law_comb (Z : Pg K mg) : FnC P w K mg base 1 "_law_comb" (PreD (fun i : Nat × Bool => 1 ≤ i.1 ∧ i.1 ≤ 60) (fun i => [pi (i.1 : Nat), pd (.str (sideS i.2))]) (fun i => pd (shD (combS i.2 (i.1 - 1))))) := by
  refine FnC.ofD Z.f_law_comb sc_law_comb (fun _ _ _ _ _ _ us hl => match us, hl with | [_, _], _ => rfl) (fun _ => rfl) (fun cdv A outer s H E hr i hi => ?_)
  obtain ⟨n, l⟩ := i
  obtain ⟨h1, h2⟩ := hi
  have e1 : ((n : Nat) : Int) - 1 = ((n - 1 : Nat) : Int) := by have : 1 ≤ n := h1; omega
  have hr1 : (nums 0 (((n : Nat) : Int) - 1).toNat).length = n - 1 := by rw [nums_len, e1]; rfl
  have hz : -(2 ^ 62) ≤ ((n : Nat) : Int) - 1 ∧ ((n : Nat) : Int) - 1 < 2 ^ 62 := by have : n ≤ 60 := h2; omega
  refine dss_cons (S1 := [pi (n : Nat), pd (.str (sideS l)), pd (shD (combS l 0)), .no]) (by cases l <;> exact ds_set 2 de_tup0 sc_law_comb.nd) ?_
  refine dss_cons (S1 := [pi (n : Nat), pd (.str (sideS l)), pd (shD (combS l (n - 1))), .no]) ?_ (dss_one (ds_ret 0 (de_var (i := 2) rfl)))
  refine ds_forS (fun j => [pi (n : Nat), pd (.str (sideS l)), pd (shD (combS l j)), .no]) (di_range1 Z.n_range (de_sub (de_var (i := 0) rfl) de_int) hz)
    (fun j R hR => ⟨_, dg_name 3 sc_law_comb.nd, .inl (dss_forget 3 (S' := [pi (n : Nat), pd (.str (sideS l)), pd (shD (combS l (j + 1))), .dat R]) (dss_one ?_))⟩) (by rw [hr1])
  cases l with
  | true => exact ds_set 2 (de_ifT ((dt_eqD hr (de_var (i := 1) rfl) de_str (by decide +kernel) (by decide +kernel) (by decide +kernel)).t rfl) (de_tup2 (de_var (i := 2) rfl) de_tup0)) sc_law_comb.nd
  | false => exact ds_set 2 (de_ifF ((dt_eqD hr (de_var (i := 1) rfl) de_str (by decide +kernel) (by decide +kernel) (by decide +kernel)).f rfl) (de_tup2 de_tup0 (de_var (i := 2) rfl))) sc_law_comb.nd
/-! halves -/
theorem sc_law_halves : FnScope ["_law_n"] ["_law_n"] (defScope s_law_halves) := ⟨rfl, rfl, rfl, by decide +kernel, rfl, by decide +kernel, by decide +kernel⟩
theorem cdiv2 : CDiv ((n : Nat) : Int) 2 := ⟨by decide, by decide⟩
theorem c_law_halves (Z : Pg K mg) : ∀ h, FnC P w K mg base (h + 1) "_law_halves" (PreD (fun n : Nat => n ≤ h) (fun n => [pi (n : Nat)]) (fun n => pd (shD (halvesF h n)))) := by
  intro h
  induction h with
  | zero =>
    refine FnC.ofD Z.f_law_halves sc_law_halves (fun _ _ _ _ _ _ us hl => match us, hl with | [_], _ => rfl) (fun _ => rfl) (fun cdv A outer s H E hr n hn => ?_)
    have e : n = 0 := by have : n ≤ 0 := hn; omega
    subst e
    exact dss_one (ds_ret 0 (de_ifT ((dt_lt (de_var (i := 0) rfl) de_int).t rfl) de_tup0))
  | succ h ih =>
    refine FnC.ofD Z.f_law_halves sc_law_halves (fun _ _ _ _ _ _ us hl => match us, hl with | [_], _ => rfl) (fun _ => rfl) (fun cdv A outer s H E hr n hn => ?_)
    have hn : n ≤ h + 1 := hn
    by_cases h2 : n < 2
    · have e : halvesF (h + 1) n = .o := by unfold halvesF; rw [if_pos h2]
      rw [e]
      exact dss_one (ds_ret 0 (de_ifT ((dt_lt (de_var (i := 0) rfl) de_int).t (decide_eq_true (by omega))) de_tup0))
    · have e : halvesF (h + 1) n = .n (halvesF h (n - n / 2)) (halvesF h (n / 2)) := by
        show (if n < 2 then _ else _) = _
        rw [if_neg h2]
      rw [e]
      have d2 : ((n : Nat) : Int) / 2 = ((n / 2 : Nat) : Int) := by omega
      have d3 : ((n : Nat) : Int) - ((n : Nat) : Int) / 2 = ((n - n / 2 : Nat) : Int) := by omega
      exact dss_one (ds_ret 0 (de_ifF ((dt_lt (de_var (i := 0) rfl) de_int).f (decide_eq_false (by omega)))
        (de_tup2 (we_call ih hr (da1 (DE.to (de_sub (de_var (i := 0) rfl) (de_fdiv (de_var (i := 0) rfl) de_int cdiv2)) (by rw [d3]))) ⟨n - n / 2, by show n - n / 2 ≤ h; omega, rfl, rfl, rfl⟩)
          (we_call ih hr (da1 (DE.to (de_fdiv (de_var (i := 0) rfl) de_int cdiv2) (by rw [d2]))) ⟨n / 2, by show n / 2 ≤ h; omega, rfl, rfl, rfl⟩))))
/-! filled: the law's -/
theorem sc_law_filled : FnScope ["_law_form", "_law_lumps", "_law_size_here"] ["_law_form", "_law_lumps"] (defScope s_law_filled) := ⟨rfl, rfl, rfl, by decide +kernel, rfl, by decide +kernel, by decide +kernel⟩
theorem at_0 {α : Type} {x : α} {l : List α} : atI (x :: l) 0 = some x := atI_nat (j := 0) rfl
abbrev preFill (h : Nat) : Pre := PreD (fun i : Sh × List Sh => i.1.ht ≤ h ∧ i.1.size ≤ i.2.length) (fun i => [pd (shD i.1), pl (shs i.2)]) (fun i => pd (shD (fill i.1 i.2)))
theorem c_law_filled (Z : Pg K mg) : ∀ h, h ≤ 60 → FnC P w K mg base (h + 2) "_law_filled" (preFill h) := by
  intro h
  induction h with
  | zero =>
    intro _
    refine FnC.ofD Z.f_law_filled sc_law_filled (fun _ _ _ _ _ _ us hl => match us, hl with | [_, _], _ => rfl) (fun _ => rfl) (fun cdv A outer s H E hr i hi => ?_)
    obtain ⟨f, l⟩ := i
    obtain ⟨h1, h2⟩ := hi
    have e : f = .o := by cases f with | o => rfl | n a b => simp [Sh.ht] at h1
    subst e
    match l, h2 with
    | x :: l, _ => exact dss_rt (ds_ifT ((is_o hr (de_var (i := 0) rfl) (Nat.zero_le _)).t rfl) (dss_one (ds_ret 0 (de_ix (de_var (i := 1) rfl) de_int at_0))))
  | succ h ih =>
    intro hh
    have ih := ih (by omega)
    refine FnC.ofD Z.f_law_filled sc_law_filled (fun _ _ _ _ _ _ us hl => match us, hl with | [_, _], _ => rfl) (fun _ => rfl) (fun cdv A outer s H E hr i hi => ?_)
    obtain ⟨f, l⟩ := i
    obtain ⟨h1, h2⟩ := hi
    cases f with
    | o =>
      match l, h2 with
      | x :: l, _ => exact dss_rt (ds_ifT ((is_o hr (de_var (i := 0) rfl) (Nat.zero_le _)).t rfl) (dss_one (ds_ret 0 (de_ix (de_var (i := 1) rfl) de_int at_0))))
    | n a b =>
      have h1 : max a.ht b.ht + 1 ≤ h + 1 := h1
      have h2 : a.size + b.size ≤ l.length := h2
      have e1 : cutG (shs l) none (some ((a.size : Nat) : Int)) = shs (l.take a.size) := by rw [cut_to]; exact List.map_take.symm
      have e2 : cutG (shs l) (some ((a.size : Nat) : Int)) none = shs (l.drop a.size) := by rw [cut_from]; exact List.map_drop.symm
      refine dss_cons (S1 := [pd (shD (.n a b)), pl (shs l), .no]) (ds_ifF ((is_o hr (de_var (i := 0) rfl) (by show max a.ht b.ht + 1 ≤ 60; omega)).f rfl) dss_nil) ?_
      refine dss_cons (S1 := [pd (shD (.n a b)), pl (shs l), pi (a.size : Nat)]) (ds_set 2 (we_call (c_law_size Z h (by omega)) (hr.mono (by omega)) (da1 (de_l (de_var (i := 0) rfl))) ⟨a, by show a.ht ≤ h; omega, rfl, rfl, rfl⟩) sc_law_filled.nd) ?_
      exact dss_one (ds_ret 0 (de_tup2
        (we_call ih hr (da2 (de_l (de_var (i := 0) rfl)) (DE.to (de_sl (de_var (i := 1) rfl) dp_no (dp_int (de_var (i := 2) rfl))) (by rw [e1]))) ⟨(a, l.take a.size), ⟨by show a.ht ≤ h; omega, by show a.size ≤ (l.take a.size).length; rw [List.length_take]; omega⟩, rfl, rfl, rfl⟩)
        (we_call ih hr (da2 (de_r (de_var (i := 0) rfl)) (DE.to (de_sl (de_var (i := 1) rfl) (dp_int (de_var (i := 2) rfl)) dp_no) (by rw [e2]))) ⟨(b, l.drop a.size), ⟨by show b.ht ≤ h; omega, by show b.size ≤ (l.drop a.size).length; rw [List.length_drop]; omega⟩, rfl, rfl, rfl⟩)))
/-! .. the program's: the lumps are taken out -/
theorem sc_filled : FnScope ["form", "lumps", "left"] ["form", "lumps"] (defScope s_filled) := ⟨rfl, rfl, rfl, by decide +kernel, rfl, by decide +kernel, by decide +kernel⟩
abbrev shR (l : List Sh) : List Rel := l.map fun s => py (shD s)
abbrev preFil (h : Nat) : Pre := fun as k as' => ∃ (f : Sh) (l : List Sh) (p : Addr), f.ht ≤ h ∧ f.size ≤ l.length ∧ as = [pd (shD f), .own (lstO p (shR l))] ∧ k = (fun w => w = pd (shD (fill f l))) ∧ as' = [pd (shD f), .own (lstO p (shR (l.drop f.size)))]
theorem c_filled (Z : Pg K mg) : ∀ h, h ≤ 60 → FnC P w K mg base (h + 1) "filled" (preFil h) := by
  intro h
  have hb : ∀ (kV doc pm : Value) (an : Option Addr) (cdv ct : Value) (us : List Value), us.length = 2 → bindArgs (PySem.W.fnOf "filled" "filled" (defArgs s_filled) (defBody s_filled) (defScope s_filled) .none kV doc pm an cdv ct) ⟨us, []⟩ = pure ((["form", "lumps"] : List Str).zip us) := fun _ _ _ _ _ _ us hl => match us, hl with | [_, _], _ => rfl
  induction h with
  | zero =>
    intro _
    obtain ⟨fd, F, hm⟩ := Z.f_filled
    refine FnC.ofBody F sc_filled hm hb (by rintro as k as' ⟨f, l, p, _, _, rfl, _⟩; rfl) (fun cdv A outer s H E hr as k as' h => ?_)
    obtain ⟨f, l, p, h1, h2, rfl, rfl, rfl⟩ := h
    have e : f = .o := by cases f with | o => rfl | n a b => simp [Sh.ht] at h1
    subst e
    match l, h2 with
    | x :: l, _ => exact dss_rt (ds_ifT ((is_o hr (de_var (i := 0) rfl) (Nat.zero_le _)).t rfl) (dss_one (ds_ret 2 (de_pop0O (i := 1) rfl de_int))))
  | succ h ih =>
    intro hh
    have ih := ih (by omega)
    obtain ⟨fd, F, hm⟩ := Z.f_filled
    refine FnC.ofBody F sc_filled hm hb (by rintro as k as' ⟨f, l, p, _, _, rfl, _⟩; rfl) (fun cdv A outer s H E hr as k as' h => ?_)
    obtain ⟨f, l, p, h1, h2, rfl, rfl, rfl⟩ := h
    cases f with
    | o =>
      match l, h2 with
      | x :: l, _ => exact dss_rt (ds_ifT ((is_o hr (de_var (i := 0) rfl) (Nat.zero_le _)).t rfl) (dss_one (ds_ret 2 (de_pop0O (i := 1) rfl de_int))))
    | n a b =>
      have h1 : max a.ht b.ht + 1 ≤ h + 1 := h1
      have h2 : a.size + b.size ≤ l.length := h2
      have e2 : l.drop (Sh.n a b).size = (l.drop a.size).drop b.size := by rw [List.drop_drop]; rfl
      rw [e2, fill_n]
      refine dss_cons (S1 := [pd (shD (.n a b)), .own (lstO p (shR l)), .no]) (ds_ifF ((is_o hr (de_var (i := 0) rfl) (by show max a.ht b.ht + 1 ≤ 60; omega)).f rfl) dss_nil) ?_
      refine dss_cons (S1 := [pd (shD (.n a b)), .own (lstO p (shR (l.drop a.size))), pd (shD (fill a l))])
        (ds_set 2 (we_callB (i := 1) ih hr (da2 (de_l (de_var (i := 0) rfl)) (de_own (i := 1) rfl pin_lst)) ⟨a, l, p, by omega, by omega, rfl, rfl, rfl⟩ 1 rfl pin_lst rfl) sc_filled.nd) ?_
      exact dss_one (ds_ret 2 (de_tup2 (de_var (i := 2) rfl) (we_callB (i := 1) ih hr (da2 (de_r (de_var (i := 0) rfl)) (de_own (i := 1) rfl pin_lst)) ⟨b, l.drop a.size, p, by omega, by rw [List.length_drop]; omega, rfl, rfl, rfl⟩ 1 rfl pin_lst rfl)))
end
end Lh
end
section
set_option Elab.async false
set_option linter.all false
set_option maxRecDepth 100000
set_option maxHeartbeats 4000000
namespace Lh
open PySem PySem.Spec PyProof.Rows L2
theorem cl_le {m b : Nat} (hb : 1 ≤ b) : cl m b ≤ m := by
  unfold cl
  rcases Nat.eq_zero_or_pos m with h | h
  · subst h
    rw [Nat.div_eq_of_lt (by omega)]
    omega
  · refine Nat.le_of_lt_succ (Nat.div_lt_of_lt_mul ?_)
    show m + b - 1 < b * (m + 1)
    have : b + m ≤ b * (m + 1) := by
      rw [Nat.mul_add, Nat.mul_one]
      have : 1 * m ≤ b * m := Nat.mul_le_mul_right m hb
      omega
    omega
theorem cl_lt {m b k : Nat} (hb : 1 ≤ b) (h : k < cl m b) : k * b < m := by
  unfold cl at h
  have h2 : (k + 1) * b ≤ m + b - 1 := (Nat.le_div_iff_mul_le (by omega)).mp h
  rw [Nat.add_mul, Nat.one_mul] at h2
  omega
theorem cl_ge {m b k : Nat} (hb : 1 ≤ b) (h : cl m b ≤ k) : m ≤ k * b := by
  unfold cl at h
  have h2 : m + b - 1 < (k + 1) * b := (Nat.div_lt_iff_lt_mul (by omega)).mp (by omega)
  rw [Nat.add_mul, Nat.one_mul] at h2
  omega
theorem rgC_pos {m b : Nat} (hb : 1 ≤ b) (hb2 : b ≤ 1000) (hm : m ≤ 1000) : RgC 0 (m : Nat) (b : Nat) (cl m b) := by
  have e : Builtin.Range.rangeSize 0 (m : Nat) (b : Nat) = ((cl m b : Nat) : Int) := by
    rw [PyProof.Rows.rangeSize_pos (by omega) (by omega)]
    unfold cl
    rw [show ((m : Nat) : Int) + (b : Nat) - 1 = ((m + b - 1 : Nat) : Int) by omega]
    exact (Int.natCast_ediv _ _).symm
  have h1 := cl_le (m := m) hb
  refine ⟨by omega, by omega, ?_, e⟩
  unfold Builtin.Range.small
  rw [e]
  simp only [Builtin.Range.rangeFitsLong, Bool.and_eq_true, Bool.or_eq_true, decide_eq_true_eq, beq_iff_eq]
  have hbp : ((b : Nat) : Int) > 0 := by omega
  simp only [hbp, if_true]
  refine ⟨by omega, Or.inr ?_⟩
  rw [Bool.and_eq_true]
  exact ⟨decide_eq_true (by omega), decide_eq_true (by omega)⟩
theorem zb {k b : Nat} : (0 : Int) + (k : Int) * (b : Nat) = ((k * b : Nat) : Int) := by rw [Int.zero_add, Int.natCast_mul]
theorem zmin {i j : Nat} : (if ((j : Nat) : Int) < ((i : Nat) : Int) then ((j : Nat) : Int) else ((i : Nat) : Int)) = ((min i j : Nat) : Int) := by
  split <;> omega
theorem zm {k b m : Nat} : (if ((m : Nat) : Int) < 0 + (k : Int) * (b : Nat) + (b : Nat) then ((m : Nat) : Int) else 0 + (k : Int) * (b : Nat) + (b : Nat)) = ((min (k * b + b) m : Nat) : Int) := by
  rw [zb, ← Int.natCast_add]
  exact zmin
theorem no1 {S : List Slot} {j : Nat} (h : S[j]? = some .no) : ∀ m ∈ [j], S[m]? = some .no := fun m hm => by rw [List.mem_singleton.mp hm]; exact h
theorem no2 {S : List Slot} {j j1 : Nat} (h : S[j]? = some .no) (h1 : S[j1]? = some .no) : ∀ m ∈ [j, j1], S[m]? = some .no := fun m hm => by
  rcases List.mem_cons.mp hm with e | e
  · rw [e]; exact h
  · rw [List.mem_singleton.mp e]; exact h1
theorem few {n : Nat} (h : n ≤ 1000000) : n < sizeLine := by rw [sizeLine_eq]; omega
theorem few2 {n : Nat} (h : n ≤ 1000000) : n ≤ sizeLine := by rw [sizeLine_eq]; omega
/-- pairs of numbers -/
def prD (p : Nat × Nat) : PyData := .tuple [.int (p.1 : Nat), .int (p.2 : Nat)]
section
variable {P : Program} {w : World} {K : PySem.W.Frag} {mg : Str → Option Value} {base : Heap}
theorem sc_stretches : FnScope ["m", "b", "begin"] ["m", "b"] (defScope s_stretches) := ⟨rfl, rfl, rfl, by decide +kernel, rfl, by decide +kernel, by decide +kernel⟩
theorem c_stretches (Z : Pg K mg) : FnC P w K mg base 1 "stretches" (PreD (fun i : Nat × Nat => i.1 ≤ 1000 ∧ 1 ≤ i.2 ∧ i.2 ≤ 1000) (fun i => [pi (i.1 : Nat), pi (i.2 : Nat)]) (fun i => pl ((stret i.1 i.2).map prD))) := by
  refine FnC.ofD Z.f_stretches sc_stretches (fun _ _ _ _ _ _ us hl => match us, hl with | [_, _], _ => rfl) (fun _ => rfl) (fun cdv A outer s H E hr i hi => ?_)
  obtain ⟨m, b⟩ := i
  obtain ⟨h1, h2, h3⟩ : m ≤ 1000 ∧ 1 ≤ b ∧ b ≤ 1000 := hi
  exact dss_one (ds_ret 0 (DE.to (de_lcP (own := [("begin", 2)]) (g := fun (k : Nat) => py (.int (0 + (k : Int) * (b : Nat)))) (ys := fun k => prD (k * b, min (k * b + b) m)) (xs := List.range (cl m b)) 2 sc_stretches.nd
    (show BlkOk ["m", "b", "begin"] (defScope s_stretches) _ _ from ⟨rfl, by decide +kernel, by decide +kernel, by decide +kernel, by decide +kernel⟩)
    (di_range3 Z.n_range de_int (de_var (i := 0) rfl) (de_var (i := 1) rfl) (rgC_pos h2 h3 h1)) (few (by rw [List.length_range]; have := cl_le (m := m) h2; omega)) (by decide) (no1 rfl)
    (fun k hk s H C cl fp => de_tup2 (DE.to (de_var (i := 2) rfl) (by rw [zb])) (DE.to (de_min Z.n_min (de_add (de_var (i := 2) rfl) (de_var (i := 1) rfl)) (de_var (i := 0) rfl)) (by rw [zm])))) (by show _ = pl ((stret m b).map prD); unfold stret; rw [List.map_map]; rfl)))

/-! parts -/
def nodes : Sh → Nat
  | .o => 1
  | .n a b => nodes a + nodes b + 1
abbrev Gp := Int → Int → Option Rel
def putG (g : Gp) (x y : Int) (R : Rel) : Gp := fun z' y' => if z' = x ∧ y' = y then some R else g z' y'
def putP : Sh → Nat → Gp → Gp
  | .o, i, g => putG g (i : Nat) (i + 1 : Nat) (py (shD .o))
  | .n a b, i, g => putG (putP b (i + a.size) (putP a i g)) (i : Nat) (i + (a.size + b.size) : Nat) (py (shD (.n a b)))
theorem sc_put_parts : FnScope ["shape", "begin", "found", "end"] ["shape", "begin", "found"] (defScope s_put_parts) := ⟨rfl, rfl, rfl, by decide +kernel, rfl, by decide +kernel, by decide +kernel⟩
abbrev prePut (h : Nat) : Pre := fun as k as' => ∃ (s : Sh) (i : Nat) (p : Addr) (n : Nat) (g : Gp), s.ht ≤ h ∧ n + nodes s ≤ 100000 ∧ as = [pd (shD s), pi (i : Nat), .own (dtpO p n g)] ∧ k = (fun w => w = pi ((i + s.size : Nat) : Int)) ∧ as' = [pd (shD s), pi (i : Nat), .own (dtpO p (n + nodes s) (putP s i g))]
theorem c_put_parts (Z : Pg K mg) : ∀ h, h ≤ 60 → FnC P w K mg base (h + 1) "put_parts" (prePut h) := by
  intro h
  have hb : ∀ (kV doc pm : Value) (an : Option Addr) (cdv ct : Value) (us : List Value), us.length = 3 → bindArgs (PySem.W.fnOf "put_parts" "put_parts" (defArgs s_put_parts) (defBody s_put_parts) (defScope s_put_parts) .none kV doc pm an cdv ct) ⟨us, []⟩ = pure ((["shape", "begin", "found"] : List Str).zip us) := fun _ _ _ _ _ _ us hl => match us, hl with | [_, _, _], _ => rfl
  induction h with
  | zero =>
    intro _
    obtain ⟨fd, F, hm⟩ := Z.f_put_parts
    refine FnC.ofBody F sc_put_parts hm hb (by rintro as k as' ⟨f, i, p, n, g, _, _, rfl, _⟩; rfl) (fun cdv A outer s H E hr as k as' h => ?_)
    obtain ⟨f, i, p, n, g, h1, h2, rfl, rfl, rfl⟩ := h
    have e : f = .o := by cases f with | o => rfl | n a b => simp [Sh.ht] at h1
    subst e
    refine dss_cons (S1 := [pd (shD .o), pi (i : Nat), .own (dtpO p n g), pi ((i + 1 : Nat) : Int)]) (ds_set 3 (DE.to (de_add (de_var (i := 1) rfl) de_int) rfl) sc_put_parts.nd) ?_
    refine dss_cons (S1 := [pd (shD .o), pi (i : Nat), .own (dtpO p n g), pi ((i + 1 : Nat) : Int)]) (ds_ifF ((isnt_o hr (de_var (i := 0) rfl) (Nat.zero_le _)).f rfl) dss_nil) ?_
    refine dss_cons (S1 := [pd (shD .o), pi (i : Nat), .own (dtpO p (n + 1) (putP .o i g)), pi ((i + 1 : Nat) : Int)]) (ds_putT 2 hr (de_var (i := 0) rfl) (de_var (i := 1) rfl) (de_var (i := 3) rfl) rfl rfl (few (by show n ≤ _; simp only [nodes] at h2; omega))) ?_
    exact dss_one (ds_ret 3 (de_var (i := 3) rfl))
  | succ h ih =>
    intro hh
    have ih := ih (by omega)
    obtain ⟨fd, F, hm⟩ := Z.f_put_parts
    refine FnC.ofBody F sc_put_parts hm hb (by rintro as k as' ⟨f, i, p, n, g, _, _, rfl, _⟩; rfl) (fun cdv A outer s H E hr as k as' h => ?_)
    obtain ⟨f, i, p, n, g, h1, h2, rfl, rfl, rfl⟩ := h
    cases f with
    | o =>
      refine dss_cons (S1 := [pd (shD .o), pi (i : Nat), .own (dtpO p n g), pi ((i + 1 : Nat) : Int)]) (ds_set 3 (DE.to (de_add (de_var (i := 1) rfl) de_int) rfl) sc_put_parts.nd) ?_
      refine dss_cons (S1 := [pd (shD .o), pi (i : Nat), .own (dtpO p n g), pi ((i + 1 : Nat) : Int)]) (ds_ifF ((isnt_o hr (de_var (i := 0) rfl) (Nat.zero_le _)).f rfl) dss_nil) ?_
      refine dss_cons (S1 := [pd (shD .o), pi (i : Nat), .own (dtpO p (n + 1) (putP .o i g)), pi ((i + 1 : Nat) : Int)]) (ds_putT 2 hr (de_var (i := 0) rfl) (de_var (i := 1) rfl) (de_var (i := 3) rfl) rfl rfl (few (by show n ≤ _; simp only [nodes] at h2; omega))) ?_
      exact dss_one (ds_ret 3 (de_var (i := 3) rfl))
    | n a b =>
      have h1 : max a.ht b.ht + 1 ≤ h + 1 := h1
      have h2 : n + (nodes a + nodes b + 1) ≤ 100000 := h2
      have e1 : ((i + a.size + b.size : Nat) : Int) = ((i + (a.size + b.size) : Nat) : Int) := by omega
      refine dss_cons (S1 := [pd (shD (.n a b)), pi (i : Nat), .own (dtpO p n g), pi ((i + 1 : Nat) : Int)]) (ds_set 3 (DE.to (de_add (de_var (i := 1) rfl) de_int) rfl) sc_put_parts.nd) ?_
      refine dss_cons (S1 := [pd (shD (.n a b)), pi (i : Nat), .own (dtpO p (n + nodes a + nodes b) (putP b (i + a.size) (putP a i g))), pi ((i + (a.size + b.size) : Nat) : Int)]) (ds_ifT ((isnt_o hr (de_var (i := 0) rfl) (by show max a.ht b.ht + 1 ≤ 60; omega)).t rfl) (dss_one
        (ds_set 3 (DE.to (we_callB (i := 2) ih hr (da3 (de_r (de_var (i := 0) rfl)) (we_callB (i := 2) ih hr (da3 (de_l (de_var (i := 0) rfl)) (de_var (i := 1) rfl) (de_own (i := 2) rfl pin_dtp)) ⟨a, i, p, n, g, by omega, by omega, rfl, rfl, rfl⟩ 2 rfl pin_dtp rfl) (de_own (i := 2) rfl pin_dtp)) ⟨b, i + a.size, p, n + nodes a, putP a i g, by omega, by omega, rfl, rfl, rfl⟩ 2 rfl pin_dtp rfl) (by rw [e1])) sc_put_parts.nd))) ?_
      refine dss_cons (S1 := [pd (shD (.n a b)), pi (i : Nat), .own (dtpO p (n + nodes a + nodes b + 1) (putP (.n a b) i g)), pi ((i + (a.size + b.size) : Nat) : Int)]) (ds_putT 2 hr (de_var (i := 0) rfl) (de_var (i := 1) rfl) (de_var (i := 3) rfl) rfl rfl (few (by omega))) ?_
      have e2 : n + nodes (.n a b) = n + nodes a + nodes b + 1 := by show n + (nodes a + nodes b + 1) = _; omega
      rw [e2]
      exact dss_one (ds_ret 3 (de_var (i := 3) rfl))
def partsG (s : Sh) : Gp := putP s 0 fun _ _ => none
theorem sc_parts_of : FnScope ["shape", "found"] ["shape"] (defScope s_parts_of) := ⟨rfl, rfl, rfl, by decide +kernel, rfl, by decide +kernel, by decide +kernel⟩
theorem c_parts_of (Z : Pg K mg) : FnC P w K mg base 62 "parts_of" (fun as k as' => ∃ s : Sh, s.ht ≤ 60 ∧ nodes s ≤ 100000 ∧ as = [pd (shD s)] ∧ k = (fun w => ∃ p n, w = .own (dtpO p n (partsG s))) ∧ as' = []) := by
  obtain ⟨fd, F, hm⟩ := Z.f_parts_of
  refine FnC.ofBody F sc_parts_of hm (fun _ _ _ _ _ _ us hl => match us, hl with | [_], _ => rfl) (by rintro as k as' ⟨f, _, _, rfl, _⟩; rfl) (fun cdv A outer s H E hr as k as' h => ?_)
  obtain ⟨f, h1, h2, rfl, rfl, rfl⟩ := h
  refine dss_new 1 we_dtp sc_parts_of.nd (fun w hw => ?_) (Nat.zero_le _)
  obtain ⟨p, rfl⟩ := hw
  refine dss_cons (S1 := [pd (shD f), .own (dtpO p (0 + nodes f) (partsG f))]) (ds_expr (we_callB (i := 1) (c_put_parts Z 60 (Nat.le_refl _)) (hr.mono (by omega)) (da3 (de_var (i := 0) rfl) de_int (de_own (i := 1) rfl pin_dtp)) ⟨f, 0, p, 0, _, h1, by omega, rfl, rfl, rfl⟩ 2 rfl pin_dtp rfl)) ?_
  exact dss_one (ds_ret 0 ((de_own (i := 1) rfl pin_dtp).imp fun w hw => ⟨p, _, hw⟩))
end
end Lh
end
section
set_option Elab.async false
set_option linter.all false
set_option maxRecDepth 100000
set_option maxHeartbeats 4000000
namespace Lh
open PySem PySem.Spec PyProof.Rows L2
theorem least (p : Nat → Bool) : ∀ N : Nat, (∃ n, n < N ∧ p n = false ∧ ∀ k, k < n → p k = true) ∨ ∀ n, n < N → p n = true
  | 0 => .inr fun n h => by omega
  | N + 1 => by
    rcases least p N with ⟨n, h1, h2, h3⟩ | h
    · exact .inl ⟨n, by omega, h2, h3⟩
    · cases e : p N with
      | false => exact .inl ⟨N, by omega, e, h⟩
      | true =>
        refine .inr fun n hn => ?_
        by_cases e2 : n = N
        · rw [e2]; exact e
        · exact h n (by omega)
/-- None, or something else -/
def kN (z : Bool) : Slot → Prop := fun w => ∃ R, w = .dat R ∧ isNon R z
theorem kn_none {w : Slot} (h : w = pd .none) : kN true w := ⟨_, h, non_none⟩
theorem kn_tup {w : Slot} {ds : List PyData} (h : w = pd (.tuple ds)) : kN false w := ⟨_, h, non_tup⟩
theorem kn_tupR {w : Slot} {Rs : List Rel} (h : w = .dat (tupR Rs)) : kN false w := ⟨_, h, fun h => by obtain ⟨a, vs, rfl, _⟩ := h; rfl⟩
section
variable {X : Cx} {S S1 S2 S3 : List Slot} {a b c e : Expr} {pos : Pos}
theorem we_isNk {z : Bool} {j p} (ha : WE X a S (kN z) S1) : DE X (.Compare a [.Is] [.Constant .none j p] pos) S (pb z) S1 :=
  ⟨ha.1, fun Fr F σ H Q hl sat c => (pe_cmp (pc_isN pE)).w (ha.2 Fr F σ H _ hl sat fun w v F2 H2 kw e2 s2 => by
    obtain ⟨R, rfl, h⟩ := kw
    rw [h s2.hd]
    exact c _ _ F2 H2 rfl e2 (s2.tail.dat (.bl z)))⟩
end
theorem part_o (i j : Nat) : part .o i j = if i = 0 ∧ j = 1 then some .o else none := by
  rw [part.eq_def]
  simp only [Sh.size]
  congr
theorem part_n (a b : Sh) (i j : Nat) : part (.n a b) i j = if i = 0 ∧ j = a.size + b.size then some (.n a b) else if j ≤ a.size then part a i j else if a.size ≤ i then part b (i - a.size) (j - a.size) else none := by
  rw [part.eq_def]
  simp only [Sh.size]
  congr
theorem part_lt : ∀ (s : Sh) (i j : Nat) (u : Sh), part s i j = some u → i < j ∧ j ≤ s.size
  | .o, i, j, u, h => by
    rw [part_o] at h
    by_cases q : i = 0 ∧ j = 1
    · simp only [Sh.size]
      omega
    · rw [if_neg q] at h
      cases h
  | .n a b, i, j, u, h => by
    have ha := size_pos a
    rw [part_n] at h
    simp only [Sh.size]
    by_cases q : i = 0 ∧ j = a.size + b.size
    · omega
    · rw [if_neg q] at h
      by_cases q2 : j ≤ a.size
      · rw [if_pos q2] at h
        have := part_lt a i j u h
        omega
      · rw [if_neg q2] at h
        by_cases q3 : a.size ≤ i
        · rw [if_pos q3] at h
          have := part_lt b _ _ u h
          omega
        · rw [if_neg q3] at h
          cases h
def tell (o : Option Sh) (d : Option Rel) : Option Rel := match o with
  | some u => some (py (shD u))
  | none => d
theorem putG_nat {g : Gp} {x y x' y' : Nat} {R : Rel} : putG g (x : Nat) (y : Nat) R (x' : Nat) (y' : Nat) = if x' = x ∧ y' = y then some R else g x' y' := by
  unfold putG
  by_cases h : x' = x ∧ y' = y
  · rw [if_pos h, if_pos (by omega)]
  · rw [if_neg h, if_neg (by omega)]
theorem putP_get : ∀ (s : Sh) (i : Nat) (g : Gp) (x y : Nat), putP s i g (x : Nat) (y : Nat) = tell (if i ≤ x then part s (x - i) (y - i) else none) (g x y)
  | .o, i, g, x, y => by
    show putG g (i : Nat) ((i + 1 : Nat) : Int) _ _ _ = _
    rw [putG_nat]
    by_cases h : x = i ∧ y = i + 1
    · rw [if_pos h, if_pos (by omega), part_o, if_pos (by omega)]
      rfl
    · rw [if_neg h]
      by_cases h2 : i ≤ x
      · rw [if_pos h2, part_o, if_neg (by omega)]
        rfl
      · rw [if_neg h2]
        rfl
  | .n a b, i, g, x, y => by
    have hp := size_pos (.n a b)
    have ha := size_pos a
    show putG (putP b (i + a.size) (putP a i g)) (i : Nat) ((i + (a.size + b.size) : Nat) : Int) _ _ _ = _
    rw [putG_nat, putP_get b, putP_get a]
    by_cases h : x = i ∧ y = i + (a.size + b.size)
    · rw [if_pos h, if_pos (by omega), part_n, if_pos (by omega)]
      rfl
    · rw [if_neg h]
      by_cases h2 : i ≤ x
      · rw [if_pos h2]
        have e1 : part (.n a b) (x - i) (y - i) = if y - i ≤ a.size then part a (x - i) (y - i) else if a.size ≤ x - i then part b (x - i - a.size) (y - i - a.size) else none := by
          rw [part_n, if_neg (show ¬ (x - i = 0 ∧ y - i = a.size + b.size) by omega)]
        rw [e1, if_pos h2]
        by_cases h3 : y - i ≤ a.size
        · rw [if_pos h3]
          have e2 : (if i + a.size ≤ x then part b (x - (i + a.size)) (y - (i + a.size)) else none) = none := by
            split
            · cases q : part b (x - (i + a.size)) (y - (i + a.size)) with
              | none => rfl
              | some u =>
                have := part_lt _ _ _ _ q
                omega
            · rfl
          rw [e2]
          rfl
        · rw [if_neg h3]
          have e2 : part a (x - i) (y - i) = none := by
            cases q : part a (x - i) (y - i) with
            | none => rfl
            | some u =>
              have := part_lt _ _ _ _ q
              omega
          rw [e2]
          by_cases h4 : a.size ≤ x - i
          · rw [if_pos (by omega), if_pos h4, Nat.sub_sub, Nat.sub_sub]
            rfl
          · rw [if_neg (by omega), if_neg h4]
            rfl
      · rw [if_neg h2, if_neg h2, if_neg (by omega)]
        rfl
theorem partsG_get (s : Sh) (x y : Nat) : partsG s (x : Nat) (y : Nat) = (part s x y).map fun u => py (shD u) := by
  unfold partsG
  rw [putP_get, if_pos (Nat.zero_le _), Nat.sub_zero, Nat.sub_zero]
  cases part s x y <;> rfl
theorem nodes_le : ∀ s : Sh, nodes s + 1 = 2 * s.size
  | .o => rfl
  | .n a b => by
    have h1 := nodes_le a
    have h2 := nodes_le b
    simp only [nodes, Sh.size]
    omega
theorem part_ht : ∀ (s : Sh) (i j : Nat) (u : Sh), part s i j = some u → u.ht ≤ s.ht
  | .o, i, j, u, h => by
    rw [part_o] at h
    by_cases q : i = 0 ∧ j = 1
    · rw [if_pos q] at h
      cases h
      exact Nat.le_refl _
    · rw [if_neg q] at h
      cases h
  | .n a b, i, j, u, h => by
    rw [part_n] at h
    simp only [Sh.ht]
    by_cases q : i = 0 ∧ j = a.size + b.size
    · rw [if_pos q] at h
      cases h
      exact Nat.le_refl _
    · rw [if_neg q] at h
      by_cases q2 : j ≤ a.size
      · rw [if_pos q2] at h
        have := part_ht a i j u h
        omega
      · rw [if_neg q2] at h
        by_cases q3 : a.size ≤ i
        · rw [if_pos q3] at h
          have := part_ht b _ _ u h
          omega
        · rw [if_neg q3] at h
          cases h
/-! tables that are met -/
def gT (t : Tb) : Prop := okT t ∧ t.length ≤ 11
theorem gT_ent {t : Tb} (h : gT t) {m : Nat} (h1 : 1 ≤ m) (h2 : m ≤ t.length + 1) : (ent t m).size = m := by
  unfold ent
  by_cases e : m = 1
  · rw [if_pos e, e]; rfl
  · rw [if_neg e]
    have hi : m - 2 < t.length := by omega
    rw [List.getD_eq_getElem?_getD, List.getElem?_eq_getElem hi]
    have := h.1.2 (m - 2) _ (List.getElem?_eq_getElem hi)
    show (t[m - 2]).size = m
    omega
theorem gT_ht {t : Tb} (h : gT t) {m : Nat} (h1 : 1 ≤ m) (h2 : m ≤ t.length + 1) : (ent t m).ht ≤ 11 := by
  have e1 := gT_ent h h1 h2
  have e2 := ht_size (ent t m)
  have := h.2
  omega
theorem gT_mem {t : Tb} (h : gT t) {s : Sh} (hs : s ∈ t) : s.ht ≤ 11 := by
  obtain ⟨k, hk, e⟩ := List.getElem_of_mem hs
  have h1 := h.1.2 k s (by rw [List.getElem?_eq_getElem hk, e])
  have e2 := ht_size s
  have := h.2
  omega
theorem gT_nice {t : Tb} (h : gT t) : Nice 13 (tbD t) := nice_tb fun s hs => gT_mem h hs
section
variable {P : Program} {w : World} {K : PySem.W.Frag} {mg : Str → Option Value} {base : Heap}
theorem stret_get {m b k : Nat} (h : k < cl m b) : (stret m b)[k]? = some (k * b, min (k * b + b) m) := by
  unfold stret
  rw [List.getElem?_map, List.getElem?_range h]
  rfl
theorem stret_len (m b : Nat) : (stret m b).length = cl m b := by
  unfold stret
  rw [List.length_map, List.length_range]
def wstK (t : Tb) (b m k : Nat) : Bool := decide (part (ent t m) (k * b) (min (k * b + b) m) = some (ent t (min (k * b + b) m - k * b)))
theorem wst_eq (t : Tb) (b m : Nat) : wst t b m = (List.range (cl m b)).all fun k => wstK t b m k := by
  unfold wst stret
  rw [List.all_map]
  rfl
theorem sc_wrong_stretch : FnScope ["table", "b", "m", "parts", "number", "begin", "end"] ["table", "b", "m"] (defScope s_wrong_stretch) := ⟨rfl, rfl, rfl, by decide +kernel, rfl, by decide +kernel, by decide +kernel⟩
theorem c_wrong_stretch (Z : Pg K mg) : FnC P w K mg base 63 "wrong_stretch" (fun as k as' => ∃ (t : Tb) (b m : Nat), (gT t ∧ 2 ≤ b ∧ b ≤ t.length + 1 ∧ 1 ≤ m ∧ m ≤ t.length + 1) ∧ as = [pd (tbD t), pi (b : Nat), pi (m : Nat)] ∧ k = kN (wst t b m) ∧ as' = []) := by
  obtain ⟨fd, F, hm⟩ := Z.f_wrong_stretch
  refine FnC.ofBody F sc_wrong_stretch hm (fun _ _ _ _ _ _ us hl => match us, hl with | [_, _, _], _ => rfl) (by rintro as k as' ⟨t, b, m, _, rfl, _⟩; rfl) (fun cdv A outer s H E hr as k as' h => ?_)
  obtain ⟨t, b, m, ⟨hg, hb1, hb2, hm1, hm2⟩, rfl, rfl, rfl⟩ := h
  have hlen := hg.2
  have hht := gT_ht hg hm1 hm2
  have hsz := gT_ent hg hm1 hm2
  have hnd := nodes_le (ent t m)
  refine dss_new 3 (we_call (c_parts_of Z) hr (da1 (we_call (c_entry Z) (hr.mono (by omega)) (da2 (de_var (i := 0) rfl) (de_var (i := 2) rfl)) ⟨(t, m), ⟨hm1, hm2⟩, rfl, rfl, rfl⟩)) ⟨ent t m, by omega, by omega, rfl, rfl, rfl⟩) sc_wrong_stretch.nd (fun w hw => ?_) (Nat.zero_le _)
  obtain ⟨p, n, rfl⟩ := hw
  have hcl : cl m b ≤ m := cl_le (by omega)
  have hnum : ∀ i R, (enumR (((stret m b).map prD).map py))[i]? = some R → i < cl m b ∧ R = tupR [py (.int (i : Int)), py (prD (i * b, min (i * b + b) m))] := by
    intro i R hR
    obtain ⟨R', h1, rfl⟩ := enumR_of hR
    rw [List.getElem?_map, List.getElem?_map] at h1
    have hi : i < cl m b := by
      by_cases hi : i < cl m b
      · exact hi
      · have : (stret m b)[i]? = none := List.getElem?_eq_none (by rw [stret_len]; omega)
        rw [this] at h1
        cases h1
    rw [stret_get hi] at h1
    exact ⟨hi, by rw [← Option.some.inj h1]⟩
  have hsel : ∀ i, i < cl m b → i * b < m ∧ min (i * b + b) m - i * b ≤ b ∧ i * b < min (i * b + b) m := fun i hi => by
    have := cl_lt (by omega) hi
    omega
  have eN : ∀ i, (partsG (ent t m) ((i * b : Nat) : Int) ((min (i * b + b) m : Nat) : Int)).isSome = (part (ent t m) (i * b) (min (i * b + b) m)).isSome := fun i => by
    rw [partsG_get]
    cases part (ent t m) (i * b) (min (i * b + b) m) <;> rfl
  have eW : ∀ (i : Nat) (u : Sh), part (ent t m) (i * b) (min (i * b + b) m) = some u → wstK t b m i = decide (u = ent t (min (i * b + b) m - i * b)) := fun i u hu => by
    unfold wstK
    rw [hu]
    by_cases q : u = ent t (min (i * b + b) m - i * b)
    · rw [decide_eq_true q, decide_eq_true (congrArg some q)]
    · rw [decide_eq_false q, decide_eq_false fun z => q (Option.some.inj z)]
  have eI : ∀ i, i < cl m b → ((min (i * b + b) m : Nat) : Int) - ((i * b : Nat) : Int) = ((min (i * b + b) m - i * b : Nat) : Int) := fun i hi => by
    have := (hsel i hi).2.2
    omega
  have hs1 : ∀ (i : Nat) (u : Sh), i < cl m b → part (ent t m) (i * b) (min (i * b + b) m) = some u → u.ht ≤ 11 := fun i u hi hu => by
    have := part_ht _ _ _ _ hu
    omega
  rcases least (wstK t b m) (cl m b) with ⟨n0, hn1, hn2, hn3⟩ | hall
  · have hw : wst t b m = false := by
      rw [wst_eq]
      cases q : (List.range (cl m b)).all fun k => wstK t b m k with
      | false => rfl
      | true =>
        rw [List.all_eq_true] at q
        rw [q n0 (List.mem_range.mpr hn1)] at hn2
        cases hn2
    rw [hw]
    refine dss_rt (ds_for_rt (S' := []) n0 (fun _ => [pd (tbD t), pi (b : Nat), pi (m : Nat), .own (dtpO p n (partsG (ent t m))), .no, .no, .no])
      (di_enumL Z.n_enumerate (we_call (c_stretches Z) (hr.mono (by omega)) (da2 (de_var (i := 2) rfl) (de_var (i := 1) rfl)) ⟨(m, b), ⟨by show m ≤ 1000; omega, by show 1 ≤ b; omega, by show b ≤ 1000; omega⟩, rfl, rfl, rfl⟩) isQ_l)
      (fun i R hi0 hR => ?_) (by rw [enumR_len, List.length_map, List.length_map, stret_len]; exact hn1) (fun R hR => ?_))
    · obtain ⟨hi, rfl⟩ := hnum i R hR
      have hk := hn3 i hi0
      refine ⟨_, dg_tup (dgs_cons (dg_name 4 sc_wrong_stretch.nd) (dgs_cons (dg_tup (dgs_cons (dg_name 5 sc_wrong_stretch.nd) (dgs_cons (dg_name 6 sc_wrong_stretch.nd) dgs_nil)) isT_py) dgs_nil)) isT_r, .inl ?_⟩
      cases hu : part (ent t m) (i * b) (min (i * b + b) m) with
      | none =>
        unfold wstK at hk
        rw [hu] at hk
        exact absurd (of_decide_eq_true hk) (fun z => nomatch z)
      | some u =>
        rw [eW i u hu] at hk
        have hv := of_decide_eq_true hk
        refine dss_forget 4 (S' := _) (dss_forget 5 (S' := _) (dss_forget 6 (S' := [pd (tbD t), pi (b : Nat), pi (m : Nat), .own (dtpO p n (partsG (ent t m))), pi (i : Nat), pi ((i * b : Nat) : Int), pi ((min (i * b + b) m : Nat) : Int)]) ?_))
        refine dss_cons (S1 := [pd (tbD t), pi (b : Nat), pi (m : Nat), .own (dtpO p n (partsG (ent t m))), pi (i : Nat), pi ((i * b : Nat) : Int), pi ((min (i * b + b) m : Nat) : Int)]) (ds_ifF (DT.f (dt_notT hr (de_var (i := 5) rfl) (de_var (i := 6) rfl) (i := 3) rfl) (by rw [eN, hu]; rfl)) dss_nil) ?_
        exact dss_one (ds_ifF (DT.f (dt_neD hr (de_getT hr (de_var (i := 5) rfl) (de_var (i := 6) rfl) (i := 3) rfl rfl (R := py (shD u)) (by rw [partsG_get, hu]; rfl))
          (we_call (c_entry Z) (hr.mono (by omega)) (da2 (de_var (i := 0) rfl) (DE.to (de_sub (de_var (i := 6) rfl) (de_var (i := 5) rfl)) (by rw [eI i hi]))) ⟨(t, min (i * b + b) m - i * b), ⟨by have := hsel i hi; show 1 ≤ _; omega, by have := hsel i hi; show _ ≤ t.length + 1; omega⟩, rfl, rfl, rfl⟩)
          (nice_sh (hs1 i u hi hu)).shaped (nice_sh (n := 11) (gT_ht hg (by have := hsel i hi; omega) (by have := hsel i hi; omega))).shaped rfl) (by rw [sh_eqv, decide_eq_true hv]; rfl)) dss_nil)
    · obtain ⟨hi, rfl⟩ := hnum n0 R hR
      refine ⟨_, dg_tup (dgs_cons (dg_name 4 sc_wrong_stretch.nd) (dgs_cons (dg_tup (dgs_cons (dg_name 5 sc_wrong_stretch.nd) (dgs_cons (dg_name 6 sc_wrong_stretch.nd) dgs_nil)) isT_py) dgs_nil)) isT_r, ?_⟩
      cases hu : part (ent t m) (n0 * b) (min (n0 * b + b) m) with
      | none =>
        exact dss_rt (ds_ifT (DT.t (dt_notT hr (de_var (i := 5) rfl) (de_var (i := 6) rfl) (i := 3) rfl) (by rw [eN, hu]; rfl)) (dss_one (ds_ret 0 ((de_tupR (Rs := [py (.str "lump"), py (.int (m : Nat)), py (.int (n0 : Nat))]) (da3 de_str (de_var (i := 2) rfl) (de_var (i := 4) rfl)) (few2 (Nat.le_of_ble_eq_true rfl))).imp fun w hw => kn_tupR hw))))
      | some u =>
        rw [eW n0 u hu] at hn2
        have hv := of_decide_eq_false hn2
        refine dss_cons (S1 := [pd (tbD t), pi (b : Nat), pi (m : Nat), .own (dtpO p n (partsG (ent t m))), pi (n0 : Nat), pi ((n0 * b : Nat) : Int), pi ((min (n0 * b + b) m : Nat) : Int)]) (ds_ifF (DT.f (dt_notT hr (de_var (i := 5) rfl) (de_var (i := 6) rfl) (i := 3) rfl) (by rw [eN, hu]; rfl)) dss_nil) ?_
        exact dss_one (ds_ifT (DT.t (dt_neD hr (de_getT hr (de_var (i := 5) rfl) (de_var (i := 6) rfl) (i := 3) rfl rfl (R := py (shD u)) (by rw [partsG_get, hu]; rfl))
          (we_call (c_entry Z) (hr.mono (by omega)) (da2 (de_var (i := 0) rfl) (DE.to (de_sub (de_var (i := 6) rfl) (de_var (i := 5) rfl)) (by rw [eI n0 hi]))) ⟨(t, min (n0 * b + b) m - n0 * b), ⟨by have := hsel n0 hi; show 1 ≤ _; omega, by have := hsel n0 hi; show _ ≤ t.length + 1; omega⟩, rfl, rfl, rfl⟩)
          (nice_sh (hs1 n0 u hi hu)).shaped (nice_sh (n := 11) (gT_ht hg (by have := hsel n0 hi; omega) (by have := hsel n0 hi; omega))).shaped rfl) (by rw [sh_eqv, decide_eq_false hv]; rfl))
          (dss_one (ds_ret 0 ((de_tupR (Rs := [py (.str "shape"), py (.int (m : Nat)), py (.int (n0 : Nat))]) (da3 de_str (de_var (i := 2) rfl) (de_var (i := 4) rfl)) (few2 (Nat.le_of_ble_eq_true rfl))).imp fun w hw => kn_tupR hw))))
  · have hw : wst t b m = true := by
      rw [wst_eq, List.all_eq_true]
      exact fun k hk => hall k (List.mem_range.mp hk)
    rw [hw]
    refine dss_cons (S1 := [pd (tbD t), pi (b : Nat), pi (m : Nat), .own (dtpO p n (partsG (ent t m))), .no, .no, .no]) (ds_forS (fun _ => [pd (tbD t), pi (b : Nat), pi (m : Nat), .own (dtpO p n (partsG (ent t m))), .no, .no, .no])
      (di_enumL Z.n_enumerate (we_call (c_stretches Z) (hr.mono (by omega)) (da2 (de_var (i := 2) rfl) (de_var (i := 1) rfl)) ⟨(m, b), ⟨by show m ≤ 1000; omega, by show 1 ≤ b; omega, by show b ≤ 1000; omega⟩, rfl, rfl, rfl⟩) isQ_l)
      (fun i R hR => ?_) rfl) (dss_one (ds_ret 0 (de_non.imp fun w hw => kn_none hw)))
    obtain ⟨hi, rfl⟩ := hnum i R hR
    have hk := hall i hi
    refine ⟨_, dg_tup (dgs_cons (dg_name 4 sc_wrong_stretch.nd) (dgs_cons (dg_tup (dgs_cons (dg_name 5 sc_wrong_stretch.nd) (dgs_cons (dg_name 6 sc_wrong_stretch.nd) dgs_nil)) isT_py) dgs_nil)) isT_r, .inl ?_⟩
    cases hu : part (ent t m) (i * b) (min (i * b + b) m) with
    | none =>
      unfold wstK at hk
      rw [hu] at hk
      exact absurd (of_decide_eq_true hk) (fun z => nomatch z)
    | some u =>
      rw [eW i u hu] at hk
      have hv := of_decide_eq_true hk
      refine dss_forget 4 (S' := _) (dss_forget 5 (S' := _) (dss_forget 6 (S' := [pd (tbD t), pi (b : Nat), pi (m : Nat), .own (dtpO p n (partsG (ent t m))), pi (i : Nat), pi ((i * b : Nat) : Int), pi ((min (i * b + b) m : Nat) : Int)]) ?_))
      refine dss_cons (S1 := [pd (tbD t), pi (b : Nat), pi (m : Nat), .own (dtpO p n (partsG (ent t m))), pi (i : Nat), pi ((i * b : Nat) : Int), pi ((min (i * b + b) m : Nat) : Int)]) (ds_ifF (DT.f (dt_notT hr (de_var (i := 5) rfl) (de_var (i := 6) rfl) (i := 3) rfl) (by rw [eN, hu]; rfl)) dss_nil) ?_
      exact dss_one (ds_ifF (DT.f (dt_neD hr (de_getT hr (de_var (i := 5) rfl) (de_var (i := 6) rfl) (i := 3) rfl rfl (R := py (shD u)) (by rw [partsG_get, hu]; rfl))
        (we_call (c_entry Z) (hr.mono (by omega)) (da2 (de_var (i := 0) rfl) (DE.to (de_sub (de_var (i := 6) rfl) (de_var (i := 5) rfl)) (by rw [eI i hi]))) ⟨(t, min (i * b + b) m - i * b), ⟨by have := hsel i hi; show 1 ≤ _; omega, by have := hsel i hi; show _ ≤ t.length + 1; omega⟩, rfl, rfl, rfl⟩)
        (nice_sh (hs1 i u hi hu)).shaped (nice_sh (n := 11) (gT_ht hg (by have := hsel i hi; omega) (by have := hsel i hi; omega))).shaped rfl) (by rw [sh_eqv, decide_eq_true hv]; rfl)) dss_nil)
end
end Lh
end
section
set_option Elab.async false
set_option linter.all false
set_option maxRecDepth 100000
set_option maxHeartbeats 4000000
namespace Lh
open PySem PySem.Spec PyProof.Rows L2
theorem pr_eqv (p q : Nat × Nat) : PyData.eqv (prD p) (prD q) = decide (p = q) := by
  obtain ⟨a, b⟩ := p
  obtain ⟨c, d⟩ := q
  simp only [prD, PyData.eqv, PyData.eqvAll, Bool.and_true, Prod.mk.injEq]
  by_cases h1 : a = c
  · by_cases h2 : b = d
    · simp [h1, h2]
    · have : ¬ ((b : Int) = d) := by omega
      simp [h2, this]
  · have : ¬ ((a : Int) = c) := by omega
    simp [h1, this]
theorem nice_pr (n : Nat) (p : Nat × Nat) : Nice (n + 1) (prD p) := nice_tuple (fun d hd => by
  rcases List.mem_cons.mp hd with rfl | hd
  · exact nice_int
  · rw [List.mem_singleton.mp hd]
    exact nice_int)
theorem any_pr (ps : List (Nat × Nat)) (p : Nat × Nat) : ((ps.map prD).any fun y => PyData.eqv y (prD p)) = decide (p ∈ ps) := by
  rw [List.any_map]
  rw [Bool.eq_iff_iff, List.any_eq_true, decide_eq_true_iff]
  constructor
  · rintro ⟨x, hx, h⟩
    have h2 : PyData.eqv (prD x) (prD p) = true := h
    rw [pr_eqv] at h2
    rw [← of_decide_eq_true h2]
    exact hx
  · exact fun h => ⟨p, h, by show PyData.eqv (prD p) (prD p) = true; rw [pr_eqv]; exact decide_eq_true rfl⟩
section
variable {P : Program} {w : World} {K : PySem.W.Frag} {mg : Str → Option Value} {base : Heap}
theorem sc_above : FnScope ["shape", "pairs", "begin", "left", "middle", "right", "end"] ["shape", "pairs", "begin"] (defScope s_above) := ⟨rfl, rfl, rfl, by decide +kernel, rfl, by decide +kernel, by decide +kernel⟩
theorem abv_o (ps : List (Nat × Nat)) (i : Nat) : abv .o ps i = .o := by rw [abv.eq_def]
theorem abv_n (a b : Sh) (ps : List (Nat × Nat)) (i : Nat) : abv (.n a b) ps i = if (i, i + (a.size + b.size)) ∈ ps then .o else .n (abv a ps i) (abv b ps (i + a.size)) := by
  rw [abv.eq_def]
abbrev preAbv (h : Nat) : Pre := PreD (fun i : Sh × List (Nat × Nat) × Nat => i.1.ht ≤ h) (fun i => [pd (shD i.1), pl (i.2.1.map prD), pi (i.2.2 : Nat)]) (fun i => pd (.tuple [shD (abv i.1 i.2.1 i.2.2), .int ((i.2.2 + i.1.size : Nat) : Int)]))
theorem c_above (Z : Pg K mg) : ∀ h, h ≤ 60 → FnC P w K mg base (h + 1) "above" (preAbv h) := by
  intro h
  induction h with
  | zero =>
    intro _
    refine FnC.ofD Z.f_above sc_above (fun _ _ _ _ _ _ us hl => match us, hl with | [_, _, _], _ => rfl) (fun _ => rfl) (fun cdv A outer s H E hr i hi => ?_)
    obtain ⟨f, ps, i⟩ := i
    have hi : f.ht ≤ 0 := hi
    have e : f = .o := by cases f with | o => rfl | n a b => simp [Sh.ht] at hi
    subst e
    show DSs _ _ _ (.rt (fun w => w = pd (.tuple [shD (abv .o ps i), .int ((i + 1 : Nat) : Int)])) [])
    rw [abv_o]
    exact dss_rt (ds_ifT ((is_o hr (de_var (i := 0) rfl) (Nat.zero_le _)).t rfl) (dss_one (ds_ret 0 (de_tup2 de_tup0 (DE.to (de_add (de_var (i := 2) rfl) de_int) rfl)))))
  | succ h ih =>
    intro hh
    have ih := ih (by omega)
    refine FnC.ofD Z.f_above sc_above (fun _ _ _ _ _ _ us hl => match us, hl with | [_, _, _], _ => rfl) (fun _ => rfl) (fun cdv A outer s H E hr i hi => ?_)
    obtain ⟨f, ps, i⟩ := i
    have hi : f.ht ≤ h + 1 := hi
    cases f with
    | o =>
      show DSs _ _ _ (.rt (fun w => w = pd (.tuple [shD (abv .o ps i), .int ((i + 1 : Nat) : Int)])) [])
      rw [abv_o]
      exact dss_rt (ds_ifT ((is_o hr (de_var (i := 0) rfl) (Nat.zero_le _)).t rfl) (dss_one (ds_ret 0 (de_tup2 de_tup0 (DE.to (de_add (de_var (i := 2) rfl) de_int) rfl)))))
    | n a b =>
      have hi : max a.ht b.ht + 1 ≤ h + 1 := hi
      have e1 : i + a.size + b.size = i + (a.size + b.size) := by omega
      show DSs _ _ _ (.rt (fun w => w = pd (.tuple [shD (abv (.n a b) ps i), .int ((i + (a.size + b.size) : Nat) : Int)])) [])
      rw [abv_n, ← e1]
      refine dss_cons (S1 := [pd (shD (.n a b)), pl (ps.map prD), pi (i : Nat), .no, .no, .no, .no]) (ds_ifF ((is_o hr (de_var (i := 0) rfl) (by show max a.ht b.ht + 1 ≤ 60; omega)).f rfl) dss_nil) ?_
      refine dss_cons (S1 := [pd (shD (.n a b)), pl (ps.map prD), pi (i : Nat), pd (shD (abv a ps i)), pi ((i + a.size : Nat) : Int), .no, .no]) (ds_asg (we_call ih hr (da3 (de_l (de_var (i := 0) rfl)) (de_var (i := 1) rfl) (de_var (i := 2) rfl)) ⟨(a, ps, i), by show a.ht ≤ h; omega, rfl, rfl, rfl⟩) (dg_tup (dgs_cons (dg_name 3 sc_above.nd) (dgs_cons (dg_name 4 sc_above.nd) dgs_nil)) isT_py)) ?_
      refine dss_cons (S1 := [pd (shD (.n a b)), pl (ps.map prD), pi (i : Nat), pd (shD (abv a ps i)), pi ((i + a.size : Nat) : Int), pd (shD (abv b ps (i + a.size))), pi ((i + a.size + b.size : Nat) : Int)]) (ds_asg (we_call ih hr (da3 (de_r (de_var (i := 0) rfl)) (de_var (i := 1) rfl) (de_var (i := 4) rfl)) ⟨(b, ps, i + a.size), by show b.ht ≤ h; omega, rfl, rfl, rfl⟩) (dg_tup (dgs_cons (dg_name 5 sc_above.nd) (dgs_cons (dg_name 6 sc_above.nd) dgs_nil)) isT_py)) ?_
      by_cases hm : (i, i + a.size + b.size) ∈ ps
      · rw [if_pos hm]
        exact dss_one (ds_ret 0 (de_tup2 (de_ifT ((dt_inL hr (de_tup2 (de_var (i := 2) rfl) (de_var (i := 6) rfl)) (de_var (i := 1) rfl) (nice_pr 0 (i, i + a.size + b.size)).shaped (nice_list (nice_map fun x _ => nice_pr 0 x)).shaped (any_pr ps (i, i + a.size + b.size))).t (decide_eq_true hm)) de_tup0) (de_var (i := 6) rfl)))
      · rw [if_neg hm]
        exact dss_one (ds_ret 0 (de_tup2 (de_ifF ((dt_inL hr (de_tup2 (de_var (i := 2) rfl) (de_var (i := 6) rfl)) (de_var (i := 1) rfl) (nice_pr 0 (i, i + a.size + b.size)).shaped (nice_list (nice_map fun x _ => nice_pr 0 x)).shaped (any_pr ps (i, i + a.size + b.size))).f (decide_eq_false hm)) (de_tup2 (de_var (i := 3) rfl) (de_var (i := 5) rfl))) (de_var (i := 6) rfl)))
theorem sc_shape_above : FnScope ["table", "b", "m"] ["table", "b", "m"] (defScope s_shape_above) := ⟨rfl, rfl, rfl, by decide +kernel, rfl, by decide +kernel, by decide +kernel⟩
theorem c_shape_above (Z : Pg K mg) : FnC P w K mg base 20 "shape_above" (PreD (fun i : Tb × Nat × Nat => gT i.1 ∧ 1 ≤ i.2.1 ∧ i.2.1 ≤ 1000 ∧ 1 ≤ i.2.2 ∧ i.2.2 ≤ i.1.length + 1) (fun i => [pd (tbD i.1), pi (i.2.1 : Nat), pi (i.2.2 : Nat)]) (fun i => pd (shD (abvT i.1 i.2.1 i.2.2)))) := by
  refine FnC.ofD Z.f_shape_above sc_shape_above (fun _ _ _ _ _ _ us hl => match us, hl with | [_, _, _], _ => rfl) (fun _ => rfl) (fun cdv A outer s H E hr i hi => ?_)
  obtain ⟨t, b, m⟩ := i
  obtain ⟨hg, hb1, hb2, hm1, hm2⟩ : gT t ∧ 1 ≤ b ∧ b ≤ 1000 ∧ 1 ≤ m ∧ m ≤ t.length + 1 := hi
  have := hg.2
  exact dss_one (ds_ret 0 (de_ixt (ds := [shD (abvT t b m), .int ((0 + (ent t m).size : Nat) : Int)]) (we_call (c_above Z 11 (by omega)) (hr.mono (by omega)) (da3 (we_call (c_entry Z) (hr.mono (by omega)) (da2 (de_var (i := 0) rfl) (de_var (i := 2) rfl)) ⟨(t, m), ⟨hm1, hm2⟩, rfl, rfl, rfl⟩) (we_call (c_stretches Z) (hr.mono (by omega)) (da2 (de_var (i := 2) rfl) (de_var (i := 1) rfl)) ⟨(m, b), ⟨by show m ≤ 1000; omega, hb1, hb2⟩, rfl, rfl, rfl⟩) de_int)
    ⟨(ent t m, stret m b, 0), gT_ht hg hm1 hm2, rfl, rfl, rfl⟩) de_int at_0))
/-! counter -/
theorem fst_le {b m : Nat} (hb : 2 ≤ b) (hm : 2 ≤ m) : fstq b (cl m b) ≤ m := by
  unfold fstq
  by_cases h : cl m b = 1
  · rw [if_pos h]; exact hm
  · rw [if_neg h]
    have h0 : cl m b ≠ 0 := fun z => by
      have := cl_ge (m := m) (b := b) (k := 0) (by omega) (by omega)
      omega
    have := cl_lt (m := m) (b := b) (k := cl m b - 1) (by omega) (by omega)
    omega
theorem cl_pos {b m : Nat} (hb : 1 ≤ b) (hm : 1 ≤ m) : 1 ≤ cl m b := by
  rcases Nat.eq_zero_or_pos (cl m b) with h | h
  · have := cl_ge (m := m) (b := b) (k := 0) hb (by omega)
    omega
  · exact h
theorem fst_two {b q : Nat} (hb : 2 ≤ b) (hq : 1 ≤ q) : 2 ≤ fstq b q := by
  unfold fstq
  by_cases h : q = 1
  · rw [if_pos h]; omega
  · rw [if_neg h]
    have : 1 * b ≤ (q - 1) * b := Nat.mul_le_mul_right b (by omega)
    omega
theorem cl_eq {m b q : Nat} (hb : 1 ≤ b) (h1 : (q - 1) * b < m) (h2 : m ≤ q * b) (hq : 1 ≤ q) : cl m b = q := by
  unfold cl
  refine Nat.div_eq_of_lt_le ?_ ?_
  · have : q * b = (q - 1) * b + b := by
      obtain ⟨r, rfl⟩ : ∃ r, q = r + 1 := ⟨q - 1, by omega⟩
      rw [Nat.add_mul, Nat.one_mul, Nat.add_sub_cancel]
    omega
  · rw [Nat.add_mul, Nat.one_mul]
    omega
theorem cl_fst {b q : Nat} (hb : 2 ≤ b) (hq : 1 ≤ q) : cl (fstq b q) b = q := by
  unfold fstq
  by_cases h : q = 1
  · rw [if_pos h, h]
    exact cl_eq (by omega) (by omega) (by omega) (by omega)
  · rw [if_neg h]
    refine cl_eq (by omega) (by omega) ?_ hq
    have : q * b = (q - 1) * b + b := by
      obtain ⟨r, rfl⟩ : ∃ r, q = r + 1 := ⟨q - 1, by omega⟩
      rw [Nat.add_mul, Nat.one_mul, Nat.add_sub_cancel]
    omega
def gF (b M : Nat) : Int → Option Rel := fun z => if 1 ≤ z ∧ fstq b z.toNat ≤ M then some (py (.int (fstq b z.toNat : Nat))) else none
theorem gF_none {b : Nat} (hb : 2 ≤ b) : (fun _ => none) = gF b 1 := by
  funext z
  unfold gF
  rw [if_neg]
  rintro ⟨h1, h2⟩
  have := fst_two (q := z.toNat) hb (by omega)
  omega
theorem gF_at {b m : Nat} (hb : 2 ≤ b) (hm : 2 ≤ m) : (gF b (m - 1) ((cl m b : Nat) : Int)).getD (py (.int (m : Nat))) = py (.int (fstq b (cl m b) : Nat)) := by
  have h1 := fst_le hb hm
  have h2 := cl_pos (b := b) (m := m) (by omega) (by omega)
  unfold gF
  rw [Int.toNat_natCast]
  by_cases h : fstq b (cl m b) ≤ m - 1
  · rw [if_pos ⟨by omega, h⟩]
    rfl
  · rw [if_neg (fun z => h z.2)]
    have e : fstq b (cl m b) = m := by omega
    rw [e]
    rfl
theorem gF_put {b m : Nat} (hb : 2 ≤ b) (hm : 2 ≤ m) : (fun y : Int => if y = ((cl m b : Nat) : Int) then some (py (.int (fstq b (cl m b) : Nat))) else gF b (m - 1) y) = gF b m := by
  have h1 := fst_le hb hm
  have h2 := cl_pos (b := b) (m := m) (by omega) (by omega)
  funext y
  by_cases h : y = ((cl m b : Nat) : Int)
  · rw [if_pos h, h]
    unfold gF
    rw [Int.toNat_natCast, if_pos ⟨by omega, h1⟩]
  · rw [if_neg h]
    unfold gF
    by_cases h3 : 1 ≤ y
    · have h4 : fstq b y.toNat ≠ m := fun z => by
        have h5 := cl_fst (b := b) (q := y.toNat) hb (by omega)
        rw [z] at h5
        omega
      by_cases h5 : fstq b y.toNat ≤ m - 1
      · rw [if_pos ⟨h3, h5⟩, if_pos ⟨h3, by omega⟩]
      · rw [if_neg (fun z => h5 z.2), if_neg (fun z => by have := z.2; omega)]
    · rw [if_neg (fun z => h3 z.1), if_neg (fun z => h3 z.1)]
def okM (t : Tb) (b m : Nat) : Bool := wst t b m && decide (abvT t b (fstq b (cl m b)) = abvT t b m)
theorem abv_ht : ∀ (s : Sh) (ps : List (Nat × Nat)) (i : Nat), (abv s ps i).ht ≤ s.ht
  | .o, ps, i => by rw [abv_o]; exact Nat.le_refl _
  | .n a b, ps, i => by
    rw [abv_n]
    by_cases h : (i, i + (a.size + b.size)) ∈ ps
    · rw [if_pos h]; exact Nat.zero_le _
    · rw [if_neg h]
      have h1 := abv_ht a ps i
      have h2 := abv_ht b ps (i + a.size)
      simp only [Sh.ht]
      omega
end
end Lh
end
section
set_option Elab.async false
set_option linter.all false
/-! what stands above the stretches; cuts; the law's way is the program's -/
namespace Lh
section
variable {b m : Nat}
theorem cl_mul {q : Nat} (hb : 1 ≤ b) : cl (q * b) b = q := by
  rcases Nat.eq_zero_or_pos q with h | h
  · subst h
    unfold cl
    rw [Nat.zero_mul, Nat.div_eq_of_lt (by omega)]
  · refine cl_eq hb ?_ (Nat.le_refl _) h
    have : q * b = (q - 1) * b + b := by
      obtain ⟨r, rfl⟩ : ∃ r, q = r + 1 := ⟨q - 1, by omega⟩
      rw [Nat.add_mul, Nat.one_mul, Nat.add_sub_cancel]
    omega
theorem cl_step {q e : Nat} (hb : 1 ≤ b) (h1 : q * b < e) (h2 : e ≤ q * b + b) : cl e b = q + 1 :=
  cl_eq hb (by rw [Nat.add_sub_cancel]; exact h1) (by rw [Nat.add_mul, Nat.one_mul]; exact h2) (by omega)
theorem cl_mono {x y : Nat} (h : x ≤ y) : cl x b ≤ cl y b := Nat.div_le_div_right (by omega)
/-- all stretches within s, that begins at i, are parts of it -/
def Hp_ (b m : Nat) (s : Sh) (i : Nat) : Prop := ∀ k, i ≤ k * b → k * b < m → min (k * b + b) m ≤ i + s.size → (part s (k * b - i) (min (k * b + b) m - i)).isSome = true
/-- a place where a stretch begins or ends -/
def Al (b m e : Nat) : Prop := (∃ r, e = r * b) ∨ e = m
theorem al_next {q e : Nat} (ha : Al b m e) (he : e ≤ m) (h : q * b < e) : min (q * b + b) m ≤ e := by
  rcases ha with ⟨r, rfl⟩ | rfl
  · have h1 : q < r := Nat.lt_of_mul_lt_mul_right h
    have h2 : (q + 1) * b ≤ r * b := Nat.mul_le_mul_right b h1
    rw [Nat.add_mul, Nat.one_mul] at h2
    omega
  · omega
theorem mid {a c : Sh} {q : Nat} (hb : 1 ≤ b) (he : q * b + (a.size + c.size) ≤ m) (ha : Al b m (q * b + (a.size + c.size))) (hH : Hp_ b m (.n a c) (q * b)) (hn : q * b + (a.size + c.size) ≠ min (q * b + b) m) :
    ∃ r, q * b + a.size = r * b ∧ Hp_ b m a (q * b) ∧ Hp_ b m c (q * b + a.size) := by
  have h1 := size_pos a
  have h2 := size_pos c
  refine ⟨(q * b + a.size) / b, ?_, fun k k1 k2 k3 => ?_, fun k k1 k2 k3 => ?_⟩
  · have hd := Nat.div_add_mod (q * b + a.size) b
    have hm := Nat.mod_lt (q * b + a.size) (show b > 0 by omega)
    rw [Nat.mul_comm] at hd
    by_cases hx : (q * b + a.size) % b = 0
    · omega
    · exfalso
      have hqk : q ≤ (q * b + a.size) / b := (Nat.le_div_iff_mul_le (by omega)).mpr (by omega)
      have hqk2 : q * b ≤ (q * b + a.size) / b * b := Nat.mul_le_mul_right b hqk
      generalize (q * b + a.size) / b = k at hd hqk hqk2
      have hmin := al_next (q := k) ha he (by omega)
      have h3 := hH k hqk2 (by omega) (by simp only [Sh.size]; exact hmin)
      rw [part_n] at h3
      by_cases c1 : k * b - q * b = 0 ∧ min (k * b + b) m - q * b = a.size + c.size
      · have e1 : k * b = q * b := by omega
        rw [e1] at c1
        omega
      · rw [if_neg c1, if_neg (show ¬ min (k * b + b) m - q * b ≤ a.size by omega), if_neg (show ¬ a.size ≤ k * b - q * b by omega)] at h3
        cases h3
  · have h3 := hH k k1 k2 (by simp only [Sh.size]; omega)
    rw [part_n, if_neg (by omega), if_pos (by omega)] at h3
    exact h3
  · have h3 := hH k (by omega) k2 (by simp only [Sh.size]; omega)
    rw [part_n, if_neg (by omega), if_neg (by omega), if_pos (by omega)] at h3
    rw [show k * b - q * b - a.size = k * b - (q * b + a.size) by omega, show min (k * b + b) m - q * b - a.size = min (k * b + b) m - (q * b + a.size) by omega] at h3
    exact h3
theorem mem_stret {q e : Nat} (hb : 1 ≤ b) (h : q * b < e) (he : e ≤ m) : (q * b, e) ∈ stret m b ↔ e = min (q * b + b) m := by
  unfold stret
  rw [List.mem_map]
  constructor
  · rintro ⟨k, hk, e1⟩
    have e2 : k * b = q * b := congrArg Prod.fst e1
    have e3 : min (k * b + b) m = e := congrArg Prod.snd e1
    rw [e2] at e3
    exact e3.symm
  · intro h2
    refine ⟨q, ?_, by rw [← h2]⟩
    rw [List.mem_range]
    rcases Nat.lt_or_ge q (cl m b) with h3 | h3
    · exact h3
    · have := cl_ge hb h3
      omega
theorem one_step {q e : Nat} (hb : 1 ≤ b) (h : q * b < e) (h2 : e = min (q * b + b) m) : cl e b = q + 1 := cl_step hb h (by omega)
theorem abv_size : ∀ (s : Sh) (q : Nat), 1 ≤ b → q * b + s.size ≤ m → Al b m (q * b + s.size) → Hp_ b m s (q * b) → (abv s (stret m b) (q * b)).size = cl (q * b + s.size) b - q
  | .o, q, hb, he, ha, hH => by
    rw [abv_o]
    simp only [Sh.size]
    rw [cl_step (q := q) hb (by omega) (by omega)]
    omega
  | .n a c, q, hb, he, ha, hH => by
    have h1 := size_pos a
    have h2 := size_pos c
    simp only [Sh.size] at he ha ⊢
    rw [abv_n]
    by_cases hs : q * b + (a.size + c.size) = min (q * b + b) m
    · rw [if_pos ((mem_stret hb (by omega) he).mpr hs), one_step hb (by omega) hs]
      simp only [Sh.size]
      omega
    · rw [if_neg (fun z => hs ((mem_stret hb (by omega) he).mp z))]
      obtain ⟨r, hr, ha1, hc1⟩ := mid hb he ha hH hs
      have i1 := abv_size a q hb (by omega) (.inl ⟨r, hr⟩) ha1
      rw [hr] at hc1
      have i2 := abv_size c r hb (by omega) (by rw [← hr, Nat.add_assoc]; exact ha) hc1
      simp only [Sh.size]
      rw [hr, i1, i2, hr, cl_mul hb, ← hr, Nat.add_assoc]
      have h3 : q ≤ r := Nat.le_of_mul_le_mul_right (show q * b ≤ r * b by omega) (by omega)
      have h4 : cl (r * b) b ≤ cl (q * b + (a.size + c.size)) b := cl_mono (by omega)
      rw [cl_mul hb] at h4
      omega
/-- where the stretches from q on end, from there -/
def ends (b m q e : Nat) : List Nat := (List.range (cl e b - q)).map fun k => min ((q + k) * b + b) m - q * b
theorem labv_eq (s : Sh) (ds : List Nat) : labv s ds = if ds = [s.size] then some .o else match s with
    | .o => none
    | .n a b => if a.size ∈ ds then
        (match labv a (ds.filter (· ≤ a.size)), labv b ((ds.filter (a.size < ·)).map (· - a.size)) with
        | some x, some y => some (.n x y)
        | _, _ => none) else none := by
  rw [labv.eq_def]
  all_goals (
    dsimp only
    by_cases h : ds = [s.size]
    · rw [if_pos h, if_pos h]
    · rw [if_neg h, if_neg h]
      cases s with
      | o => rfl
      | n a b =>
        dsimp only
        by_cases h2 : a.size ∈ ds
        · rw [if_pos h2, if_pos h2]
          rfl
        · rw [if_neg h2, if_neg h2])
theorem ends_split {q r e : Nat} (hb : 1 ≤ b) (he : e ≤ m) (h1 : q ≤ r) (h2 : r * b < e) : (ends b m q e).filter (· ≤ r * b - q * b) = ends b m q (r * b) ∧ ((ends b m q e).filter (r * b - q * b < ·)).map (· - (r * b - q * b)) = ends b m r e := by
  have hr : r ≤ cl e b := by
    have : cl (r * b) b ≤ cl e b := cl_mono (by omega)
    rw [cl_mul hb] at this
    exact this
  have hqr : q * b ≤ r * b := Nat.mul_le_mul_right b h1
  have e1 : cl e b - q = (r - q) + (cl e b - r) := by omega
  have e2 : ends b m q e = ends b m q (r * b) ++ (List.range (cl e b - r)).map fun k => min ((r + k) * b + b) m - q * b := by
    unfold ends
    rw [cl_mul hb, e1, List.range_add, List.map_append, List.map_map]
    congr 1
    refine List.map_congr_left fun k _ => ?_
    show min ((q + (r - q + k)) * b + b) m - q * b = _
    rw [show q + (r - q + k) = r + k by omega]
  have h3 : ∀ x ∈ ends b m q (r * b), x ≤ r * b - q * b := fun x hx => by
    unfold ends at hx
    rw [cl_mul hb] at hx
    obtain ⟨k, hk, rfl⟩ := List.mem_map.mp hx
    rw [List.mem_range] at hk
    have : (q + k + 1) * b ≤ r * b := Nat.mul_le_mul_right b (by omega)
    rw [Nat.add_mul (q + k), Nat.one_mul] at this
    omega
  have h4 : ∀ x ∈ (List.range (cl e b - r)).map (fun k => min ((r + k) * b + b) m - q * b), r * b - q * b < x := fun x hx => by
    obtain ⟨k, hk, rfl⟩ := List.mem_map.mp hx
    have : r * b ≤ (r + k) * b := Nat.mul_le_mul_right b (by omega)
    omega
  rw [e2, List.filter_append, List.filter_append]
  have f1 : (ends b m q (r * b)).filter (· ≤ r * b - q * b) = ends b m q (r * b) := List.filter_eq_self.mpr fun x hx => decide_eq_true (h3 x hx)
  have f2 : ((List.range (cl e b - r)).map fun k => min ((r + k) * b + b) m - q * b).filter (· ≤ r * b - q * b) = [] := List.filter_eq_nil_iff.mpr fun x hx z => by
    have := h4 x hx
    have := of_decide_eq_true z
    omega
  have f3 : (ends b m q (r * b)).filter (r * b - q * b < ·) = [] := List.filter_eq_nil_iff.mpr fun x hx z => by
    have := h3 x hx
    have := of_decide_eq_true z
    omega
  have f4 : ((List.range (cl e b - r)).map fun k => min ((r + k) * b + b) m - q * b).filter (r * b - q * b < ·) = (List.range (cl e b - r)).map fun k => min ((r + k) * b + b) m - q * b := List.filter_eq_self.mpr fun x hx => decide_eq_true (h4 x hx)
  rw [f1, f2, f3, f4, List.append_nil, List.nil_append]
  refine ⟨rfl, ?_⟩
  unfold ends
  rw [List.map_map]
  refine List.map_congr_left fun k _ => ?_
  show min ((r + k) * b + b) m - q * b - (r * b - q * b) = _
  omega
theorem labv_abv : ∀ (s : Sh) (q : Nat), 1 ≤ b → q * b + s.size ≤ m → Al b m (q * b + s.size) → Hp_ b m s (q * b) → labv s (ends b m q (q * b + s.size)) = some (abv s (stret m b) (q * b))
  | .o, q, hb, he, ha, hH => by
    simp only [Sh.size] at he ha ⊢
    have e1 : cl (q * b + 1) b - q = 1 := by
      rw [cl_step (q := q) hb (by omega) (by omega)]
      omega
    have e2 := al_next (q := q) ha he (by omega)
    have e3 : ends b m q (q * b + 1) = [1] := by
      unfold ends
      rw [e1]
      show [min ((q + 0) * b + b) m - q * b] = [1]
      rw [Nat.add_zero]
      congr 1
      omega
    rw [labv_eq, e3, if_pos (show [1] = [Sh.o.size] from rfl), abv_o]
  | .n a c, q, hb, he, ha, hH => by
    have h1 := size_pos a
    have h2 := size_pos c
    simp only [Sh.size] at he ha ⊢
    rw [abv_n]
    by_cases hs : q * b + (a.size + c.size) = min (q * b + b) m
    · rw [if_pos ((mem_stret hb (by omega) he).mpr hs)]
      have e3 : ends b m q (q * b + (a.size + c.size)) = [a.size + c.size] := by
        unfold ends
        rw [one_step hb (by omega) hs, show q + 1 - q = 1 by omega]
        show [min ((q + 0) * b + b) m - q * b] = _
        rw [Nat.add_zero]
        congr 1
        omega
      rw [labv_eq, e3, if_pos (show [a.size + c.size] = [(Sh.n a c).size] from rfl)]
    · rw [if_neg (fun z => hs ((mem_stret hb (by omega) he).mp z))]
      obtain ⟨r, hr, ha1, hc1⟩ := mid hb he ha hH hs
      have i1 := labv_abv a q hb (by omega) (.inl ⟨r, hr⟩) ha1
      rw [hr] at hc1
      have i2 := labv_abv c r hb (by omega) (by rw [← hr, Nat.add_assoc]; exact ha) hc1
      have hqr : q < r := Nat.lt_of_mul_lt_mul_right (show q * b < r * b by omega)
      have hsz : a.size = r * b - q * b := by omega
      obtain ⟨s1, s2⟩ := ends_split (q := q) (r := r) (e := q * b + (a.size + c.size)) hb he (by omega) (by omega)
      have hcl : r < cl (q * b + (a.size + c.size)) b := by
        rcases Nat.lt_or_ge r (cl (q * b + (a.size + c.size)) b) with z | z
        · exact z
        · have := cl_ge hb z
          omega
      have hne : ¬ ends b m q (q * b + (a.size + c.size)) = [(Sh.n a c).size] := fun z => by
        have z2 := congrArg List.length z
        unfold ends at z2
        rw [List.length_map, List.length_range, List.length_singleton] at z2
        omega
      have hmem : a.size ∈ ends b m q (q * b + (a.size + c.size)) := by
        unfold ends
        rw [List.mem_map]
        refine ⟨r - 1 - q, List.mem_range.mpr (by omega), ?_⟩
        rw [show q + (r - 1 - q) = r - 1 by omega]
        have : r * b = (r - 1) * b + b := by
          obtain ⟨r', rfl⟩ : ∃ r', r = r' + 1 := ⟨r - 1, by omega⟩
          rw [Nat.add_mul, Nat.one_mul, Nat.add_sub_cancel]
        omega
      rw [labv_eq, if_neg hne]
      dsimp only
      rw [← hsz] at s1 s2
      rw [if_pos hmem, s1, s2]
      rw [hr] at i1
      rw [i1]
      rw [show r * b + c.size = q * b + (a.size + c.size) by omega] at i2
      rw [i2]
      dsimp only
      rw [hr]
theorem stops_ends (hb : 1 ≤ b) : stops m b = ends b m 0 m := by
  unfold stops stret ends
  rw [List.map_map, Nat.sub_zero]
  refine List.map_congr_left fun k _ => ?_
  show min (k * b + b) m = min ((0 + k) * b + b) m - 0 * b
  rw [Nat.zero_add, Nat.zero_mul, Nat.sub_zero]
end
/-! tables -/
theorem wst_H {t : Tb} {b m : Nat} (hb : 1 ≤ b) (h : wst t b m = true) : Hp_ b m (ent t m) (0 * b) := fun k k1 k2 k3 => by
  rw [wst_eq, List.all_eq_true] at h
  have hk : k < cl m b := by
    rcases Nat.lt_or_ge k (cl m b) with z | z
    · exact z
    · have := cl_ge hb z
      omega
  have h2 := of_decide_eq_true (h k (List.mem_range.mpr hk))
  rw [Nat.zero_mul, Nat.sub_zero, Nat.sub_zero, h2]
  rfl
section
variable {t : Tb} {b m : Nat}
theorem abvT_size (hg : gT t) (hb : 1 ≤ b) (h1 : 1 ≤ m) (h2 : m ≤ t.length + 1) (hw : wst t b m = true) : (abvT t b m).size = cl m b := by
  have hs := gT_ent hg h1 h2
  have := abv_size (b := b) (m := m) (ent t m) 0 hb (by omega) (.inr (by omega)) (wst_H hb hw)
  rw [Nat.zero_mul, Nat.zero_add, hs, Nat.sub_zero] at this
  exact this
theorem labvT (hg : gT t) (hb : 1 ≤ b) (h1 : 1 ≤ m) (h2 : m ≤ t.length + 1) (hw : wst t b m = true) : labv (ent t m) (stops m b) = some (abvT t b m) := by
  have hs := gT_ent hg h1 h2
  have := labv_abv (b := b) (m := m) (ent t m) 0 hb (by omega) (.inr (by omega)) (wst_H hb hw)
  rw [Nat.zero_mul, Nat.zero_add, hs] at this
  rw [stops_ends hb]
  exact this
theorem cutB_eq' (t : Tb) (b : Nat) : cutB t b = (decide ((t.length + 1) % b = 0) && (List.range t.length).all fun i => okM t b (i + 2)) := by
  unfold cutB from2
  rw [Nat.add_sub_cancel, List.all_map]
  rfl
theorem cut_iff : cutB t b = true ↔ (t.length + 1) % b = 0 ∧ ∀ m, 2 ≤ m → m ≤ t.length + 1 → wst t b m = true ∧ abvT t b (fstq b (cl m b)) = abvT t b m := by
  rw [cutB_eq', Bool.and_eq_true, decide_eq_true_iff, List.all_eq_true]
  refine and_congr_right fun _ => ⟨fun h m h1 h2 => ?_, fun h k hk => ?_⟩
  · have := h (m - 2) (List.mem_range.mpr (by omega))
    rw [show m - 2 + 2 = m by omega] at this
    have h3 := Bool.and_eq_true_iff.mp this
    exact ⟨h3.1, of_decide_eq_true h3.2⟩
  · rw [List.mem_range] at hk
    obtain ⟨h1, h2⟩ := h (k + 2) (by omega) (by omega)
    exact Bool.and_eq_true_iff.mpr ⟨h1, decide_eq_true h2⟩
theorem lcut_iff (hg : gT t) (hb : 2 ≤ b) : lcutB t b = cutB t b := by
  rw [Bool.eq_iff_iff, cut_iff]
  have hex : lcutB t b = true ↔ (t.length + 1) % b = 0 ∧ ∀ m, 2 ≤ m → m ≤ t.length + 1 → (match labv (ent t m) (stops m b) with
      | none => false
      | some a => wst t b m && decide (labv (ent t (fstq b (cl m b))) (stops (fstq b (cl m b)) b) = some a)) = true := by
    unfold lcutB from2
    rw [Bool.and_eq_true, decide_eq_true_iff, List.all_eq_true]
    refine and_congr_right fun _ => ⟨fun h m h1 h2 => ?_, fun h m hm => ?_⟩
    · exact h m (List.mem_map.mpr ⟨m - 2, List.mem_range.mpr (by omega), by omega⟩)
    · obtain ⟨k, hk, rfl⟩ := List.mem_map.mp hm
      rw [List.mem_range] at hk
      exact h (k + 2) (by omega) (by omega)
  rw [hex]
  refine and_congr_right fun _ => ⟨fun h => ?_, fun h m h1 h2 => ?_⟩
  · have hw : ∀ m, 2 ≤ m → m ≤ t.length + 1 → wst t b m = true := fun m h1 h2 => by
      have h3 := h m h1 h2
      cases q : labv (ent t m) (stops m b) with
      | none => rw [q] at h3; cases h3
      | some a =>
        rw [q] at h3
        exact (Bool.and_eq_true_iff.mp h3).1
    intro m h1 h2
    refine ⟨hw m h1 h2, ?_⟩
    have h3 := h m h1 h2
    have f1 := fst_le (b := b) (m := m) hb h1
    have f2 := fst_two (b := b) (q := cl m b) hb (cl_pos (by omega) (by omega))
    rw [labvT hg (by omega) (by omega) h2 (hw m h1 h2), labvT hg (by omega) (by omega) (by omega) (hw _ f2 (by omega))] at h3
    exact Option.some.inj (of_decide_eq_true (Bool.and_eq_true_iff.mp h3).2)
  · have f1 := fst_le (b := b) (m := m) hb h1
    have f2 := fst_two (b := b) (q := cl m b) hb (cl_pos (by omega) (by omega))
    obtain ⟨h3, h4⟩ := h m h1 h2
    have h5 := (h _ f2 (by omega)).1
    rw [labvT hg (by omega) (by omega) h2 h3, labvT hg (by omega) (by omega) (by omega) h5, h4]
    exact Bool.and_eq_true_iff.mpr ⟨h3, decide_eq_true rfl⟩
theorem beh_len : (behP t b).length = (t.length + 1) / b - 1 := by
  unfold behP from2
  rw [List.length_map, List.length_map, List.length_range]
theorem beh_get {k : Nat} (h : k < (behP t b).length) : (behP t b)[k]? = some (abvT t b ((k + 2) * b)) := by
  rw [beh_len] at h
  unfold behP from2
  rw [List.getElem?_map, List.getElem?_map, List.getElem?_range h]
  rfl
theorem cut_mul (hc : cutB t b = true) (hb : 2 ≤ b) (h2 : b ≤ t.length) : (t.length + 1) / b * b = t.length + 1 ∧ 2 ≤ (t.length + 1) / b := by
  have h1 := (cut_iff.mp hc).1
  have h3 := Nat.div_add_mod (t.length + 1) b
  rw [h1, Nat.add_zero, Nat.mul_comm] at h3
  refine ⟨h3, ?_⟩
  rcases Nat.lt_or_ge ((t.length + 1) / b) 2 with z | z
  · have : (t.length + 1) / b * b ≤ 1 * b := Nat.mul_le_mul_right b (by omega)
    omega
  · exact z
theorem gT_beh (hg : gT t) (hb : 2 ≤ b) (h2 : b ≤ t.length) (hc : cutB t b = true) : gT (behP t b) ∧ (behP t b).length < t.length := by
  obtain ⟨e1, e2⟩ := cut_mul hc hb h2
  have hl : (behP t b).length = (t.length + 1) / b - 1 := beh_len
  have hlt : (t.length + 1) / b < t.length + 1 := Nat.div_lt_self (by omega) (by omega)
  have := hg.2
  refine ⟨⟨⟨fun z => ?_, fun k s hs => ?_⟩, by omega⟩, by omega⟩
  · rw [z] at hl
    simp only [List.length_nil] at hl
    omega
  · have hk : k < (behP t b).length := (List.getElem?_eq_some_iff.mp hs).1
    rw [beh_get hk] at hs
    cases hs
    have hm : (k + 2) * b ≤ (t.length + 1) / b * b := Nat.mul_le_mul_right b (by omega)
    have hm2 : 2 * 1 ≤ (k + 2) * b := Nat.mul_le_mul (by omega) (by omega)
    rw [abvT_size hg (by omega) (by omega) (by omega) ((cut_iff.mp hc).2 _ (by omega) (by omega)).1, cl_mul (by omega)]
theorem mem_cuts (h : b ∈ cuts t) : 2 ≤ b ∧ b ≤ t.length ∧ cutB t b = true := by
  unfold cuts from2 at h
  rw [List.mem_filter] at h
  obtain ⟨h1, h2⟩ := h
  obtain ⟨k, hk, rfl⟩ := List.mem_map.mp h1
  rw [List.mem_range] at hk
  exact ⟨by omega, by omega, h2⟩
theorem stops_mul (hb : 1 ≤ b) : (List.range m).map (fun k => b * (k + 1)) = stops (m * b) b := by
  unfold stops stret
  rw [List.map_map, cl_mul hb]
  refine List.map_congr_left fun k hk => ?_
  rw [List.mem_range] at hk
  show b * (k + 1) = min (k * b + b) (m * b)
  have : (k + 1) * b ≤ m * b := Nat.mul_le_mul_right b (by omega)
  rw [Nat.add_mul, Nat.one_mul] at this
  rw [Nat.mul_comm, Nat.add_mul, Nat.one_mul]
  omega
theorem beh_law (hg : gT t) (hb : 2 ≤ b) (h2 : b ≤ t.length) (hc : cutB t b = true) : behL t b = (behP t b).map some := by
  obtain ⟨e1, e2⟩ := cut_mul hc hb h2
  unfold behL behP
  rw [List.map_map]
  refine List.map_congr_left fun m hm => ?_
  unfold from2 at hm
  obtain ⟨k, hk, rfl⟩ := List.mem_map.mp hm
  rw [List.mem_range] at hk
  have hm : (k + 2) * b ≤ (t.length + 1) / b * b := Nat.mul_le_mul_right b (by omega)
  have hm2 : 2 * 1 ≤ (k + 2) * b := Nat.mul_le_mul (by omega) (by omega)
  rw [stops_mul (by omega), labvT hg (by omega) (by omega) (by omega) ((cut_iff.mp hc).2 _ (by omega) (by omega)).1]
  rfl
end
theorem lprimesF_eq : ∀ (k : Nat) (t : Tb), gT t → lprimesF k t = primesF k t
  | 0, t, _ => rfl
  | k + 1, t, hg => by
    have e1 : (from2 t.length).find? (lcutB t) = (cuts t).head? := by
      unfold cuts
      rw [List.head?_filter]
      have key : ∀ l : List Nat, (∀ b ∈ l, 2 ≤ b) → l.find? (lcutB t) = l.find? (cutB t) := by
        intro l
        induction l with
        | nil => intro _; rfl
        | cons x l ih =>
          intro h
          rw [List.find?_cons, List.find?_cons, lcut_iff hg (h x List.mem_cons_self), ih (fun b hb => h b (List.mem_cons_of_mem _ hb))]
      refine key _ fun b hb => ?_
      unfold from2 at hb
      obtain ⟨k, _, rfl⟩ := List.mem_map.mp hb
      omega
    unfold lprimesF primesF
    rw [e1]
    cases q : cuts t with
    | nil => rfl
    | cons b bs =>
      obtain ⟨h1, h2, h3⟩ := mem_cuts (t := t) (b := b) (by rw [q]; exact List.mem_cons_self)
      show t.take (b - 1) :: lprimesF k ((behL t b).map (·.getD .o)) = t.take (b - 1) :: primesF k (behP t b)
      rw [beh_law hg h1 h2 h3, List.map_map]
      have e2 : (behP t b).map ((fun x : Option Sh => x.getD .o) ∘ some) = behP t b := by
        rw [show ((fun x : Option Sh => x.getD .o) ∘ some) = id from rfl, List.map_id]
      rw [e2, lprimesF_eq k _ (gT_beh hg h1 h2 h3).1]
theorem lprimes_eq {t : Tb} (hg : gT t) : lprimes t = primes t := lprimesF_eq _ t hg
end Lh
end
section
set_option Elab.async false
set_option linter.all false
set_option maxRecDepth 100000
set_option maxHeartbeats 4000000
namespace Lh
open PySem PySem.Spec PyProof.Rows L2
section
variable {P : Program} {w : World} {K : PySem.W.Frag} {mg : Str → Option Value} {base : Heap}
theorem sc_counter : FnScope ["table", "b", "first", "m", "wrong", "told"] ["table", "b"] (defScope s_counter) := ⟨rfl, rfl, rfl, by decide +kernel, rfl, by decide +kernel, by decide +kernel⟩
theorem nums_of2 {n i : Nat} {R : Rel} (h : (nums 2 n)[i]? = some R) : i < n ∧ R = py (.int ((i + 2 : Nat) : Int)) := by
  obtain ⟨h1, h2⟩ := nums_of h
  refine ⟨h1, ?_⟩
  rw [h2]
  have e : (2 : Int) + (i : Int) = ((i + 2 : Nat) : Int) := by omega
  rw [e]
theorem cutB_eq (t : Tb) (b : Nat) : cutB t b = (decide ((t.length + 1) % b = 0) && (List.range t.length).all fun i => okM t b (i + 2)) := by
  unfold cutB from2
  rw [Nat.add_sub_cancel, List.all_map]
  rfl
theorem stN {t : Tb} {b i : Nat} {p : Addr} {R : Rel} (hb : 2 ≤ b) : (([pd (tbD t), pi (b : Nat), .own (dctO p i (gF b (i + 1))), pi ((i + 2 : Nat) : Int), .dat R, .no] : List Slot).set 2 (.own (dctO p (i + 1) fun y => if y = ((cl (i + 2) b : Nat) : Int) then some ((gF b (i + 1) ((cl (i + 2) b : Nat) : Int)).getD (py (.int ((i + 2 : Nat) : Int)))) else gF b (i + 1) y))).set 5 (pi (fstq b (cl (i + 2) b) : Nat))
    = [pd (tbD t), pi (b : Nat), .own (dctO p (i + 1) (gF b (i + 2))), pi ((i + 2 : Nat) : Int), .dat R, pi (fstq b (cl (i + 2) b) : Nat)] := by
  have h1 := gF_at (b := b) (m := i + 2) hb (by omega)
  have h2 := gF_put (b := b) (m := i + 2) hb (by omega)
  have e : i + 2 - 1 = i + 1 := rfl
  rw [e] at h1 h2
  rw [h1, h2]
  rfl
theorem nh {s : Sh} {n : Nat} (h : s.ht ≤ n) (hn : n ≤ 60 := by omega) : SeqAt.shaped (shD s) = true := (nice_sh h).shaped
theorem c_counter (Z : Pg K mg) : FnC P w K mg base 64 "counter" (fun as k as' => ∃ (t : Tb) (b : Nat), (gT t ∧ 2 ≤ b ∧ b ≤ t.length + 1) ∧ as = [pd (tbD t), pi (b : Nat)] ∧ k = kN (cutB t b) ∧ as' = []) := by
  obtain ⟨fd, F, hm⟩ := Z.f_counter
  refine FnC.ofBody F sc_counter hm (fun _ _ _ _ _ _ us hl => match us, hl with | [_, _], _ => rfl) (by rintro as k as' ⟨t, b, _, rfl, _⟩; rfl) (fun cdv A outer s H E hr as k as' h => ?_)
  obtain ⟨t, b, ⟨hg, hb1, hb2⟩, rfl, rfl, rfl⟩ := h
  have hlen := hg.2
  have esz : (((t.length + 1 : Nat) : Int) % (b : Nat) = 0) ↔ ((t.length + 1) % b = 0) := by omega
  have hmod : ∀ {z : Bool}, decide ((t.length + 1) % b = 0) = z → (!decide (((t.length + 1 : Nat) : Int) % (b : Nat) = 0)) = !z := fun hz => by
    rw [← hz]
    congr 1
    exact decide_eq_decide.mpr esz
  cases hz : decide ((t.length + 1) % b = 0) with
  | false =>
    have e : cutB t b = false := by rw [cutB_eq, hz]; rfl
    rw [e]
    exact dss_rt (ds_ifT (DT.t (dt_neI (de_mod (we_call (c_table_size Z) (hr.mono (by omega)) (da1 (de_var (i := 0) rfl)) ⟨t, trivial, rfl, rfl, rfl⟩) (de_var (i := 1) rfl) (by omega)) de_int) (hmod hz))
      (dss_one (ds_ret 0 ((de_tup1 de_str).imp fun w hw => kn_tup hw))))
  | true =>
    have e0 : cutB t b = (List.range t.length).all fun i => okM t b (i + 2) := by rw [cutB_eq, hz]; rfl
    refine dss_cons (S1 := [pd (tbD t), pi (b : Nat), .no, .no, .no, .no]) (ds_ifF (DT.f (dt_neI (de_mod (we_call (c_table_size Z) (hr.mono (by omega)) (da1 (de_var (i := 0) rfl)) ⟨t, trivial, rfl, rfl, rfl⟩) (de_var (i := 1) rfl) (by omega)) de_int) (hmod hz)) dss_nil) ?_
    refine dss_new 2 we_dct sc_counter.nd (fun w hw => ?_) (Nat.zero_le _)
    obtain ⟨p, rfl⟩ := hw
    rw [gF_none hb1]
    have hrange : ((nums 2 (((t.length + 1 : Nat) : Int) + 1 - 2).toNat)).length = t.length := by rw [nums_len]; omega
    have habv : ∀ m, 1 ≤ m → m ≤ t.length + 1 → SeqAt.shaped (shD (abvT t b m)) = true := fun m h1 h2 => nh (n := 11) (Nat.le_trans (abv_ht _ _ _) (gT_ht hg h1 h2))
    rcases least (fun i => okM t b (i + 2)) t.length with ⟨n0, hn1, hn2, hn3⟩ | hall
    · have hw : cutB t b = false := by
        rw [e0]
        cases q : (List.range t.length).all fun i => okM t b (i + 2) with
        | false => rfl
        | true =>
          rw [List.all_eq_true] at q
          rw [q n0 (List.mem_range.mpr hn1)] at hn2
          cases hn2
      rw [hw]
      refine dss_rt (ds_for_rt (S' := []) n0 (fun i => [pd (tbD t), pi (b : Nat), .own (dctO p i (gF b (i + 1))), .no, .no, .no])
        (di_range2 Z.n_range de_int (de_add (we_call (c_table_size Z) (hr.mono (by omega)) (da1 (de_var (i := 0) rfl)) ⟨t, trivial, rfl, rfl, rfl⟩) de_int) (by omega) (by omega))
        (fun i R hi0 hR => ?_) (by rw [hrange]; exact hn1) (fun R hR => ?_))
      · obtain ⟨hi, rfl⟩ := nums_of2 hR
        have hi : i < t.length := by omega
        have hk := hn3 i hi0
        have hk2 : wst t b (i + 2) = true ∧ decide (abvT t b (fstq b (cl (i + 2) b)) = abvT t b (i + 2)) = true := Bool.and_eq_true_iff.mp hk
        have hf1 := fst_le (b := b) (m := i + 2) hb1 (by omega)
        have hf2 := fst_two (b := b) (q := cl (i + 2) b) hb1 (cl_pos (by omega) (by omega))
        refine ⟨_, dg_name 3 sc_counter.nd, .inl ?_⟩
        refine dss_forget 3 (S' := _) (dss_forget 5 (S' := _) (dss_forget 4 (S' := [pd (tbD t), pi (b : Nat), .own (dctO p (i + 1) (gF b (i + 2))), pi ((i + 2 : Nat) : Int), .no, pi (fstq b (cl (i + 2) b) : Nat)]) ?_))
        refine dss_new 4 (we_call (c_wrong_stretch Z) (hr.mono (by omega)) (da3 (de_var (i := 0) rfl) (de_var (i := 1) rfl) (de_var (i := 3) rfl)) ⟨t, b, i + 2, ⟨hg, hb1, hb2, by omega, by omega⟩, rfl, rfl, rfl⟩) sc_counter.nd (fun w hw => ?_) rfl
        obtain ⟨R, rfl, hR2⟩ := hw
        rw [hk2.1] at hR2
        refine dss_forget 4 (S' := [pd (tbD t), pi (b : Nat), .own (dctO p (i + 1) (gF b (i + 2))), pi ((i + 2 : Nat) : Int), .dat R, pi (fstq b (cl (i + 2) b) : Nat)]) ?_
        refine dss_cons (S1 := [pd (tbD t), pi (b : Nat), .own (dctO p i (gF b (i + 1))), pi ((i + 2 : Nat) : Int), .dat R, .no]) (ds_ifF (dt_notN (z := false) (de_var (i := 4) rfl) hR2) dss_nil) ?_
        refine dss_cons (S1 := [pd (tbD t), pi (b : Nat), .own (dctO p (i + 1) (gF b (i + 2))), pi ((i + 2 : Nat) : Int), .dat R, pi (fstq b (cl (i + 2) b) : Nat)])
          (ds_set 5 (DE.to (de_setd (i := 2) rfl (DE.to (de_len Z.n_len (we_call (c_stretches Z) (hr.mono (by omega)) (da2 (de_var (i := 3) rfl) (de_var (i := 1) rfl)) ⟨(i + 2, b), ⟨by show i + 2 ≤ 1000; omega, by show 1 ≤ b; omega, by show b ≤ 1000; omega⟩, rfl, rfl, rfl⟩)) (by rw [List.length_map, stret_len])) rfl (de_var (i := 3) rfl) rfl (few (by omega)) ⟨rfl, rfl, rfl, rfl⟩) (congrArg Slot.dat (gF_at (b := b) (m := i + 2) hb1 (by omega)))) sc_counter.nd (stN hb1)) ?_
        exact dss_one (ds_ifF (DT.f (dt_neD hr (we_call (c_shape_above Z) (hr.mono (by omega)) (da3 (de_var (i := 0) rfl) (de_var (i := 1) rfl) (de_var (i := 5) rfl)) ⟨(t, b, fstq b (cl (i + 2) b)), ⟨hg, by show 1 ≤ b; omega, by show b ≤ 1000; omega, by show 1 ≤ fstq b (cl (i + 2) b); omega, by show fstq b (cl (i + 2) b) ≤ t.length + 1; omega⟩, rfl, rfl, rfl⟩)
              (we_call (c_shape_above Z) (hr.mono (by omega)) (da3 (de_var (i := 0) rfl) (de_var (i := 1) rfl) (de_var (i := 3) rfl)) ⟨(t, b, i + 2), ⟨hg, by show 1 ≤ b; omega, by show b ≤ 1000; omega, by show 1 ≤ i + 2; omega, by show i + 2 ≤ t.length + 1; omega⟩, rfl, rfl, rfl⟩)
              (habv (fstq b (cl (i + 2) b)) (by omega) (by omega)) (habv (i + 2) (by omega) (by omega)) rfl) (by rw [sh_eqv, hk2.2]; rfl)) dss_nil)
      · obtain ⟨hi, rfl⟩ := nums_of2 hR
        have hi : n0 < t.length := hn1
        have hf1 := fst_le (b := b) (m := n0 + 2) hb1 (by omega)
        have hf2 := fst_two (b := b) (q := cl (n0 + 2) b) hb1 (cl_pos (by omega) (by omega))
        refine ⟨_, dg_name 3 sc_counter.nd, ?_⟩
        refine dss_new 4 (we_call (c_wrong_stretch Z) (hr.mono (by omega)) (da3 (de_var (i := 0) rfl) (de_var (i := 1) rfl) (de_var (i := 3) rfl)) ⟨t, b, n0 + 2, ⟨hg, hb1, hb2, by omega, by omega⟩, rfl, rfl, rfl⟩) sc_counter.nd (fun w hw => ?_) (Nat.zero_le _)
        obtain ⟨R, rfl, hR2⟩ := hw
        cases hws : wst t b (n0 + 2) with
        | false =>
          rw [hws] at hR2
          exact dss_rt (ds_ifT (dt_notN (z := true) (de_var (i := 4) rfl) hR2) (dss_one (ds_ret 0 ((de_var (i := 4) rfl).imp fun w hw => ⟨R, hw, hR2⟩))))
        | true =>
          rw [hws] at hR2
          have hv : ¬ abvT t b (fstq b (cl (n0 + 2) b)) = abvT t b (n0 + 2) := fun z => by
            have h3 : (wst t b (n0 + 2) && decide (abvT t b (fstq b (cl (n0 + 2) b)) = abvT t b (n0 + 2))) = false := hn2
            rw [hws, decide_eq_true z] at h3
            cases h3
          refine dss_cons (S1 := [pd (tbD t), pi (b : Nat), .own (dctO p n0 (gF b (n0 + 1))), pi ((n0 + 2 : Nat) : Int), .dat R, .no]) (ds_ifF (dt_notN (z := false) (de_var (i := 4) rfl) hR2) dss_nil) ?_
          refine dss_cons (S1 := [pd (tbD t), pi (b : Nat), .own (dctO p (n0 + 1) (gF b (n0 + 2))), pi ((n0 + 2 : Nat) : Int), .dat R, pi (fstq b (cl (n0 + 2) b) : Nat)])
            (ds_set 5 (DE.to (de_setd (i := 2) rfl (DE.to (de_len Z.n_len (we_call (c_stretches Z) (hr.mono (by omega)) (da2 (de_var (i := 3) rfl) (de_var (i := 1) rfl)) ⟨(n0 + 2, b), ⟨by show n0 + 2 ≤ 1000; omega, by show 1 ≤ b; omega, by show b ≤ 1000; omega⟩, rfl, rfl, rfl⟩)) (by rw [List.length_map, stret_len])) rfl (de_var (i := 3) rfl) rfl (few (by omega)) ⟨rfl, rfl, rfl, rfl⟩) (congrArg Slot.dat (gF_at (b := b) (m := n0 + 2) hb1 (by omega)))) sc_counter.nd (stN hb1)) ?_
          exact dss_rt (ds_ifT (DT.t (dt_neD hr (we_call (c_shape_above Z) (hr.mono (by omega)) (da3 (de_var (i := 0) rfl) (de_var (i := 1) rfl) (de_var (i := 5) rfl)) ⟨(t, b, fstq b (cl (n0 + 2) b)), ⟨hg, by show 1 ≤ b; omega, by show b ≤ 1000; omega, by show 1 ≤ fstq b (cl (n0 + 2) b); omega, by show fstq b (cl (n0 + 2) b) ≤ t.length + 1; omega⟩, rfl, rfl, rfl⟩)
            (we_call (c_shape_above Z) (hr.mono (by omega)) (da3 (de_var (i := 0) rfl) (de_var (i := 1) rfl) (de_var (i := 3) rfl)) ⟨(t, b, n0 + 2), ⟨hg, by show 1 ≤ b; omega, by show b ≤ 1000; omega, by show 1 ≤ n0 + 2; omega, by show n0 + 2 ≤ t.length + 1; omega⟩, rfl, rfl, rfl⟩)
            (habv (fstq b (cl (n0 + 2) b)) (by omega) (by omega)) (habv (n0 + 2) (by omega) (by omega)) rfl) (by rw [sh_eqv, decide_eq_false hv]; rfl)) (dss_one (ds_ret 0 ((de_tupR (Rs := [py (.str "above"), py (.int (fstq b (cl (n0 + 2) b) : Nat)), py (.int (n0 + 2 : Nat))]) (da3 de_str (de_var (i := 5) rfl) (de_var (i := 3) rfl)) (few2 (Nat.le_of_ble_eq_true rfl))).imp fun w hw => kn_tupR hw))))
    · have hw : cutB t b = true := by
        rw [e0, List.all_eq_true]
        exact fun k hk => hall k (List.mem_range.mp hk)
      rw [hw]
      refine dss_cons (S1 := [pd (tbD t), pi (b : Nat), .own (dctO p t.length (gF b (t.length + 1))), .no, .no, .no]) (ds_forS (fun i => [pd (tbD t), pi (b : Nat), .own (dctO p i (gF b (i + 1))), .no, .no, .no])
        (di_range2 Z.n_range de_int (de_add (we_call (c_table_size Z) (hr.mono (by omega)) (da1 (de_var (i := 0) rfl)) ⟨t, trivial, rfl, rfl, rfl⟩) de_int) (by omega) (by omega))
        (fun i R hR => ?_) (by rw [hrange])) (dss_one (ds_ret 0 (de_non.imp fun w hw => kn_none hw)))
      obtain ⟨hi, rfl⟩ := nums_of2 hR
      have hi : i < t.length := by omega
      have hk := hall i hi
      have hk2 : wst t b (i + 2) = true ∧ decide (abvT t b (fstq b (cl (i + 2) b)) = abvT t b (i + 2)) = true := Bool.and_eq_true_iff.mp hk
      have hf1 := fst_le (b := b) (m := i + 2) hb1 (by omega)
      have hf2 := fst_two (b := b) (q := cl (i + 2) b) hb1 (cl_pos (by omega) (by omega))
      refine ⟨_, dg_name 3 sc_counter.nd, .inl ?_⟩
      refine dss_forget 3 (S' := _) (dss_forget 5 (S' := _) (dss_forget 4 (S' := [pd (tbD t), pi (b : Nat), .own (dctO p (i + 1) (gF b (i + 2))), pi ((i + 2 : Nat) : Int), .no, pi (fstq b (cl (i + 2) b) : Nat)]) ?_))
      refine dss_new 4 (we_call (c_wrong_stretch Z) (hr.mono (by omega)) (da3 (de_var (i := 0) rfl) (de_var (i := 1) rfl) (de_var (i := 3) rfl)) ⟨t, b, i + 2, ⟨hg, hb1, hb2, by omega, by omega⟩, rfl, rfl, rfl⟩) sc_counter.nd (fun w hw => ?_) rfl
      obtain ⟨R, rfl, hR2⟩ := hw
      rw [hk2.1] at hR2
      refine dss_forget 4 (S' := [pd (tbD t), pi (b : Nat), .own (dctO p (i + 1) (gF b (i + 2))), pi ((i + 2 : Nat) : Int), .dat R, pi (fstq b (cl (i + 2) b) : Nat)]) ?_
      refine dss_cons (S1 := [pd (tbD t), pi (b : Nat), .own (dctO p i (gF b (i + 1))), pi ((i + 2 : Nat) : Int), .dat R, .no]) (ds_ifF (dt_notN (z := false) (de_var (i := 4) rfl) hR2) dss_nil) ?_
      refine dss_cons (S1 := [pd (tbD t), pi (b : Nat), .own (dctO p (i + 1) (gF b (i + 2))), pi ((i + 2 : Nat) : Int), .dat R, pi (fstq b (cl (i + 2) b) : Nat)])
        (ds_set 5 (DE.to (de_setd (i := 2) rfl (DE.to (de_len Z.n_len (we_call (c_stretches Z) (hr.mono (by omega)) (da2 (de_var (i := 3) rfl) (de_var (i := 1) rfl)) ⟨(i + 2, b), ⟨by show i + 2 ≤ 1000; omega, by show 1 ≤ b; omega, by show b ≤ 1000; omega⟩, rfl, rfl, rfl⟩)) (by rw [List.length_map, stret_len])) rfl (de_var (i := 3) rfl) rfl (few (by omega)) ⟨rfl, rfl, rfl, rfl⟩) (congrArg Slot.dat (gF_at (b := b) (m := i + 2) hb1 (by omega)))) sc_counter.nd (stN hb1)) ?_
      exact dss_one (ds_ifF (DT.f (dt_neD hr (we_call (c_shape_above Z) (hr.mono (by omega)) (da3 (de_var (i := 0) rfl) (de_var (i := 1) rfl) (de_var (i := 5) rfl)) ⟨(t, b, fstq b (cl (i + 2) b)), ⟨hg, by show 1 ≤ b; omega, by show b ≤ 1000; omega, by show 1 ≤ fstq b (cl (i + 2) b); omega, by show fstq b (cl (i + 2) b) ≤ t.length + 1; omega⟩, rfl, rfl, rfl⟩)
            (we_call (c_shape_above Z) (hr.mono (by omega)) (da3 (de_var (i := 0) rfl) (de_var (i := 1) rfl) (de_var (i := 3) rfl)) ⟨(t, b, i + 2), ⟨hg, by show 1 ≤ b; omega, by show b ≤ 1000; omega, by show 1 ≤ i + 2; omega, by show i + 2 ≤ t.length + 1; omega⟩, rfl, rfl, rfl⟩)
            (habv (fstq b (cl (i + 2) b)) (by omega) (by omega)) (habv (i + 2) (by omega) (by omega)) rfl) (by rw [sh_eqv, hk2.2]; rfl)) dss_nil)
end
end Lh
end
section
set_option Elab.async false
set_option linter.all false
set_option maxRecDepth 100000
set_option maxHeartbeats 4000000
namespace Lh
open PySem PySem.Spec PyProof.Rows L2
/-! a, b = e1, e2, what is new among them -/
section
variable {X : Cx} {S S1 S2 S3 : List Slot} {a b c e : Expr} {pos : Pos} {k k2 : Slot → Prop} {sts : List Stmt} {o : Out}
theorem dss_par2 {x y : Str} {px py pt : Pos} {kt kv pt2} (i j : Nat) (ha : WE X a S k S1) (hb : WE X b S1 k2 S2) (hN : X.N.Nodup) (h2 : ∀ w1 w2, k w1 → k2 w2 → DSs X sts ((S2.set i w1).set j w2) o) (hok : o.ok S.length) (hc : X.calm = true := by rfl) (hi : X.N[i]? = some x := by rfl) (hj : X.N[j]? = some y := by rfl) (hij : i ≠ j := by decide)
    (hx : X.env.scope.names.lookup x = some .local := by rfl) (hy : X.env.scope.names.lookup y = some .local := by rfl) (h1' : i < S2.length := by exact Nat.le_of_ble_eq_true rfl) (h2' : j < S2.length := by exact Nat.le_of_ble_eq_true rfl)
    (hw : swappedStores [.Tuple [.Name x px, .Name y py] kt pt] (.Tuple [a, b] kv pt2) X.env = pure (some [x, y]) := by rfl)
    (hs : swapsWithSole [.Tuple [.Name x px, .Name y py] kt pt] (.Tuple [a, b] kv pt2) pos.line X.env = pure false := by rfl)
    (hst : starEach [a, b] X.env = (false, eval a X.env) :: starEach [b] X.env := by rfl) (hst2 : starEach [b] X.env = (false, eval b X.env) :: starEach [] X.env := by rfl) :
    DSs X (.Assign [.Tuple [.Name x px, .Name y py] kt pt] (.Tuple [a, b] kv pt2) pos :: sts) S o := by
  refine ⟨hok, fun Fr F σ H D hl sat q => (pss_cons (ps_par hc hN hi hj hij hx hy (pa_cons pE (pa_cons pE pa_nil hst2) hst) hw hs) pSs).w ?_⟩
  refine ha.2 Fr F σ H _ hl sat fun w1 v1 F2 H2 kw1 e2 s2 => ?_
  refine hb.2 ((some v1, w1) :: Fr) F2 σ H2 _ (hl.trans ha.1.symm) s2.frame1 fun w2 v2 F3 H3 kw2 e3 s3 => ?_
  have hl2 : S2.length = S.length := hb.1.trans ha.1
  refine ⟨v1, v2, rfl, (h2 w1 w2 kw1 kw2).2 Fr F3 _ H3 D (by rw [List.length_set, List.length_set, List.length_set, List.length_set, hl2]; exact hl) (sat_two (hl.trans hl2.symm) h1' h2' ?_) ?_⟩
  · show Sat X.K F3 H3 ((some v1, w1) :: (some v2, w2) :: (zc σ S2 ++ Fr))
    exact s3.perm ((List.Perm.cons _ List.perm_middle).trans (List.Perm.swap _ _ _))
  · rw [List.length_set, List.length_set, hl2]
    exact q.mono (Ext e2 e3)
end
section
variable {P : Program} {w : World} {K : PySem.W.Frag} {mg : Str → Option Value} {base : Heap}
theorem sc_is_integer : FnScope ["value"] ["value"] (defScope s_is_integer) := ⟨rfl, rfl, rfl, by decide +kernel, rfl, by decide +kernel, by decide +kernel⟩
theorem c_is_integer (Z : Pg K mg) : FnC P w K mg base 1 "is_integer" (PreD (fun _ : Int => True) (fun i => [pi i]) (fun _ => pb true)) := by
  refine FnC.ofD Z.f_is_integer sc_is_integer (fun _ _ _ _ _ _ us hl => match us, hl with | [_], _ => rfl) (fun _ => rfl) (fun cdv A outer s H E hr i hi => ?_)
  exact dss_one (ds_ret 0 (de_andT (de_isi (n := "int") (z := true) Z.n_isinstance (de_var (i := 0) rfl) ty_int Z.n_int (by decide +kernel) (by decide +kernel)) (de_one (de_not (z := false) (de_isi (n := "bool") Z.n_isinstance (de_var (i := 0) rfl) ty_int Z.n_bool (by decide +kernel) (by decide +kernel))))))
theorem sc_is_number : FnScope ["value"] ["value"] (defScope s_is_number) := ⟨rfl, rfl, rfl, by decide +kernel, rfl, by decide +kernel, by decide +kernel⟩
theorem c_is_number (Z : Pg K mg) : FnC P w K mg base 2 "is_number" (PreD (fun _ : Nat => True) (fun i => [pi (i : Nat)]) (fun _ => pb true)) := by
  refine FnC.ofD Z.f_is_number sc_is_number (fun _ _ _ _ _ _ us hl => match us, hl with | [_], _ => rfl) (fun _ => rfl) (fun cdv A outer s H E hr i hi => ?_)
  exact dss_one (ds_ret 0 (de_andT (we_call (c_is_integer Z) hr (da1 (de_var (i := 0) rfl)) ⟨_, trivial, rfl, rfl, rfl⟩) (de_one (DE.to (de_ge (de_var (i := 0) rfl) de_int) (by rw [decide_eq_true (by omega)])))))
theorem sc_is_cut : FnScope ["table", "b"] ["table", "b"] (defScope s_is_cut) := ⟨rfl, rfl, rfl, by decide +kernel, rfl, by decide +kernel, by decide +kernel⟩
theorem c_is_cut (Z : Pg K mg) : FnC P w K mg base 65 "is_cut" (PreD (fun i : Tb × Nat => gT i.1 ∧ 2 ≤ i.2 ∧ i.2 ≤ i.1.length) (fun i => [pd (tbD i.1), pi (i.2 : Nat)]) (fun i => pb (cutB i.1 i.2))) := by
  refine FnC.ofD Z.f_is_cut sc_is_cut (fun _ _ _ _ _ _ us hl => match us, hl with | [_, _], _ => rfl) (fun _ => rfl) (fun cdv A outer s H E hr i hi => ?_)
  obtain ⟨t, b⟩ := i
  obtain ⟨hg, h1, h2⟩ : gT t ∧ 2 ≤ b ∧ b ≤ t.length := hi
  exact dss_one (ds_ret 0 (de_andT (we_call (c_is_number Z) (hr.mono (by omega)) (da1 (de_var (i := 1) rfl)) ⟨b, trivial, rfl, rfl, rfl⟩)
    (de_andT (DE.to (de_chainLt de_int (de_var (i := 1) rfl) (we_call (c_table_size Z) (hr.mono (by omega)) (da1 (de_var (i := 0) rfl)) ⟨t, trivial, rfl, rfl, rfl⟩) (by omega)) (by rw [decide_eq_true (by omega)]))
      (de_one (we_isNk (we_call (c_counter Z) hr (da2 (de_var (i := 0) rfl) (de_var (i := 1) rfl)) ⟨t, b, ⟨hg, h1, by omega⟩, rfl, rfl, rfl⟩))))))
theorem sc_cuts : FnScope ["table", "b"] ["table"] (defScope s_cuts) := ⟨rfl, rfl, rfl, by decide +kernel, rfl, by decide +kernel, by decide +kernel⟩
theorem c_cuts (Z : Pg K mg) : FnC P w K mg base 66 "cuts" (PreD (fun t : Tb => gT t) (fun t => [pd (tbD t)]) (fun t => pl ((cuts t).map fun b : Nat => .int (b : Nat)))) := by
  refine FnC.ofD Z.f_cuts sc_cuts (fun _ _ _ _ _ _ us hl => match us, hl with | [_], _ => rfl) (fun _ => rfl) (fun cdv A outer s H E hr t hg => ?_)
  have hg : gT t := hg
  have hlen := hg.2
  have en : (((t.length + 1 : Nat) : Int) - 2).toNat = t.length - 1 := by omega
  have e2 : ∀ k : Nat, (2 : Int) + (k : Int) = ((k + 2 : Nat) : Int) := fun k => by omega
  refine dss_one (ds_ret 0 (DE.to (de_lcPIf (own := [("b", 1)]) (xs := List.range (((t.length + 1 : Nat) : Int) - 2).toNat) (g := fun (k : Nat) => py (.int (2 + (k : Int)))) (ys := fun (k : Nat) => .int ((k + 2 : Nat) : Int)) 1 (fun k => cutB t (k + 2)) sc_cuts.nd
    (show BlkOk ["table", "b"] (defScope s_cuts) _ _ from ⟨rfl, by decide +kernel, by decide +kernel, by decide +kernel, by decide +kernel⟩)
    (di_range2 Z.n_range de_int (we_call (c_table_size Z) (hr.mono (by omega)) (da1 (de_var (i := 0) rfl)) ⟨t, trivial, rfl, rfl, rfl⟩) (by omega) (by omega)) (few (by rw [List.length_range]; omega)) (by decide) (no1 rfl)
    (fun k hk s H C cl fp => ?_) (fun k hk ht s H C cl fp => DE.to (de_var (i := 1) rfl) (by rw [e2]))) ?_))
  · rw [List.mem_range, en] at hk
    exact dt_val (we_call (c_is_cut Z) hr (da2 (de_var (i := 0) rfl) (DE.to (de_var (i := 1) rfl) (by rw [e2]))) ⟨(t, k + 2), ⟨hg, by show 2 ≤ k + 2; omega, by show k + 2 ≤ t.length; omega⟩, rfl, rfl, rfl⟩)
  · rw [en]
    show _ = pl ((cuts t).map _)
    unfold cuts from2
    rw [List.filter_map, List.map_map]
    rfl
theorem ints_eqv (xs ys : List Nat) : PyData.eqv (.list (xs.map fun b : Nat => .int (b : Nat))) (.list (ys.map fun b : Nat => .int (b : Nat))) = decide (xs = ys) :=
  eqv_list (fun x y => by rw [int_eqv]; exact decide_eq_decide.mpr (by omega)) xs ys
theorem nice_ints (xs : List Nat) : Nice 1 (.list (xs.map fun b : Nat => .int (b : Nat))) := nice_list (nice_map fun x _ => nice_int)
theorem sc_is_prime_table : FnScope ["table"] ["table"] (defScope s_is_prime_table) := ⟨rfl, rfl, rfl, by decide +kernel, rfl, by decide +kernel, by decide +kernel⟩
theorem c_is_prime_table (Z : Pg K mg) : FnC P w K mg base 67 "is_prime_table" (PreD (fun t : Tb => gT t) (fun t => [pd (tbD t)]) (fun t => pb (decide (cuts t = [])))) := by
  refine FnC.ofD Z.f_is_prime_table sc_is_prime_table (fun _ _ _ _ _ _ us hl => match us, hl with | [_], _ => rfl) (fun _ => rfl) (fun cdv A outer s H E hr t hg => ?_)
  exact dss_one (ds_ret 0 (de_eqD hr (DE.conv (we_call (c_cuts Z) hr (da1 (de_var (i := 0) rfl)) ⟨t, hg, rfl, rfl, rfl⟩) lst_py) (DE.conv de_lst0 lst_py) (nice_ints (cuts t)).shaped (nice_ints []).shaped (ints_eqv (cuts t) [])))
theorem sc_behind : FnScope ["table", "b", "found", "m"] ["table", "b"] (defScope s_behind) := ⟨rfl, rfl, rfl, by decide +kernel, rfl, by decide +kernel, by decide +kernel⟩
theorem c_behind (Z : Pg K mg) : FnC P w K mg base 65 "behind" (PreD (fun i : Tb × Nat => gT i.1 ∧ 2 ≤ i.2 ∧ i.2 ≤ i.1.length ∧ cutB i.1 i.2 = true) (fun i => [pd (tbD i.1), pi (i.2 : Nat)]) (fun i => pd (tbD (behP i.1 i.2)))) := by
  refine FnC.ofD Z.f_behind sc_behind (fun _ _ _ _ _ _ us hl => match us, hl with | [_, _], _ => rfl) (fun _ => rfl) (fun cdv A outer s H E hr i hi => ?_)
  obtain ⟨t, b⟩ := i
  obtain ⟨hg, h1, h2, h3⟩ : gT t ∧ 2 ≤ b ∧ b ≤ t.length ∧ cutB t b = true := hi
  have hlen := hg.2
  refine dss_new 2 (we_call (c_counter Z) hr (da2 (de_var (i := 0) rfl) (de_var (i := 1) rfl)) ⟨t, b, ⟨hg, h1, by omega⟩, rfl, rfl, rfl⟩) sc_behind.nd (fun w hw => ?_) (Nat.zero_le _)
  obtain ⟨R, rfl, hR⟩ := hw
  rw [h3] at hR
  have hdiv : (t.length + 1) / b ≤ t.length + 1 := Nat.div_le_self _ _
  have en : (((t.length + 1 : Nat) : Int) / (b : Nat) + 1 - 2).toNat = (t.length + 1) / b - 1 := by
    rw [show ((t.length + 1 : Nat) : Int) / (b : Nat) = (((t.length + 1) / b : Nat) : Int) from (Int.natCast_ediv _ _).symm]
    omega
  have ei : ((t.length + 1 : Nat) : Int) / (b : Nat) = (((t.length + 1) / b : Nat) : Int) := (Int.natCast_ediv _ _).symm
  have hnn : 0 ≤ ((t.length + 1 : Nat) : Int) / (b : Nat) := by
    rw [ei]
    exact Int.natCast_nonneg _
  have hnm : ((t.length + 1 : Nat) : Int) / (b : Nat) ≤ 12 := by
    rw [ei]
    exact Int.ofNat_le.mpr (Nat.le_trans hdiv (show t.length + 1 ≤ 12 by omega))
  have e2 : ∀ k : Nat, ((2 : Int) + (k : Int)) * (b : Nat) = (((k + 2) * b : Nat) : Int) := fun k => by rw [Int.natCast_mul]; congr 1; omega
  refine dss_cons (S1 := [pd (tbD t), pi (b : Nat), .dat R, .no]) (ds_ifF (dt_notN (z := false) (de_var (i := 2) rfl) hR) dss_nil) ?_
  refine dss_one (ds_ret 0 (DE.to (de_tupleL Z.n_tuple (de_lcP (own := [("m", 3)]) (xs := List.range (((t.length + 1 : Nat) : Int) / (b : Nat) + 1 - 2).toNat) (g := fun (k : Nat) => py (.int (2 + (k : Int)))) (ys := fun (k : Nat) => shD (abvT t b ((k + 2) * b))) 3 sc_behind.nd
    (show BlkOk ["table", "b", "found", "m"] (defScope s_behind) _ _ from ⟨rfl, by decide +kernel, by decide +kernel, by decide +kernel, by decide +kernel⟩)
    (di_range2 Z.n_range de_int (de_add (de_fdiv (we_call (c_table_size Z) (hr.mono (by omega)) (da1 (de_var (i := 0) rfl)) ⟨t, trivial, rfl, rfl, rfl⟩) (de_var (i := 1) rfl) ⟨by omega, by omega⟩) de_int) (by omega) (by omega)) (few (by rw [List.length_range, en]; omega)) (by decide) (no1 rfl)
    (fun k hk s H C cl fp => ?_))) ?_))
  · rw [List.mem_range, en] at hk
    have hm : (k + 2) * b ≤ t.length + 1 := by
      have : (k + 2) * b ≤ (t.length + 1) / b * b := Nat.mul_le_mul_right b (by omega)
      have := Nat.div_mul_le_self (t.length + 1) b
      omega
    have hm1 : 1 * 1 ≤ (k + 2) * b := Nat.mul_le_mul (by omega) (by omega)
    exact we_call (c_shape_above Z) (hr.mono (by omega)) (da3 (de_var (i := 0) rfl) (de_var (i := 1) rfl) (DE.to (de_mul (de_var (i := 3) rfl) (de_var (i := 1) rfl) (.inr (by omega))) (by rw [e2]))) ⟨(t, b, (k + 2) * b), ⟨hg, by show 1 ≤ b; omega, by show b ≤ 1000; omega, by show 1 ≤ (k + 2) * b; omega, hm⟩, rfl, rfl, rfl⟩
  · rw [en]
    show _ = pd (tbD (behP t b))
    unfold tbD behP from2 shs
    rw [List.map_map, List.map_map]
    rfl
end
end Lh
end
section
set_option Elab.async false
set_option linter.all false
set_option maxRecDepth 100000
set_option maxHeartbeats 4000000
namespace Lh
open PySem PySem.Spec PyProof.Rows L2
def stepT (t : Tb) : Tb := match cuts t with
  | [] => t
  | b :: _ => behP t b
def lft (t : Tb) : Nat → Tb
  | 0 => t
  | i + 1 => stepT (lft t i)
def hdT (t : Tb) : Tb := t.take ((cuts t).headD 2 - 1)
def hds (t : Tb) (i : Nat) : List Tb := (List.range i).map fun j => hdT (lft t j)
theorem lft_succ (t : Tb) : ∀ i, lft (stepT t) i = lft t (i + 1)
  | 0 => rfl
  | i + 1 => by
    show stepT (lft (stepT t) i) = stepT (lft t (i + 1))
    rw [lft_succ t i]
theorem gT_step {t : Tb} (h : gT t) : gT (stepT t) := by
  unfold stepT
  cases q : cuts t with
  | nil => exact h
  | cons b bs =>
    obtain ⟨h1, h2, h3⟩ := mem_cuts (t := t) (b := b) (by rw [q]; exact List.mem_cons_self)
    exact (gT_beh h h1 h2 h3).1
theorem gT_lft {t : Tb} (h : gT t) : ∀ i, gT (lft t i)
  | 0 => h
  | i + 1 => gT_step (gT_lft h i)
theorem hds_succ (t : Tb) (n : Nat) : hds t (n + 1) = hdT t :: hds (stepT t) n := by
  unfold hds
  rw [List.range_succ_eq_map, List.map_cons, List.map_map]
  congr 1
  refine List.map_congr_left fun j _ => ?_
  show hdT (lft t (j + 1)) = _
  rw [lft_succ]
theorem hds_snoc (t : Tb) (n : Nat) : hds t (n + 1) = hds t n ++ [hdT (lft t n)] := by
  unfold hds
  rw [List.range_succ, List.map_append]
  rfl
theorem prime_steps : ∀ (k : Nat) (t : Tb), gT t → t.length ≤ k → ∃ n, primesF k t = hds t n ++ [lft t n] ∧ (∀ i, i < n → cuts (lft t i) ≠ []) ∧ cuts (lft t n) = [] ∧ n ≤ k
  | 0, t, hg, h => by
    have : t = [] := List.length_eq_zero_iff.mp (by omega)
    exact absurd this hg.1.1
  | k + 1, t, hg, h => by
    cases q : cuts t with
    | nil =>
      refine ⟨0, ?_, fun i hi => by omega, q, by omega⟩
      unfold primesF
      rw [q]
      rfl
    | cons b bs =>
      obtain ⟨h1, h2, h3⟩ := mem_cuts (t := t) (b := b) (by rw [q]; exact List.mem_cons_self)
      obtain ⟨h4, h5⟩ := gT_beh hg h1 h2 h3
      obtain ⟨n, e1, e2, e3, e4⟩ := prime_steps k (behP t b) h4 (by omega)
      have es : stepT t = behP t b := by unfold stepT; rw [q]
      refine ⟨n + 1, ?_, fun i hi => ?_, ?_, by omega⟩
      · unfold primesF
        rw [q]
        show t.take (b - 1) :: primesF k (behP t b) = _
        rw [e1, hds_succ, es, ← lft_succ, es]
        unfold hdT
        rw [q]
        rfl
      · cases i with
        | zero => show cuts t ≠ []; rw [q]; exact fun z => nomatch z
        | succ i =>
          rw [← lft_succ, es]
          exact e2 i (by omega)
      · rw [← lft_succ, es]
        exact e3
theorem gT_take {t : Tb} (h : gT t) {k : Nat} (h1 : 1 ≤ k) : gT (t.take k) := by
  refine ⟨⟨fun z => ?_, fun j s hs => ?_⟩, by rw [List.length_take]; have := h.2; omega⟩
  · rcases List.take_eq_nil_iff.mp z with z | z
    · omega
    · exact h.1.1 z
  · rw [List.getElem?_take] at hs
    split at hs
    · exact h.1.2 j s hs
    · cases hs
theorem gT_hd {t : Tb} (h : gT t) : gT (hdT t) := by
  unfold hdT
  cases q : cuts t with
  | nil => exact gT_take h (by decide)
  | cons b bs =>
    obtain ⟨h1, h2, h3⟩ := mem_cuts (t := t) (b := b) (by rw [q]; exact List.mem_cons_self)
    exact gT_take h (by show 1 ≤ b - 1; omega)
theorem gT_primes {t : Tb} (h : gT t) : ∀ p ∈ primes t, gT p := by
  obtain ⟨n, e1, _⟩ := prime_steps t.length t h (Nat.le_refl _)
  unfold primes
  rw [e1]
  intro p hp
  rcases List.mem_append.mp hp with hp | hp
  · unfold hds at hp
    obtain ⟨j, _, rfl⟩ := List.mem_map.mp hp
    exact gT_hd (gT_lft h j)
  · rw [List.mem_singleton.mp hp]
    exact gT_lft h n
theorem primes_few {t : Tb} (h : gT t) : (primes t).length ≤ 12 := by
  obtain ⟨n, e1, _, _, e4⟩ := prime_steps t.length t h (Nat.le_refl _)
  unfold primes
  rw [e1, List.length_append, List.length_singleton]
  unfold hds
  rw [List.length_map, List.length_range]
  have := h.2
  omega
section
variable {P : Program} {w : World} {K : PySem.W.Frag} {mg : Str → Option Value} {base : Heap}
theorem sc_primes : FnScope ["table", "found", "left", "first"] ["table"] (defScope s_primes) := ⟨rfl, rfl, rfl, by decide +kernel, rfl, by decide +kernel, by decide +kernel⟩
abbrev tbR (l : List Tb) : List Rel := (tbs l).map py
theorem c_primes (Z : Pg K mg) : FnC P w K mg base 68 "primes" (PreD (fun t : Tb => gT t) (fun t => [pd (tbD t)]) (fun t => pl (tbs (primes t)))) := by
  refine FnC.ofD Z.f_primes sc_primes (fun _ _ _ _ _ _ us hl => match us, hl with | [_], _ => rfl) (fun _ => rfl) (fun cdv A outer s H E hr t hg => ?_)
  have hg : gT t := hg
  obtain ⟨n, e1, e2, e3, e4⟩ := prime_steps t.length t hg (Nat.le_refl _)
  have hn : n ≤ 11 := by have := hg.2; omega
  refine dss_par2 1 2 (we_lstO (Rs := []) da_nil (Nat.zero_le _)) (de_var (i := 0) rfl) sc_primes.nd (fun w1 w2 hw1 hw2 => ?_) (Nat.zero_le _)
  obtain ⟨p, rfl⟩ := hw1
  subst hw2
  have ePr : primes t = hds t n ++ [lft t n] := e1
  refine dss_cons (S1 := [pd (tbD t), .own (lstO p (tbR (hds t n))), pd (tbD (lft t n)), .no]) (ds_while (Sf := [pd (tbD t), .own (lstO p (tbR (hds t n))), pd (tbD (lft t n)), .no]) n (fun i => [pd (tbD t), .own (lstO p (tbR (hds t i))), pd (tbD (lft t i)), .no]) (fun i hi => ?_) ?_) ?_
  · have hgi := gT_lft hg i
    have hlen := hgi.2
    refine ⟨_, DT.to (dt_not (dt_val (we_call (c_is_prime_table Z) (hr.mono (by omega)) (da1 (de_var (i := 2) rfl)) ⟨lft t i, hgi, rfl, rfl, rfl⟩))) (by rw [decide_eq_false (e2 i hi)]; rfl), ?_⟩
    cases q : cuts (lft t i) with
    | nil => exact absurd q (e2 i hi)
    | cons b bs =>
      obtain ⟨h1, h2, h3⟩ := mem_cuts (t := lft t i) (b := b) (by rw [q]; exact List.mem_cons_self)
      have eh : hdT (lft t i) = (lft t i).take (b - 1) := by unfold hdT; rw [q]; rfl
      have es : lft t (i + 1) = behP (lft t i) b := by show stepT (lft t i) = _; unfold stepT; rw [q]
      have ec : cutG (shs (lft t i)) none (some (((b : Nat) : Int) - 1)) = shs (hdT (lft t i)) := by
        rw [show ((b : Nat) : Int) - 1 = ((b - 1 : Nat) : Int) by omega, cut_to, eh]
        exact List.map_take.symm
      have ea : tbR (hds t i) ++ [py (tbD (hdT (lft t i)))] = tbR (hds t (i + 1)) := by
        rw [hds_snoc]
        show _ = ((hds t i ++ [hdT (lft t i)]).map tbD).map py
        rw [List.map_append, List.map_append]
        rfl
      refine dss_forget 3 (S' := [pd (tbD t), .own (lstO p (tbR (hds t (i + 1)))), pd (tbD (lft t (i + 1))), pi (b : Nat)]) ?_
      refine dss_cons (S1 := [pd (tbD t), .own (lstO p (tbR (hds t i))), pd (tbD (lft t i)), pi (b : Nat)]) (ds_set 3 (de_ix (we_call (c_cuts Z) (hr.mono (by omega)) (da1 (de_var (i := 2) rfl)) ⟨lft t i, hgi, rfl, rfl, rfl⟩) de_int (by rw [q]; exact at_0)) sc_primes.nd) ?_
      refine dss_cons (S1 := [pd (tbD t), .own (lstO p (tbR (hds t (i + 1)))), pd (tbD (lft t i)), pi (b : Nat)]) (ds_append (R := py (tbD (hdT (lft t i)))) 1 (DE.to (de_slt (de_var (i := 2) rfl) dp_no (dp_int (de_sub (de_var (i := 3) rfl) de_int))) (by rw [ec]; rfl)) rfl rfl (few (by rw [List.length_map, List.length_map]; unfold hds; rw [List.length_map, List.length_range]; omega)) (by rw [ea]; rfl)) ?_
      rw [es]
      exact dss_one (ds_set 2 (we_call (c_behind Z) (hr.mono (by omega)) (da2 (de_var (i := 2) rfl) (de_var (i := 3) rfl)) ⟨(lft t i, b), ⟨hgi, h1, h2, h3⟩, rfl, rfl, rfl⟩) sc_primes.nd)
  · exact DT.to (dt_not (dt_val (we_call (c_is_prime_table Z) (hr.mono (by omega)) (da1 (de_var (i := 2) rfl)) ⟨lft t n, gT_lft hg n, rfl, rfl, rfl⟩))) (by rw [decide_eq_true e3]; rfl)
  · refine dss_freeze (i := 1) rfl (dss_one (ds_ret 0 (DE.to (de_starE (ds := tbs (hds t n)) (de_var (i := 1) rfl) (de_var (i := 2) rfl) (few2 (by rw [List.length_map]; unfold hds; rw [List.length_map, List.length_range]; omega))) ?_)))
    show pl _ = pl (tbs (primes t))
    rw [ePr]
    show pl _ = pl ((hds t n ++ [lft t n]).map tbD)
    rw [List.map_append]
    rfl
end
end Lh
end
section
set_option Elab.async false
set_option linter.all false
set_option maxRecDepth 100000
set_option maxHeartbeats 4000000
namespace Lh
open PySem PySem.Spec PyProof.Rows L2
section
variable {P : Program} {w : World} {K : PySem.W.Frag} {mg : Str → Option Value} {base : Heap}
theorem enum_py {ds : List PyData} {i : Nat} {R : Rel} (h : (enumR (ds.map py))[i]? = some R) : ∃ d, ds[i]? = some d ∧ R = tupR [py (.int (i : Int)), py d] := by
  obtain ⟨R', h1, h2⟩ := enumR_of h
  rw [List.getElem?_map] at h1
  cases q : ds[i]? with
  | none => rw [q] at h1; cases h1
  | some d =>
    rw [q] at h1
    refine ⟨d, rfl, ?_⟩
    rw [h2, ← Option.some.inj h1]
/-! shapes -/
theorem sc_wrong_shape : FnScope ["value", "side", "part", "path"] ["value"] (defScope s_wrong_shape) := ⟨rfl, rfl, rfl, by decide +kernel, rfl, by decide +kernel, by decide +kernel⟩
theorem c_wrong_shape (Z : Pg K mg) : ∀ h, h ≤ 60 → FnC P w K mg base (h + 1) "wrong_shape" (PreD (fun s : Sh => s.ht ≤ h) (fun s => [pd (shD s)]) (fun _ => pd .none)) := by
  intro h
  induction h with
  | zero =>
    intro _
    refine FnC.ofD Z.f_wrong_shape sc_wrong_shape (fun _ _ _ _ _ _ us hl => match us, hl with | [_], _ => rfl) (fun _ => rfl) (fun cdv A outer s H E hr i hi => ?_)
    have hi : i.ht ≤ 0 := hi
    have e : i = .o := by cases i with | o => rfl | n a b => simp [Sh.ht] at hi
    subst e
    refine dss_cons (S1 := [pd (.tuple []), .no, .no, .no]) (ds_ifF (DW.t (dw_orF (DT.to (dt_not (dt_val (de_isi (n := "tuple") (z := true) Z.n_isinstance (de_var (R := py (.tuple [])) (i := 0) rfl) ty_tup Z.n_tuple (by decide +kernel) (by decide +kernel)))) rfl)
      (dw_or1 (dt_notInT (d := .int 0) (ds := [.int 0, .int 2]) (z := false) hr (DE.to (de_lent (ds := []) Z.n_len (de_var (i := 0) rfl)) rfl) (de_tup2 de_int de_int) (by decide +kernel) (by decide +kernel) (by decide +kernel))))) dss_nil) ?_
    refine dss_cons (S1 := [pd (.tuple []), .no, .no, .no]) (ds_forS (Rs := enumR (([] : List PyData).map py)) (fun _ => [pd (.tuple []), .no, .no, .no]) (di_enumT Z.n_enumerate (de_var (i := 0) rfl) isT_py) (fun i R hR => by cases hR) rfl) ?_
    exact dss_one (ds_ret 0 de_non)
  | succ h ih =>
    intro hh
    have ih := ih (by omega)
    refine FnC.ofD Z.f_wrong_shape sc_wrong_shape (fun _ _ _ _ _ _ us hl => match us, hl with | [_], _ => rfl) (fun _ => rfl) (fun cdv A outer s H E hr i hi => ?_)
    have hi : i.ht ≤ h + 1 := hi
    cases i with
    | o =>
      refine dss_cons (S1 := [pd (.tuple []), .no, .no, .no]) (ds_ifF (DW.t (dw_orF (DT.to (dt_not (dt_val (de_isi (n := "tuple") (z := true) Z.n_isinstance (de_var (R := py (.tuple [])) (i := 0) rfl) ty_tup Z.n_tuple (by decide +kernel) (by decide +kernel)))) rfl)
        (dw_or1 (dt_notInT (d := .int 0) (ds := [.int 0, .int 2]) (z := false) hr (DE.to (de_lent (ds := []) Z.n_len (de_var (i := 0) rfl)) rfl) (de_tup2 de_int de_int) (by decide +kernel) (by decide +kernel) (by decide +kernel))))) dss_nil) ?_
      refine dss_cons (S1 := [pd (.tuple []), .no, .no, .no]) (ds_forS (Rs := enumR (([] : List PyData).map py)) (fun _ => [pd (.tuple []), .no, .no, .no]) (di_enumT Z.n_enumerate (de_var (i := 0) rfl) isT_py) (fun i R hR => by cases hR) rfl) ?_
      exact dss_one (ds_ret 0 de_non)
    | n a b =>
      have hi : max a.ht b.ht + 1 ≤ h + 1 := hi
      refine dss_cons (S1 := [pd (.tuple [shD a, shD b]), .no, .no, .no]) (ds_ifF (DW.t (dw_orF (DT.to (dt_not (dt_val (de_isi (n := "tuple") (z := true) Z.n_isinstance (de_var (R := py (.tuple [shD a, shD b])) (i := 0) rfl) ty_tup Z.n_tuple (by decide +kernel) (by decide +kernel)))) rfl)
        (dw_or1 (dt_notInT (d := .int 2) (ds := [.int 0, .int 2]) (z := false) hr (DE.to (de_lent (ds := [shD a, shD b]) Z.n_len (de_var (i := 0) rfl)) rfl) (de_tup2 de_int de_int) (by decide +kernel) (by decide +kernel) (by decide +kernel))))) dss_nil) ?_
      refine dss_cons (S1 := [pd (.tuple [shD a, shD b]), .no, .no, .no]) (ds_forS (Rs := enumR ([shD a, shD b].map py)) (fun _ => [pd (.tuple [shD a, shD b]), .no, .no, .no]) (di_enumT Z.n_enumerate (de_var (i := 0) rfl) isT_py) (fun i R hR => ?_) rfl) ?_
      · obtain ⟨d, h1, rfl⟩ := enum_py hR
        have hd : ∃ s : Sh, d = shD s ∧ s.ht ≤ h := by
          match i, h1 with
          | 0, h1 => exact ⟨a, (Option.some.inj h1).symm, by omega⟩
          | 1, h1 => exact ⟨b, (Option.some.inj h1).symm, by omega⟩
          | i + 2, h1 => cases h1
        obtain ⟨s, rfl, hs⟩ := hd
        refine ⟨_, dg_tup (dgs_cons (dg_name 1 sc_wrong_shape.nd) (dgs_cons (dg_name 2 sc_wrong_shape.nd) dgs_nil)) isT_r, .inl ?_⟩
        refine dss_forget 1 (S' := _) (dss_forget 2 (S' := _) (dss_forget 3 (S' := [pd (.tuple [shD a, shD b]), pi (i : Int), pd (shD s), pd .none]) ?_))
        refine dss_cons (S1 := [pd (.tuple [shD a, shD b]), pi (i : Int), pd (shD s), pd .none]) (ds_set 3 (we_call ih hr (da1 (de_var (i := 2) rfl)) ⟨s, hs, rfl, rfl, rfl⟩) sc_wrong_shape.nd) ?_
        exact dss_one (ds_ifF (dt_notN (z := false) (de_var (i := 3) rfl) non_none) dss_nil)
      · exact dss_one (ds_ret 0 de_non)
/-! size_of: a stack, its top ahead -/
def stp : Nat × List Sh → Nat × List Sh
  | (f, []) => (f, [])
  | (f, .o :: l) => (f + 1, l)
  | (f, .n a b :: l) => (f, b :: a :: l)
def runS (s : Sh) : Nat → Nat × List Sh
  | 0 => (0, [s])
  | k + 1 => stp (runS s k)
def nodesL (l : List Sh) : Nat := (l.map nodes).sum
def sizeL (l : List Sh) : Nat := (l.map Sh.size).sum
theorem nodes_pos : ∀ s : Sh, 0 < nodes s
  | .o => by decide
  | .n a b => Nat.succ_pos _
theorem stp_inv : ∀ (x : Nat × List Sh), (stp x).1 + sizeL (stp x).2 = x.1 + sizeL x.2 ∧ nodesL (stp x).2 = nodesL x.2 - 1
  | (f, []) => ⟨rfl, rfl⟩
  | (f, .o :: l) => by
    unfold stp sizeL nodesL
    simp only [List.map_cons, List.sum_cons, Sh.size, nodes]
    omega
  | (f, .n a b :: l) => by
    unfold stp sizeL nodesL
    simp only [List.map_cons, List.sum_cons, Sh.size, nodes]
    omega
theorem run_inv (s : Sh) : ∀ k, (runS s k).1 + sizeL (runS s k).2 = s.size ∧ nodesL (runS s k).2 = nodes s - k
  | 0 => by
    unfold runS sizeL nodesL
    simp only [List.map_cons, List.map_nil, List.sum_cons, List.sum_nil]
    omega
  | k + 1 => by
    obtain ⟨h1, h2⟩ := run_inv s k
    obtain ⟨h3, h4⟩ := stp_inv (runS s k)
    show (stp (runS s k)).1 + sizeL (stp (runS s k)).2 = _ ∧ nodesL (stp (runS s k)).2 = _
    omega
theorem nodesL_nil {l : List Sh} (h : nodesL l = 0) : l = [] := by
  cases l with
  | nil => rfl
  | cons x l =>
    unfold nodesL at h
    simp only [List.map_cons, List.sum_cons] at h
    have := nodes_pos x
    omega
theorem stp_ht {n : Nat} : ∀ (x : Nat × List Sh), (∀ s ∈ x.2, s.ht ≤ n) → ∀ s ∈ (stp x).2, s.ht ≤ n
  | (f, []), h => h
  | (f, .o :: l), h => fun s hs => h s (List.mem_cons_of_mem _ hs)
  | (f, .n a b :: l), h => fun s hs => by
    have h0 := h (.n a b) List.mem_cons_self
    simp only [Sh.ht] at h0
    have hs : s ∈ b :: a :: l := hs
    rcases List.mem_cons.mp hs with rfl | hs
    · omega
    · rcases List.mem_cons.mp hs with rfl | hs
      · omega
      · exact h s (List.mem_cons_of_mem _ hs)
theorem run_ht {s : Sh} {n : Nat} (h : s.ht ≤ n) : ∀ k, ∀ x ∈ (runS s k).2, x.ht ≤ n
  | 0 => fun x hx => by rw [List.mem_singleton.mp hx]; exact h
  | k + 1 => stp_ht _ (run_ht h k)
theorem len_nodes : ∀ l : List Sh, l.length ≤ nodesL l
  | [] => Nat.le_refl _
  | x :: l => by
    have h1 := len_nodes l
    have h2 := nodes_pos x
    unfold nodesL at h1 ⊢
    simp only [List.map_cons, List.sum_cons, List.length_cons]
    omega
theorem sc_size_of : FnScope ["shape", "found", "rest", "part"] ["shape"] (defScope s_size_of) := ⟨rfl, rfl, rfl, by decide +kernel, rfl, by decide +kernel, by decide +kernel⟩
abbrev stkR (l : List Sh) : List Rel := (shs l.reverse).map py
theorem c_size_of (Z : Pg K mg) : FnC P w K mg base 1 "size_of" (PreD (fun s : Sh => s.ht ≤ 60 ∧ s.size ≤ 1000) (fun s => [pd (shD s)]) (fun s => pi (s.size : Nat))) := by
  refine FnC.ofD Z.f_size_of sc_size_of (fun _ _ _ _ _ _ us hl => match us, hl with | [_], _ => rfl) (fun _ => rfl) (fun cdv A outer s H E hr t hi => ?_)
  obtain ⟨ht, hs⟩ : t.ht ≤ 60 ∧ t.size ≤ 1000 := hi
  have hnd := nodes_le t
  refine dss_par2 1 2 de_int (we_lstO (Rs := [py (shD t)]) (da1 (de_var (i := 0) rfl)) (few2 (Nat.le_of_ble_eq_true rfl))) sc_size_of.nd (fun w1 w2 hw1 hw2 => ?_) (Nat.zero_le _)
  subst hw1
  obtain ⟨p, rfl⟩ := hw2
  have hend : (runS t (nodes t)).2 = [] := nodesL_nil (by rw [(run_inv t (nodes t)).2]; omega)
  have hfin : (runS t (nodes t)).1 = t.size := by
    have := (run_inv t (nodes t)).1
    rw [hend] at this
    exact this
  have hshp : ∀ k, SeqAt.shaped (.list (shs (runS t k).2.reverse)) = true := fun k => (nice_list (nice_map fun x hx => nice_sh (run_ht ht k x (List.mem_reverse.mp hx)))).shaped
  refine dss_cons (S1 := [pd (shD t), pi ((runS t (nodes t)).1 : Nat), .own (lstO p (stkR (runS t (nodes t)).2)), .no]) (ds_while (Sf := [pd (shD t), pi ((runS t (nodes t)).1 : Nat), .own (lstO p (stkR (runS t (nodes t)).2)), .no]) (nodes t) (fun k => [pd (shD t), pi ((runS t k).1 : Nat), .own (lstO p (stkR (runS t k).2)), .no]) (fun k hk => ?_) ?_) ?_
  · obtain ⟨i1, i2⟩ := run_inv t k
    have hhk := run_ht ht k
    have hlen := len_nodes (runS t k).2
    cases q : (runS t k).2 with
    | nil =>
      rw [q] at i2
      have : nodesL [] = 0 := rfl
      omega
    | cons x l =>
      have hx : x.ht ≤ 60 := hhk x (by rw [q]; exact List.mem_cons_self)
      have ept : stkR (x :: l) = stkR l ++ [py (shD x)] := by
        show ((x :: l).reverse.map shD).map py = _
        rw [List.reverse_cons, List.map_append, List.map_append]
        rfl
      rw [q, List.length_cons] at hlen
      rw [q] at i2
      refine ⟨_, DT.t (dt_neNilO hr (i := 2) rfl (by have := hshp k; rw [q] at this; exact this)) (by rw [show ((shs (x :: l).reverse).isEmpty) = false by rw [List.reverse_cons]; show (List.map shD (l.reverse ++ [x])).isEmpty = false; rw [List.map_append]; cases List.map shD l.reverse <;> rfl]; rfl), ?_⟩
      rw [ept]
      have er : runS t (k + 1) = stp ((runS t k).1, x :: l) := by
        show stp (runS t k) = _
        rw [← q]
      cases x with
      | o =>
        have er' : runS t (k + 1) = ((runS t k).1 + 1, l) := er
        rw [er']
        refine dss_forget 3 (S' := [pd (shD t), pi (((runS t k).1 + 1 : Nat) : Int), .own (lstO p (stkR l)), pd (shD .o)]) ?_
        refine dss_cons (S1 := [pd (shD t), pi ((runS t k).1 : Nat), .own (lstO p (stkR l)), pd (shD .o)]) (ds_set 3 (de_popO (i := 2) rfl) sc_size_of.nd) ?_
        refine dss_cons (S1 := [pd (shD t), pi (((runS t k).1 + 1 : Nat) : Int), .own (lstO p (stkR l)), pd (shD .o)]) (ds_augAdd 1 (de_ifT ((is_o hr (de_var (i := 3) rfl) (Nat.zero_le _)).t rfl) de_int) sc_size_of.nd rfl rfl) ?_
        exact dss_one (ds_extend (R := py (.tuple [])) 2 (de_var (i := 3) rfl) (isT_py (ds := [])) rfl rfl (few2 (by show (stkR l).length + 0 ≤ _; rw [List.length_map, List.length_map, List.length_reverse]; omega)) (by rw [show stkR l ++ ([] : List PyData).map py = stkR l from List.append_nil _]; rfl))
      | n a b =>
        have er' : runS t (k + 1) = ((runS t k).1, b :: a :: l) := er
        rw [er']
        have ex : stkR l ++ [shD a, shD b].map py = stkR (b :: a :: l) := by
          show _ = ((b :: a :: l).reverse.map shD).map py
          rw [List.reverse_cons, List.reverse_cons, List.append_assoc, List.map_append, List.map_append]
          rfl
        refine dss_forget 3 (S' := [pd (shD t), pi ((runS t k).1 : Nat), .own (lstO p (stkR (b :: a :: l))), pd (shD (.n a b))]) ?_
        refine dss_cons (S1 := [pd (shD t), pi ((runS t k).1 : Nat), .own (lstO p (stkR l)), pd (shD (.n a b))]) (ds_set 3 (de_popO (i := 2) rfl) sc_size_of.nd) ?_
        refine dss_cons (S1 := [pd (shD t), pi ((runS t k).1 : Nat), .own (lstO p (stkR l)), pd (shD (.n a b))]) (ds_augAdd (z := ((runS t k).1 : Nat)) (j := 0) 1 (de_ifF ((is_o hr (de_var (i := 3) rfl) hx).f rfl) de_int) sc_size_of.nd rfl rfl (hS2 := by rw [Int.add_zero]; rfl)) ?_
        exact dss_one (ds_extend (R := py (.tuple [shD a, shD b])) 2 (de_var (i := 3) rfl) (isT_py (ds := [shD a, shD b])) rfl rfl (few2 (by show (stkR l).length + 2 ≤ _; rw [List.length_map, List.length_map, List.length_reverse]; omega)) (by rw [ex]; rfl))
  · refine DT.f (dt_neNilO hr (i := 2) rfl (hshp (nodes t))) (by rw [hend]; rfl)
  · rw [hfin]
    exact dss_one (ds_ret 0 (de_var (i := 1) rfl))
end
end Lh
end
section
set_option Elab.async false
set_option linter.all false
set_option maxRecDepth 100000
set_option maxHeartbeats 4000000
namespace Lh
open PySem PySem.Spec PyProof.Rows L2
abbrev gL (ts : List Tb) : Prop := ∀ t ∈ ts, gT t
theorem gL_nice {ts : List Tb} (h : gL ts) : Nice 14 (tsD ts) := nice_tuple (nice_map fun t ht => gT_nice (h t ht))
theorem gT_size {t : Tb} (h : gT t) {k : Nat} {s : Sh} (hs : t[k]? = some s) : s.size = k + 2 ∧ s.ht ≤ 11 ∧ s.size ≤ 12 := by
  have h1 := h.1.2 k s hs
  have h2 := ht_size s
  have h3 := (List.getElem?_eq_some_iff.mp hs).1
  have := h.2
  omega
section
variable {P : Program} {w : World} {K : PySem.W.Frag} {mg : Str → Option Value} {base : Heap}
theorem get_map {α : Type} {f : α → PyData} {xs : List α} {i : Nat} {d : PyData} (h : (xs.map f)[i]? = some d) : ∃ x, xs[i]? = some x ∧ d = f x := by
  rw [List.getElem?_map] at h
  cases q : xs[i]? with
  | none => rw [q] at h; cases h
  | some x =>
    rw [q] at h
    exact ⟨x, rfl, (Option.some.inj h).symm⟩
theorem sc_wrong_sizes : FnScope ["shapes", "k", "shape"] ["shapes"] (defScope s_wrong_sizes) := ⟨rfl, rfl, rfl, by decide +kernel, rfl, by decide +kernel, by decide +kernel⟩
theorem c_wrong_sizes (Z : Pg K mg) : FnC P w K mg base 2 "wrong_sizes" (PreD (fun t : Tb => gT t) (fun t => [pd (tbD t)]) (fun _ => pd .none)) := by
  refine FnC.ofD Z.f_wrong_sizes sc_wrong_sizes (fun _ _ _ _ _ _ us hl => match us, hl with | [_], _ => rfl) (fun _ => rfl) (fun cdv A outer s H E hr t hg => ?_)
  have hg : gT t := hg
  refine dss_cons (S1 := [pd (tbD t), .no, .no]) (ds_forS (Rs := enumR ((shs t).map py)) (fun _ => [pd (tbD t), .no, .no]) (di_enumT Z.n_enumerate (de_var (i := 0) rfl) isT_py) (fun i R hR => ?_) rfl) (dss_one (ds_ret 0 de_non))
  obtain ⟨d, h1, rfl⟩ := enum_py hR
  obtain ⟨x, hx, rfl⟩ := get_map h1
  obtain ⟨h2, h3, h4⟩ := gT_size hg hx
  refine ⟨_, dg_tup (dgs_cons (dg_name 1 sc_wrong_sizes.nd) (dgs_cons (dg_name 2 sc_wrong_sizes.nd) dgs_nil)) isT_r, .inl ?_⟩
  refine dss_forget 1 (S' := _) (dss_forget 2 (S' := [pd (tbD t), pi (i : Int), pd (shD x)]) ?_)
  exact dss_one (ds_ifF (DT.f (dt_neI (we_call (c_size_of Z) hr (da1 (de_var (i := 2) rfl)) ⟨x, ⟨by omega, by omega⟩, rfl, rfl, rfl⟩) (de_add (de_var (i := 1) rfl) de_int)) (by rw [decide_eq_true (by omega)]; rfl)) dss_nil)
theorem sc_wrong_table : FnScope ["value", "k", "shape", "path"] ["value"] (defScope s_wrong_table) := ⟨rfl, rfl, rfl, by decide +kernel, rfl, by decide +kernel, by decide +kernel⟩
theorem tb_ne {t : Tb} (h : gT t) : PyData.eqv (tbD t) (.tuple []) = false := by
  have := tb_eqv t []
  rw [decide_eq_false h.1.1] at this
  exact this
theorem c_wrong_table (Z : Pg K mg) : FnC P w K mg base 13 "wrong_table" (PreD (fun t : Tb => gT t) (fun t => [pd (tbD t)]) (fun _ => pd .none)) := by
  refine FnC.ofD Z.f_wrong_table sc_wrong_table (fun _ _ _ _ _ _ us hl => match us, hl with | [_], _ => rfl) (fun _ => rfl) (fun cdv A outer s H E hr t hg => ?_)
  have hg : gT t := hg
  refine dss_cons (S1 := [pd (tbD t), .no, .no, .no]) (ds_ifF (DW.t (dw_orF (DT.to (dt_not (dt_val (de_isi (n := "tuple") (z := true) Z.n_isinstance (de_var (R := py (tbD t)) (i := 0) rfl) ty_tup Z.n_tuple (by decide +kernel) (by decide +kernel)))) rfl)
    (dw_or1 (dt_eqD hr (de_var (i := 0) rfl) de_tup0 (gT_nice hg).shaped (by decide +kernel) (tb_ne hg))))) dss_nil) ?_
  refine dss_cons (S1 := [pd (tbD t), .no, .no, .no]) (ds_forS (Rs := enumR ((shs t).map py)) (fun _ => [pd (tbD t), .no, .no, .no]) (di_enumT Z.n_enumerate (de_var (i := 0) rfl) isT_py) (fun i R hR => ?_) rfl) ?_
  · obtain ⟨d, h1, rfl⟩ := enum_py hR
    obtain ⟨x, hx, rfl⟩ := get_map h1
    obtain ⟨h2, h3, h4⟩ := gT_size hg hx
    refine ⟨_, dg_tup (dgs_cons (dg_name 1 sc_wrong_table.nd) (dgs_cons (dg_name 2 sc_wrong_table.nd) dgs_nil)) isT_r, .inl ?_⟩
    refine dss_forget 1 (S' := _) (dss_forget 2 (S' := _) (dss_forget 3 (S' := [pd (tbD t), pi (i : Int), pd (shD x), pd .none]) ?_))
    refine dss_cons (S1 := [pd (tbD t), pi (i : Int), pd (shD x), pd .none]) (ds_set 3 (we_call (c_wrong_shape Z 11 (by omega)) (hr.mono (by omega)) (da1 (de_var (i := 2) rfl)) ⟨x, h3, rfl, rfl, rfl⟩) sc_wrong_table.nd) ?_
    exact dss_one (ds_ifF (dt_notN (z := false) (de_var (i := 3) rfl) non_none) dss_nil)
  · exact dss_one (ds_ret 0 (we_call (c_wrong_sizes Z) (hr.mono (by omega)) (da1 (de_var (i := 0) rfl)) ⟨t, hg, rfl, rfl, rfl⟩))
theorem sc_wrong_member : FnScope ["tables", "k", "table", "path"] ["tables"] (defScope s_wrong_member) := ⟨rfl, rfl, rfl, by decide +kernel, rfl, by decide +kernel, by decide +kernel⟩
theorem c_wrong_member (Z : Pg K mg) : FnC P w K mg base 14 "wrong_member" (PreD (fun ts : List Tb => gL ts) (fun ts => [pd (tsD ts)]) (fun _ => pd .none)) := by
  refine FnC.ofD Z.f_wrong_member sc_wrong_member (fun _ _ _ _ _ _ us hl => match us, hl with | [_], _ => rfl) (fun _ => rfl) (fun cdv A outer s H E hr ts hg => ?_)
  have hg : gL ts := hg
  refine dss_cons (S1 := [pd (tsD ts), .no, .no, .no]) (ds_forS (Rs := enumR ((tbs ts).map py)) (fun _ => [pd (tsD ts), .no, .no, .no]) (di_enumT Z.n_enumerate (de_var (i := 0) rfl) isT_py) (fun i R hR => ?_) rfl) (dss_one (ds_ret 0 de_non))
  obtain ⟨d, h1, rfl⟩ := enum_py hR
  obtain ⟨t, ht, rfl⟩ := get_map h1
  refine ⟨_, dg_tup (dgs_cons (dg_name 1 sc_wrong_member.nd) (dgs_cons (dg_name 2 sc_wrong_member.nd) dgs_nil)) isT_r, .inl ?_⟩
  refine dss_forget 1 (S' := _) (dss_forget 2 (S' := _) (dss_forget 3 (S' := [pd (tsD ts), pi (i : Int), pd (tbD t), pd .none]) ?_))
  refine dss_cons (S1 := [pd (tsD ts), pi (i : Int), pd (tbD t), pd .none]) (ds_set 3 (we_call (c_wrong_table Z) hr (da1 (de_var (i := 2) rfl)) ⟨t, hg t (List.mem_of_getElem? ht), rfl, rfl, rfl⟩) sc_wrong_member.nd) ?_
  exact dss_one (ds_ifF (dt_notN (z := false) (de_var (i := 3) rfl) non_none) dss_nil)
/-- plans that are met -/
abbrev gP (ts rd : List Tb) : Prop := gL ts ∧ gL rd ∧ rd ≠ []
theorem ts_ne {ts : List Tb} (h : ts ≠ []) : PyData.eqv (tsD ts) (.tuple []) = false := by
  have := ts_eqv ts []
  rw [decide_eq_false h] at this
  exact this
theorem sc_wrong_plan : FnScope ["tables", "end", "path"] ["tables", "end"] (defScope s_wrong_plan) := ⟨rfl, rfl, rfl, by decide +kernel, rfl, by decide +kernel, by decide +kernel⟩
theorem c_wrong_plan (Z : Pg K mg) : FnC P w K mg base 15 "wrong_plan" (PreD (fun i : List Tb × List Tb => gP i.1 i.2) (fun i => [pd (tsD i.1), pd (tsD i.2)]) (fun _ => pd .none)) := by
  refine FnC.ofD Z.f_wrong_plan sc_wrong_plan (fun _ _ _ _ _ _ us hl => match us, hl with | [_, _], _ => rfl) (fun _ => rfl) (fun cdv A outer s H E hr i hi => ?_)
  obtain ⟨ts, rd⟩ := i
  obtain ⟨h1, h2, h3⟩ : gP ts rd := hi
  refine dss_cons (S1 := [pd (tsD ts), pd (tsD rd), .no]) (ds_ifF (DT.to (dt_not (dt_val (de_isi2 (n1 := "list") (n2 := "tuple") (t := .type "tuple") (z := true) Z.n_isinstance (de_var (R := py (tsD ts)) (i := 0) rfl) ty_tup
    (de_tupS (Rs := [at_ (.ty "list"), at_ (.ty "tuple")]) (da2 (de_ty Z.n_list (by decide +kernel)) (de_ty Z.n_tuple (by decide +kernel))) (few2 (Nat.le_of_ble_eq_true rfl)))
    (kitAny_cons (b := false) (kit_ty (by decide +kernel)) (fun _ => kitAny_cons (b := true) (kit_ty (by decide +kernel)) (fun z => nomatch z) (fun _ => rfl)) (fun z => nomatch z))))) rfl) dss_nil) ?_
  refine dss_cons (S1 := [pd (tsD ts), pd (tsD rd), pd .none]) (ds_set 2 (we_call (c_wrong_member Z) hr (da1 (de_var (i := 0) rfl)) ⟨ts, h1, rfl, rfl, rfl⟩) sc_wrong_plan.nd) ?_
  refine dss_cons (S1 := [pd (tsD ts), pd (tsD rd), pd .none]) (ds_ifF (dt_notN (z := false) (de_var (i := 2) rfl) non_none) dss_nil) ?_
  refine dss_cons (S1 := [pd (tsD ts), pd (tsD rd), pd .none]) (ds_ifF (DW.t (dw_andF (dt_val (de_isi (n := "str") (z := false) Z.n_isinstance (de_var (R := py (tsD rd)) (i := 1) rfl) ty_tup Z.n_str (by decide +kernel) (by decide +kernel))))) dss_nil) ?_
  refine dss_cons (S1 := [pd (tsD ts), pd (tsD rd), pd .none]) (ds_ifF (DW.t (dw_orF (DT.to (dt_not (dt_val (de_isi (n := "tuple") (z := true) Z.n_isinstance (de_var (R := py (tsD rd)) (i := 1) rfl) ty_tup Z.n_tuple (by decide +kernel) (by decide +kernel)))) rfl)
    (dw_or1 (dt_eqD hr (de_var (i := 1) rfl) de_tup0 (gL_nice h2).shaped (by decide +kernel) (ts_ne h3))))) dss_nil) ?_
  refine dss_cons (S1 := [pd (tsD ts), pd (tsD rd), pd .none]) (ds_set 2 (we_call (c_wrong_member Z) hr (da1 (de_var (i := 1) rfl)) ⟨rd, h2, rfl, rfl, rfl⟩) sc_wrong_plan.nd) ?_
  exact dss_one (ds_ret 0 (de_ifT (dt_isN (z := true) (de_var (i := 2) rfl) non_none) de_non))
/-! the class -/
abbrev plS (ts rd : List Tb) : Slot := .dat (plR (py (tsD ts)) (py (tsD rd)))
def ccI (R1 R2 : Rel) : Prop := ∃ ts rd, gP ts rd ∧ R1 = py (tsD ts) ∧ R2 = py (tsD rd)
theorem sc_init : FnScope ["self", "tables", "end", "path"] ["self", "tables", "end"] (defScope s_Plan_init) := ⟨rfl, rfl, rfl, by decide +kernel, rfl, by decide +kernel, by decide +kernel⟩
theorem c_init (Z : Pg K mg) : FnM P w K mg base 16 (He.ma K (plC K) "__init__") (preInit ccI) := by
  refine FnM.ofBody Z.f_Plan_init sc_init (fun _ _ _ _ _ _ us hl => match us, hl with | [_, _, _], _ => rfl) (by rintro as k as' ⟨p, dx, R1, R2, _, rfl, _⟩; rfl) (fun cdv A outer s H E hr as k as' h => ?_)
  obtain ⟨p, dx, R1, R2, ⟨ts, rd, hg, rfl, rfl⟩, rfl, rfl, rfl⟩ := h
  refine .inr ⟨rfl, [.own (insO p dx [("own_tables", py (tsD ts)), ("own_end", py (tsD rd))]), pd (tsD ts), pd (tsD rd), pd .none], rfl, ?_⟩
  refine dss_cons (S1 := [.own (insO p dx []), pd (tsD ts), pd (tsD rd), pd .none]) (ds_set 3 (we_call (c_wrong_plan Z) hr (da2 (de_var (i := 1) rfl) (de_var (i := 2) rfl)) ⟨(ts, rd), hg, rfl, rfl, rfl⟩) sc_init.nd) ?_
  refine dss_cons (S1 := [.own (insO p dx []), pd (tsD ts), pd (tsD rd), pd .none]) (ds_ifF (dt_notN (z := false) (de_var (i := 3) rfl) non_none) dss_nil) ?_
  refine dss_cons (S1 := [.own (insO p dx [("own_tables", py (tsD ts))]), pd (tsD ts), pd (tsD rd), pd .none]) (ds_fldO 0 Z (de_tupleT Z.n_tuple (de_var (i := 1) rfl)) Z.na_own_tables rfl rfl (fun z => nomatch z) (by show 0 < 1000; omega)) ?_
  exact dss_one (ds_fldO 0 Z (de_var (i := 2) rfl) Z.na_own_end rfl rfl (show ("own_end" : Str) ∉ (["own_tables"] : List Str) by decide) (by show 1 < 1000; omega))
def ccE (R1 R2 R3 R4 : Rel) (z : Bool) : Prop := ∃ ts rd ts' rd', gL ts ∧ gL rd ∧ gL ts' ∧ gL rd' ∧ R1 = py (tsD ts) ∧ R2 = py (tsD rd) ∧ R3 = py (tsD ts') ∧ R4 = py (tsD rd') ∧ z = decide (ts = ts' ∧ rd = rd')
theorem sc_eq : FnScope ["self", "other"] ["self", "other"] (defScope s_Plan_eq) := ⟨rfl, rfl, rfl, by decide +kernel, rfl, by decide +kernel, by decide +kernel⟩
theorem pl_eqv (ts rd ts' rd' : List Tb) : PyData.eqv (.tuple [tsD ts, tsD rd]) (.tuple [tsD ts', tsD rd']) = decide (ts = ts' ∧ rd = rd') := by
  simp only [PyData.eqv, PyData.eqvAll, Bool.and_true]
  rw [ts_eqv, ts_eqv]
  by_cases h1 : ts = ts'
  · by_cases h2 : rd = rd'
    · rw [decide_eq_true h1, decide_eq_true h2, decide_eq_true ⟨h1, h2⟩]; rfl
    · rw [decide_eq_true h1, decide_eq_false h2, decide_eq_false (show ¬ (ts = ts' ∧ rd = rd') from fun z => h2 z.2)]; rfl
  · rw [decide_eq_false h1, decide_eq_false (show ¬ (ts = ts' ∧ rd = rd') from fun z => h1 z.1)]; rfl
theorem c_eq (Z : Pg K mg) : FnM P w K mg base 1 (He.ma K (plC K) "__eq__") (preEq ccE) := by
  refine FnM.ofBody Z.f_Plan_eq sc_eq (fun _ _ _ _ _ _ us hl => match us, hl with | [_, _], _ => rfl) (by rintro as k as' ⟨R1, R2, R3, R4, z, _, rfl, _⟩; rfl) (fun cdv A outer s H E hr as k as' h => ?_)
  obtain ⟨R1, R2, R3, R4, z, ⟨ts, rd, ts', rd', h1, h2, h3, h4, rfl, rfl, rfl, rfl, rfl⟩, rfl, rfl, rfl⟩ := h
  have nn : ∀ {a b : List Tb}, gL a → gL b → SeqAt.shaped (.tuple [tsD a, tsD b]) = true := fun ha hb => (nice_tuple (n := 14) (fun d hd => by
    rcases List.mem_cons.mp hd with rfl | hd
    · exact gL_nice ha
    · rw [List.mem_singleton.mp hd]
      exact gL_nice hb)).shaped
  exact .inl (dss_one (ds_ret 0 (de_andT (de_isP Z (de_var (i := 1) rfl)) (de_one (de_eqD hr (de_tup2 (de_fld Z (de_var (i := 0) rfl) Z.na_own_tables (.inl ⟨rfl, rfl⟩)) (de_fld Z (de_var (i := 0) rfl) Z.na_own_end (.inr ⟨rfl, rfl⟩))) (de_tup2 (de_fld Z (de_var (i := 1) rfl) Z.na_own_tables (.inl ⟨rfl, rfl⟩)) (de_fld Z (de_var (i := 1) rfl) Z.na_own_end (.inr ⟨rfl, rfl⟩)))
    (nn h1 h2) (nn h3 h4) (pl_eqv ts rd ts' rd'))))))
theorem sc_tables : FnScope ["self"] ["self"] (defScope s_Plan_tables) := ⟨rfl, rfl, rfl, by decide +kernel, rfl, by decide +kernel, by decide +kernel⟩
theorem c_tables (Z : Pg K mg) : FnM P w K mg base 1 (He.ma K (plC K) "tables") (PreD (fun _ : Rel × Rel => True) (fun i => [.dat (plR i.1 i.2)]) (fun i => .dat i.1)) :=
  FnM.ofD Z.f_Plan_tables sc_tables (fun _ _ _ _ _ _ us hl => match us, hl with | [_], _ => rfl) (fun _ => rfl) (fun cdv A outer s H E hr i hi => dss_one (ds_ret 0 (de_fld Z (de_var (i := 0) rfl) Z.na_own_tables (.inl ⟨rfl, rfl⟩))))
theorem sc_end : FnScope ["self"] ["self"] (defScope s_Plan_end) := ⟨rfl, rfl, rfl, by decide +kernel, rfl, by decide +kernel, by decide +kernel⟩
theorem c_end (Z : Pg K mg) : FnM P w K mg base 1 (He.ma K (plC K) "end") (PreD (fun _ : Rel × Rel => True) (fun i => [.dat (plR i.1 i.2)]) (fun i => .dat i.2)) :=
  FnM.ofD Z.f_Plan_end sc_end (fun _ _ _ _ _ _ us hl => match us, hl with | [_], _ => rfl) (fun _ => rfl) (fun cdv A outer s H E hr i hi => dss_one (ds_ret 0 (de_fld Z (de_var (i := 0) rfl) Z.na_own_end (.inr ⟨rfl, rfl⟩))))
theorem sc_stage : FnScope ["self", "k"] ["self", "k"] (defScope s_Plan_stage) := ⟨rfl, rfl, rfl, by decide +kernel, rfl, by decide +kernel, by decide +kernel⟩
theorem atI_get {α : Type} {xs : List α} {j : Nat} {x : α} (h : xs[j]? = some x) : atI xs (j : Nat) = some x := atI_nat h
theorem ends_no {rd : List Tb} : (([.str "left", .str "right"] : List PyData).any fun y => PyData.eqv y (tsD rd)) = false := by
  simp [tsD, PyData.eqv]
theorem c_stage (Z : Pg K mg) : FnM P w K mg base 1 (He.ma K (plC K) "stage") (PreD (fun i : Pl × Nat => gP i.1.ts i.1.rd) (fun i => [plS i.1.ts i.1.rd, pi (i.2 : Nat)]) (fun i => pd (tbD (i.1.st i.2)))) := by
  refine FnM.ofD Z.f_Plan_stage sc_stage (fun _ _ _ _ _ _ us hl => match us, hl with | [_, _], _ => rfl) (fun _ => rfl) (fun cdv A outer s H E hr i hi => ?_)
  obtain ⟨⟨ts, rd⟩, k⟩ := i
  obtain ⟨h1, h2, h3⟩ : gP ts rd := hi
  have hrd : 0 < rd.length := List.length_pos_iff.mpr h3
  by_cases hk : k < ts.length
  · have e : (Pl.mk ts rd).st k = ts[k] := by
      unfold Pl.st
      rw [if_pos hk, List.getD_eq_getElem?_getD, List.getElem?_eq_getElem hk]
      rfl
    show DSs _ _ _ (.rt (fun w => w = pd (tbD ((Pl.mk ts rd).st k))) [])
    rw [e]
    refine dss_rt (ds_ifT (DT.t (dt_lt (de_var (i := 1) rfl) (de_lent (ds := tbs ts) Z.n_len (de_fld Z (de_var (i := 0) rfl) Z.na_own_tables (.inl ⟨rfl, rfl⟩)))) (decide_eq_true (by rw [List.length_map]; omega)))
      (dss_one (ds_ret 0 (de_ixt (ds := tbs ts) (de_fld Z (de_var (i := 0) rfl) Z.na_own_tables (.inl ⟨rfl, rfl⟩)) (de_var (i := 1) rfl) (atI_get (by rw [List.getElem?_map, List.getElem?_eq_getElem hk]; rfl))))))
  · have hj : (k - ts.length) % rd.length < rd.length := Nat.mod_lt _ hrd
    have e : (Pl.mk ts rd).st k = rd[(k - ts.length) % rd.length] := by
      unfold Pl.st
      rw [if_neg hk, List.getD_eq_getElem?_getD, List.getElem?_eq_getElem hj]
      rfl
    have ei : (((k : Nat) : Int) - ((tbs ts).length : Nat)) % ((tbs rd).length : Nat) = (((k - ts.length) % rd.length : Nat) : Int) := by
      rw [List.length_map, List.length_map, show ((k : Nat) : Int) - (ts.length : Nat) = ((k - ts.length : Nat) : Int) by omega]
      exact (Int.natCast_emod _ _).symm
    show DSs _ _ _ (.rt (fun w => w = pd (tbD ((Pl.mk ts rd).st k))) [])
    rw [e]
    refine dss_cons (S1 := [plS ts rd, pi (k : Nat)]) (ds_ifF (DT.f (dt_lt (de_var (i := 1) rfl) (de_lent (ds := tbs ts) Z.n_len (de_fld Z (de_var (i := 0) rfl) Z.na_own_tables (.inl ⟨rfl, rfl⟩)))) (decide_eq_false (by rw [List.length_map]; omega))) dss_nil) ?_
    refine dss_cons (S1 := [plS ts rd, pi (k : Nat)]) (ds_ifF (dt_inT (z := false) hr (de_fld Z (de_var (i := 0) rfl) Z.na_own_end (.inr ⟨rfl, rfl⟩)) (de_ENDS Z) (gL_nice h2).shaped (by decide +kernel) ends_no) dss_nil) ?_
    exact dss_one (ds_ret 0 (de_ixt (ds := tbs rd) (de_fld Z (de_var (i := 0) rfl) Z.na_own_end (.inr ⟨rfl, rfl⟩)) (DE.to (de_mod (de_sub (de_var (i := 1) rfl) (de_lent (ds := tbs ts) Z.n_len (de_fld Z (de_var (i := 0) rfl) Z.na_own_tables (.inl ⟨rfl, rfl⟩)))) (de_lent (ds := tbs rd) Z.n_len (de_fld Z (de_var (i := 0) rfl) Z.na_own_end (.inr ⟨rfl, rfl⟩))) (by rw [List.length_map]; omega)) (by rw [ei])) (atI_get (by rw [List.getElem?_map, List.getElem?_eq_getElem hj]; rfl))))
end
end Lh
end
section
set_option Elab.async false
set_option linter.all false
set_option maxRecDepth 100000
set_option maxHeartbeats 4000000
namespace Lh
open PySem PySem.Spec PyProof.Rows L2
section
variable {X : Cx} {S S1 S2 S3 : List Slot} {a b c e : Expr} {pos p : Pos} {k k2 : Slot → Prop} {x : Str} {pre : Pre} {kk : Nat} {w1 : Slot}
/-- f(a, b), what b gives new -/
theorem we_call2N (F : FnC X.prog X.w X.K X.mg X.base kk x pre) (hr : Room kk X.A) (ha : DE X a S w1 S1) (hb : WE X b S1 k2 S2) (hp : ∀ w2, k2 w2 → ∃ as', pre [w1, w2] k as') (hg : Gl X x := by rfl) (hdb : (x == ("__debug__" : Str)) = false := by decide)
    (he : starEach [a, b] X.env = (false, eval a X.env) :: starEach [b] X.env := by rfl) (he2 : starEach [b] X.env = (false, eval b X.env) :: starEach [] X.env := by rfl) (hpl : (backTo pos (starEach [b] X.env)).any (·.1) = false := by rfl) : WE X (.Call (.Name x p) [a, b] [] pos) S k S2 := by
  obtain ⟨f, fd, ps, hm, hk, hbd, hF⟩ := F.ex
  refine ⟨hb.1.trans ha.1, fun Fr F σ H Q hl sat c => (pe_call hF hr hg hm hk hbd .nil pass0 (pa_cons pE (pa_cons pE pa_nil he2) he) hdb he hpl).w ?_⟩
  refine ha.2 Fr F σ H _ hl sat fun w v F2 H2 kw e2 s2 => ?_
  subst kw
  refine hb.2 ((some v, w) :: Fr) F2 σ H2 _ (hl.trans ha.1.symm) s2.frame1 fun w2 v2 F3 H3 kw2 e3 s3 => ?_
  obtain ⟨as', hp'⟩ := hp w2 kw2
  show spD X.K pre ([v, v2] ++ []) H3 Q E0
  rw [List.append_nil]
  have s4 : Sat X.K F3 H3 (zc ([v, v2].map some) [w, w2] ++ (zc σ S2 ++ Fr)) := by
    show Sat X.K F3 H3 ((some v, w) :: (some v2, w2) :: (zc σ S2 ++ Fr))
    exact s3.perm ((List.Perm.cons _ List.perm_middle).trans (List.Perm.swap _ _ _))
  exact ⟨[w, w2], k, as', zc σ S2 ++ Fr, F3, hp', rfl, s4, fun w v σ' F4 H4 kw hl4 e4 s5 => c w v F4 H4 kw (Ext e2 (Ext e3 e4)) (s5.sub (.cons_cons _ (List.sublist_append_right _ _)))⟩
end
/-! rows -/
theorem press_len (t : Tb) (row : List Sh) : (press t row).length = cl row.length (t.length + 1) := by
  unfold press
  rw [List.length_map, List.length_range]
theorem cl_less {m b : Nat} (hb : 2 ≤ b) (hm : 2 ≤ m) : cl m b < m := by
  rcases Nat.lt_or_ge (cl m b) m with h | h
  · exact h
  · exfalso
    have := cl_lt (m := m) (b := b) (k := m - 1) (by omega) (by omega)
    have h2 : (m - 1) * 2 ≤ (m - 1) * b := Nat.mul_le_mul_left _ hb
    omega
theorem rows_len {st : Nat → Tb} (h : ∀ k, gT (st k)) {row : List Sh} (h1 : 1 ≤ row.length) : ∀ k, 1 ≤ (rows st row k).length ∧ ((rows st row k).length = 1 ∨ (rows st row k).length + k ≤ row.length)
  | 0 => ⟨h1, .inr (Nat.le_refl _)⟩
  | k + 1 => by
    obtain ⟨i1, i2⟩ := rows_len h h1 k
    have hst : 1 ≤ (st k).length := by
      rcases Nat.eq_zero_or_pos (st k).length with z | z
      · exact absurd (List.length_eq_zero_iff.mp z) (h k).1.1
      · exact z
    show 1 ≤ (press (st k) (rows st row k)).length ∧ _
    have e : (rows st row (k + 1)).length = cl (rows st row k).length ((st k).length + 1) := press_len _ _
    have e' : (press (st k) (rows st row k)).length = cl (rows st row k).length ((st k).length + 1) := press_len _ _
    rw [e, e']
    have p1 := cl_pos (b := (st k).length + 1) (m := (rows st row k).length) (by omega) i1
    refine ⟨p1, ?_⟩
    rcases Nat.lt_or_ge 1 (rows st row k).length with z | z
    · have := cl_less (b := (st k).length + 1) (m := (rows st row k).length) (by omega) z
      rcases i2 with i2 | i2
      · omega
      · exact .inr (by omega)
    · have : cl (rows st row k).length ((st k).length + 1) ≤ (rows st row k).length := cl_le (by omega)
      exact .inl (by omega)
theorem press_one {t : Tb} (h : 1 ≤ t.length) (x : Sh) : press t [x] = [x] := by
  unfold press
  have e : cl [x].length (t.length + 1) = 1 := by
    refine cl_eq (by omega) (by show (1 - 1) * _ < 1; rw [Nat.sub_self, Nat.zero_mul]; omega) (by show 1 ≤ 1 * _; omega) (by omega)
  rw [e]
  show [fill (ent t (min (t.length + 1) ([x].length - 0 * (t.length + 1)))) (([x].drop (0 * (t.length + 1))).take (t.length + 1))] = [x]
  rw [Nat.zero_mul, Nat.sub_zero, show min (t.length + 1) [x].length = 1 by show min _ 1 = 1; omega]
  rfl
theorem rows_stay {st : Nat → Tb} (h : ∀ k, gT (st k)) {row : List Sh} {j : Nat} (hj : (rows st row j).length = 1) : ∀ k, rows st row (j + k) = rows st row j
  | 0 => rfl
  | k + 1 => by
    show press (st (j + k)) (rows st row (j + k)) = _
    rw [rows_stay h hj k]
    match q : rows st row j, hj with
    | [x], _ =>
      refine press_one ?_ x
      rcases Nat.eq_zero_or_pos (st (j + k)).length with z | z
      · exact absurd (List.length_eq_zero_iff.mp z) (h (j + k)).1.1
      · exact z
/-- the loop's length -/
theorem rows_end {st : Nat → Tb} (h : ∀ k, gT (st k)) {n : Nat} (hn : 1 ≤ n) : ∃ j, j ≤ n ∧ (rows st (List.replicate n .o) j).length = 1 ∧ (∀ i, i < j → 1 < (rows st (List.replicate n .o) i).length) ∧ rows st (List.replicate n .o) j = [shp st n] := by
  have hl : (List.replicate n Sh.o).length = n := List.length_replicate
  have key : ∀ j, j ≤ n → (rows st (List.replicate n .o) j).length = 1 → rows st (List.replicate n .o) j = [shp st n] := fun j hj h1 => by
    have h2 := rows_stay h h1 (n - j)
    rw [show j + (n - j) = n by omega] at h2
    unfold shp
    rw [h2]
    match q : rows st (List.replicate n .o) j, h1 with
    | [x], _ => rfl
  rcases least (fun i => decide (1 < (rows st (List.replicate n .o) i).length)) n with ⟨j, h1, h2, h3⟩ | hall
  · have h4 := of_decide_eq_false h2
    have h5 := (rows_len h (row := List.replicate n .o) (by omega) j).1
    have h6 : (rows st (List.replicate n .o) j).length = 1 := by omega
    exact ⟨j, by omega, h6, fun i hi => of_decide_eq_true (h3 i hi), key j (by omega) h6⟩
  · have h5 := rows_len h (row := List.replicate n .o) (by omega) n
    have h6 : (rows st (List.replicate n .o) n).length = 1 := by
      rcases h5.2 with z | z
      · exact z
      · omega
    exact ⟨n, Nat.le_refl _, h6, fun i hi => of_decide_eq_true (hall i hi), key n (Nat.le_refl _) h6⟩
theorem gP_st {p : Pl} (h : gP p.ts p.rd) (k : Nat) : gT (p.st k) := by
  obtain ⟨h1, h2, h3⟩ := h
  have hrd : 0 < p.rd.length := List.length_pos_iff.mpr h3
  unfold Pl.st
  by_cases hk : k < p.ts.length
  · rw [if_pos hk, List.getD_eq_getElem?_getD, List.getElem?_eq_getElem hk]
    exact h1 _ (List.getElem_mem hk)
  · have hj : (k - p.ts.length) % p.rd.length < p.rd.length := Nat.mod_lt _ hrd
    rw [if_neg hk, List.getD_eq_getElem?_getD, List.getElem?_eq_getElem hj]
    exact h2 _ (List.getElem_mem hj)
theorem gT_pos {t : Tb} (h : gT t) : 1 ≤ t.length := by
  rcases Nat.eq_zero_or_pos t.length with z | z
  · exact absurd (List.length_eq_zero_iff.mp z) h.1.1
  · exact z
theorem numsC_of {c n i : Nat} {R : Rel} (h : (numsC 0 (c : Nat) n)[i]? = some R) : i < n ∧ R = py (.int ((i * c : Nat) : Int)) := by
  unfold numsC at h
  rw [List.getElem?_map] at h
  have hi : i < n := by
    rcases Nat.lt_or_ge i n with z | z
    · exact z
    · rw [List.getElem?_eq_none (by rw [List.length_range]; exact z)] at h
      cases h
  rw [List.getElem?_range hi] at h
  refine ⟨hi, ?_⟩
  rw [← Option.some.inj h]
  show py (.int (0 + (i : Int) * (c : Nat))) = _
  rw [zb]
theorem rep_o (n : Nat) : (List.replicate n ([shD .o] : List PyData)).flatten = shs (List.replicate n .o) := by
  induction n with
  | zero => rfl
  | succ n ih =>
    rw [List.replicate_succ, List.flatten_cons, ih, List.replicate_succ]
    rfl
section
variable {P : Program} {w : World} {K : PySem.W.Frag} {mg : Str → Option Value} {base : Heap}
abbrev prS (t : Tb) (row : List Sh) (i : Nat) : List Sh := (press t row).take i
theorem prS_succ {t : Tb} {row : List Sh} {i : Nat} (h : i < cl row.length (t.length + 1)) : prS t row (i + 1) = prS t row i ++ [fill (ent t (min (t.length + 1) (row.length - i * (t.length + 1)))) ((row.drop (i * (t.length + 1))).take (t.length + 1))] := by
  unfold prS
  rw [List.take_succ]
  congr 1
  unfold press
  rw [List.getElem?_map, List.getElem?_range h]
  rfl
theorem sc_pressed : FnScope ["table", "row", "size", "found", "first", "stretch"] ["table", "row"] (defScope s_pressed) := ⟨rfl, rfl, rfl, by decide +kernel, rfl, by decide +kernel, by decide +kernel⟩
abbrev preP : Pre := PreD (fun i : Tb × List Sh => gT i.1 ∧ i.2.length ≤ 1000) (fun i => [pd (tbD i.1), pl (shs i.2)]) (fun i => pl (shs (press i.1 i.2)))
theorem c_pressed (Z : Pg K mg) : FnC P w K mg base 13 "pressed" preP := by
  refine FnC.ofD Z.f_pressed sc_pressed (fun _ _ _ _ _ _ us hl => match us, hl with | [_, _], _ => rfl) (fun _ => rfl) (fun cdv A outer s H E hr i hi => ?_)
  obtain ⟨t, row⟩ := i
  obtain ⟨hg, hlen⟩ : gT t ∧ row.length ≤ 1000 := hi
  have hp := gT_pos hg
  have ht := hg.2
  refine dss_par2 2 3 (we_call (c_table_size Z) (hr.mono (by omega)) (da1 (de_var (i := 0) rfl)) ⟨t, trivial, rfl, rfl, rfl⟩) (we_lstO (Rs := []) da_nil (Nat.zero_le _)) sc_pressed.nd (fun w1 w2 hw1 hw2 => ?_) (Nat.zero_le _)
  subst hw1
  obtain ⟨p, rfl⟩ := hw2
  have hlr : (numsC 0 ((t.length + 1 : Nat) : Int) (cl row.length (t.length + 1))).length = cl row.length (t.length + 1) := by unfold numsC; rw [List.length_map, List.length_range]
  refine dss_cons (S1 := [pd (tbD t), pl (shs row), pi (t.length + 1 : Nat), .own (lstO p (shR (press t row))), .no, .no]) (ds_forS (fun i => [pd (tbD t), pl (shs row), pi (t.length + 1 : Nat), .own (lstO p (shR (prS t row i))), .no, .no])
    (di_range3 Z.n_range de_int (de_len Z.n_len (de_var (i := 1) rfl)) (de_var (i := 2) rfl) (by rw [List.length_map]; exact rgC_pos (by omega) (by omega) hlen)) (fun i R hR => ?_) (by rw [hlr]; show [_, _, _, Slot.own (lstO p (shR ((press t row).take _))), _, _] = _; rw [List.take_of_length_le (by rw [press_len]; omega)])) ?_
  · obtain ⟨hi, rfl⟩ := numsC_of hR
    have hi : i < cl row.length (t.length + 1) := hi
    have hpos : i * (t.length + 1) < row.length := cl_lt (by omega) hi
    have hclr : cl row.length (t.length + 1) ≤ row.length := cl_le (by omega)
    have e1 : cutG (shs row) (some ((i * (t.length + 1) : Nat) : Int)) (some (((i * (t.length + 1) : Nat) : Int) + ((t.length + 1 : Nat) : Int))) = shs ((row.drop (i * (t.length + 1))).take (t.length + 1)) := by
      rw [show ((i * (t.length + 1) : Nat) : Int) + ((t.length + 1 : Nat) : Int) = ((i * (t.length + 1) + (t.length + 1) : Nat) : Int) from (Int.natCast_add _ _).symm, cut_mid, Nat.add_sub_cancel_left]
      show List.take _ (List.drop _ (row.map shD)) = _
      rw [← List.map_drop, ← List.map_take]
    generalize hst : (row.drop (i * (t.length + 1))).take (t.length + 1) = st at e1
    have hsl : st.length = min (t.length + 1) (row.length - i * (t.length + 1)) := by rw [← hst, List.length_take, List.length_drop]
    have hes := prS_succ hi
    rw [hst, ← hsl] at hes
    have he1 : (ent t st.length).size = st.length := gT_ent hg (by omega) (by omega)
    have he2 : (ent t st.length).ht ≤ 11 := gT_ht hg (by omega) (by omega)
    refine ⟨_, dg_name 4 sc_pressed.nd, .inl (dss_forget 4 (S' := _) (dss_forget 5 (S' := [pd (tbD t), pl (shs row), pi (t.length + 1 : Nat), .own (lstO p (shR (prS t row (i + 1)))), pi ((i * (t.length + 1) : Nat) : Int), pl (shs st)]) ?_))⟩
    refine dss_cons (S1 := [pd (tbD t), pl (shs row), pi (t.length + 1 : Nat), .own (lstO p (shR (prS t row i))), pi ((i * (t.length + 1) : Nat) : Int), pl (shs st)]) (ds_set 5 (DE.to (de_sl (de_var (i := 1) rfl) (dp_int (de_var (i := 4) rfl)) (dp_int (de_add (de_var (i := 4) rfl) (de_var (i := 2) rfl)))) (by rw [e1])) sc_pressed.nd) ?_
    refine dss_one (ds_append (R := py (shD (fill (ent t st.length) st))) 3 (we_call2N (c_filled Z 11 (by omega)) (hr.mono (by omega)) (we_call (c_entry Z) (hr.mono (by omega)) (da2 (de_var (i := 0) rfl) (DE.to (de_len Z.n_len (de_var (i := 5) rfl)) (by rw [List.length_map]))) ⟨(t, st.length), ⟨by show 1 ≤ st.length; omega, by show st.length ≤ t.length + 1; omega⟩, rfl, rfl, rfl⟩)
      (we_listO Z.n_list (de_var (i := 5) rfl)) (fun w2 hw2 => ?_)) rfl rfl (few (by rw [List.length_map, List.length_take]; omega)) (by rw [hes]; show _ = [_, _, _, Slot.own (lstO p ((prS t row i ++ _).map fun s => py (shD s))), _, _]; rw [List.map_append]; rfl))
    obtain ⟨q, rfl⟩ := hw2
    exact ⟨_, ent t st.length, st, q, he2, by omega, by rw [List.map_map]; rfl, rfl, rfl⟩
  · refine dss_freeze (i := 3) rfl (dss_one (ds_ret 0 (DE.to (de_var (i := 3) rfl) (by show Slot.dat (lstR ((press t row).map fun s => py (shD s))) = Slot.dat (lstR (((press t row).map shD).map py)); rw [List.map_map]; rfl))))
theorem sc_law_pressed : FnScope ["_law_table_here", "_law_row", "_law_size_here", "_law_found", "_law_k"] ["_law_table_here", "_law_row"] (defScope s_law_pressed) := ⟨rfl, rfl, rfl, by decide +kernel, rfl, by decide +kernel, by decide +kernel⟩
theorem c_law_pressed (Z : Pg K mg) : FnC P w K mg base 14 "_law_pressed" preP := by
  refine FnC.ofD Z.f_law_pressed sc_law_pressed (fun _ _ _ _ _ _ us hl => match us, hl with | [_, _], _ => rfl) (fun _ => rfl) (fun cdv A outer s H E hr i hi => ?_)
  obtain ⟨t, row⟩ := i
  obtain ⟨hg, hlen⟩ : gT t ∧ row.length ≤ 1000 := hi
  have hp := gT_pos hg
  have ht := hg.2
  refine dss_par2 2 3 (DE.to (de_add (de_lent (ds := shs t) Z.n_len (de_var (i := 0) rfl)) de_int) (w' := pi (t.length + 1 : Nat)) (by rw [List.length_map]; rfl)) (we_lstO (Rs := []) da_nil (Nat.zero_le _)) sc_law_pressed.nd (fun w1 w2 hw1 hw2 => ?_) (Nat.zero_le _)
  subst hw1
  obtain ⟨p, rfl⟩ := hw2
  have hlr : (numsC 0 ((t.length + 1 : Nat) : Int) (cl row.length (t.length + 1))).length = cl row.length (t.length + 1) := by unfold numsC; rw [List.length_map, List.length_range]
  refine dss_cons (S1 := [pd (tbD t), pl (shs row), pi (t.length + 1 : Nat), .own (lstO p (shR (press t row))), .no]) (ds_forS (fun i => [pd (tbD t), pl (shs row), pi (t.length + 1 : Nat), .own (lstO p (shR (prS t row i))), .no])
    (di_range3 Z.n_range de_int (de_len Z.n_len (de_var (i := 1) rfl)) (de_var (i := 2) rfl) (by rw [List.length_map]; exact rgC_pos (by omega) (by omega) hlen)) (fun i R hR => ?_) (by rw [hlr]; show [_, _, _, Slot.own (lstO p (shR ((press t row).take _))), _] = _; rw [List.take_of_length_le (by rw [press_len]; omega)])) ?_
  · obtain ⟨hi, rfl⟩ := numsC_of hR
    have hi : i < cl row.length (t.length + 1) := hi
    have hpos : i * (t.length + 1) < row.length := cl_lt (by omega) hi
    have hclr : cl row.length (t.length + 1) ≤ row.length := cl_le (by omega)
    have e1 : cutG (shs row) (some ((i * (t.length + 1) : Nat) : Int)) (some (((i * (t.length + 1) : Nat) : Int) + ((t.length + 1 : Nat) : Int))) = shs ((row.drop (i * (t.length + 1))).take (t.length + 1)) := by
      rw [show ((i * (t.length + 1) : Nat) : Int) + ((t.length + 1 : Nat) : Int) = ((i * (t.length + 1) + (t.length + 1) : Nat) : Int) from (Int.natCast_add _ _).symm, cut_mid, Nat.add_sub_cancel_left]
      show List.take _ (List.drop _ (row.map shD)) = _
      rw [← List.map_drop, ← List.map_take]
    generalize hst : (row.drop (i * (t.length + 1))).take (t.length + 1) = st at e1
    have hsl : st.length = min (t.length + 1) (row.length - i * (t.length + 1)) := by rw [← hst, List.length_take, List.length_drop]
    have hes := prS_succ hi
    rw [hst, ← hsl] at hes
    have he1 : (ent t st.length).size = st.length := gT_ent hg (by omega) (by omega)
    have he2 : (ent t st.length).ht ≤ 11 := gT_ht hg (by omega) (by omega)
    refine ⟨_, dg_name 4 sc_law_pressed.nd, .inl (dss_forget 4 (S' := [pd (tbD t), pl (shs row), pi (t.length + 1 : Nat), .own (lstO p (shR (prS t row (i + 1)))), pi ((i * (t.length + 1) : Nat) : Int)]) ?_)⟩
    exact dss_one (ds_append (R := py (shD (fill (ent t st.length) st))) 3 (we_call (c_law_filled Z 11 (by omega)) hr (da2 (we_call (c_law_entry Z) (hr.mono (by omega)) (da2 (de_var (i := 0) rfl) (DE.to (de_len Z.n_len (DE.to (de_sl (de_var (i := 1) rfl) (dp_int (de_var (i := 4) rfl)) (dp_int (de_add (de_var (i := 4) rfl) (de_var (i := 2) rfl)))) (congrArg pl e1))) (by rw [List.length_map]))) ⟨(t, st.length), ⟨by show 1 ≤ st.length; omega, by show st.length ≤ t.length + 1; omega⟩, rfl, rfl, rfl⟩)
      (DE.to (de_sl (de_var (i := 1) rfl) (dp_int (de_var (i := 4) rfl)) (dp_int (de_add (de_var (i := 4) rfl) (de_var (i := 2) rfl)))) (congrArg pl e1))) ⟨(ent t st.length, st), ⟨he2, by show (ent t st.length).size ≤ st.length; omega⟩, rfl, rfl, rfl⟩) rfl rfl (few (by rw [List.length_map, List.length_take]; omega)) (by rw [hes]; show _ = [_, _, _, Slot.own (lstO p ((prS t row i ++ _).map fun s => py (shD s))), _]; rw [List.map_append]; rfl))
  · refine dss_freeze (i := 3) rfl (dss_one (ds_ret 0 (DE.to (de_var (i := 3) rfl) (by show Slot.dat (lstR ((press t row).map fun s => py (shD s))) = Slot.dat (lstR (((press t row).map shD).map py)); rw [List.map_map]; rfl))))
end
end Lh
end
section
set_option Elab.async false
set_option linter.all false
/-! sizes of what is pressed -/
namespace Lh
theorem sizeL_app (a b : List Sh) : sizeL (a ++ b) = sizeL a + sizeL b := by
  unfold sizeL
  rw [List.map_append, List.sum_append]
theorem fill_size : ∀ (s : Sh) (l : List Sh), s.size ≤ l.length → (fill s l).size = sizeL (l.take s.size)
  | .o, l, h => by
    match l, h with
    | x :: l, _ =>
      show x.size = sizeL [x]
      unfold sizeL
      simp
  | .n a b, l, h => by
    simp only [Sh.size] at h
    rw [fill_n]
    simp only [Sh.size]
    rw [fill_size a l (by omega), fill_size b (l.drop a.size) (by rw [List.length_drop]; omega), List.take_add, sizeL_app]
theorem chunk_take {α : Type} (row : List α) (b : Nat) : ∀ n, (List.range n).flatMap (fun k => (row.drop (k * b)).take b) = row.take (n * b)
  | 0 => by simp
  | n + 1 => by
    rw [List.range_succ, List.flatMap_append, chunk_take row b n, List.flatMap_cons, List.flatMap_nil, List.append_nil, Nat.add_mul, Nat.one_mul, List.take_add]
theorem chunk_all {α : Type} (row : List α) {b : Nat} (hb : 1 ≤ b) : (List.range (cl row.length b)).flatMap (fun k => (row.drop (k * b)).take b) = row := by
  rw [chunk_take, List.take_of_length_le (cl_ge hb (Nat.le_refl _))]
theorem sizeL_flat (l : List Nat) (f : Nat → List Sh) : sizeL (l.flatMap f) = (l.map fun k => sizeL (f k)).sum := by
  induction l with
  | nil => rfl
  | cons x l ih =>
    rw [List.flatMap_cons, sizeL_app, ih, List.map_cons, List.sum_cons]
theorem press_size {t : Tb} (hg : gT t) (row : List Sh) : sizeL (press t row) = sizeL row := by
  have h1 : sizeL row = sizeL ((List.range (cl row.length (t.length + 1))).flatMap (fun k => (row.drop (k * (t.length + 1))).take (t.length + 1))) := by rw [chunk_all row (by omega)]
  rw [h1, sizeL_flat]
  show ((press t row).map Sh.size).sum = _
  unfold press
  rw [List.map_map]
  congr 1
  refine List.map_congr_left fun k hk => ?_
  rw [List.mem_range] at hk
  have hpos := cl_lt (by omega) hk
  show (fill (ent t (min (t.length + 1) (row.length - k * (t.length + 1)))) ((row.drop (k * (t.length + 1))).take (t.length + 1))).size = _
  have hl : ((row.drop (k * (t.length + 1))).take (t.length + 1)).length = min (t.length + 1) (row.length - k * (t.length + 1)) := by rw [List.length_take, List.length_drop]
  rw [← hl]
  generalize (row.drop (k * (t.length + 1))).take (t.length + 1) = st at hl
  have he := gT_ent (m := st.length) hg (by omega) (by omega)
  rw [fill_size _ _ (by omega), he, List.take_length]
theorem rows_size {st : Nat → Tb} (h : ∀ k, gT (st k)) (row : List Sh) : ∀ k, sizeL (rows st row k) = sizeL row
  | 0 => rfl
  | k + 1 => by
    show sizeL (press (st k) (rows st row k)) = _
    rw [press_size (h k), rows_size h row k]
theorem sizeL_rep (n : Nat) : sizeL (List.replicate n .o) = n := by
  unfold sizeL
  rw [List.map_replicate, List.sum_replicate_nat]
  show n * 1 = n
  omega
theorem shp_size {st : Nat → Tb} (h : ∀ k, gT (st k)) {n : Nat} (hn : 1 ≤ n) : (shp st n).size = n := by
  obtain ⟨j, _, _, _, e⟩ := rows_end h hn
  have h2 := rows_size h (List.replicate n .o) j
  rw [e, sizeL_rep] at h2
  show _ = _
  unfold sizeL at h2
  simpa using h2
theorem shp_ht {st : Nat → Tb} (h : ∀ k, gT (st k)) {n : Nat} (hn : 1 ≤ n) : (shp st n).ht < n := by
  have h1 := shp_size h hn
  have h2 := ht_size (shp st n)
  omega
end Lh
end
section
set_option Elab.async false
set_option linter.all false
set_option maxRecDepth 100000
set_option maxHeartbeats 4000000
namespace Lh
open PySem PySem.Spec PyProof.Rows L2
section
variable {P : Program} {w : World} {K : PySem.W.Frag} {mg : Str → Option Value} {base : Heap}
theorem rows_bd {st : Nat → Tb} (h : ∀ k, gT (st k)) {n : Nat} (hn : 1 ≤ n) (k : Nat) : (rows st (List.replicate n .o) k).length ≤ n := by
  have h2 := rows_len h (row := List.replicate n .o) (by rw [List.length_replicate]; exact hn) k
  rw [List.length_replicate] at h2
  omega
theorem sc_shape : FnScope ["plan", "n", "row", "number"] ["plan", "n"] (defScope s_shape) := ⟨rfl, rfl, rfl, by decide +kernel, rfl, by decide +kernel, by decide +kernel⟩
theorem c_shape (Z : Pg K mg) : FnC P w K mg base 14 "shape" (PreD (fun i : Pl × Nat => gP i.1.ts i.1.rd ∧ 1 ≤ i.2 ∧ i.2 ≤ 1000) (fun i => [plS i.1.ts i.1.rd, pi (i.2 : Nat)]) (fun i => pd (shD (shp i.1.st i.2)))) := by
  refine FnC.ofD Z.f_shape sc_shape (fun _ _ _ _ _ _ us hl => match us, hl with | [_, _], _ => rfl) (fun _ => rfl) (fun cdv A outer s H E hr i hi => ?_)
  obtain ⟨pp, n⟩ := i
  obtain ⟨hg, hn1, hn2⟩ : gP pp.ts pp.rd ∧ 1 ≤ n ∧ n ≤ 1000 := hi
  have hst := gP_st hg
  obtain ⟨J, hJ1, hJ2, hJ3, hJ4⟩ := rows_end hst hn1
  have hb := rows_bd hst hn1
  have hrep : (List.replicate ((n : Nat) : Int).toNat ([.tuple []] : List PyData)).flatten = shs (List.replicate n .o) := by rw [Int.toNat_natCast]; exact rep_o n
  refine dss_cons (S1 := [plS pp.ts pp.rd, pi (n : Nat), pl (shs (List.replicate n .o)), pi ((0 : Nat) : Int)]) (ds_par 2 3 (da2 (DE.to (de_rep (ds := [.tuple []]) (de_lst1 de_tup0) (de_var (i := 1) rfl) (by omega) (by rw [Int.toNat_natCast]; show 1 * n ≤ _; exact few2 (by omega))) (congrArg pl hrep)) de_int) sc_shape.nd) ?_
  refine dss_cons (S1 := [plS pp.ts pp.rd, pi (n : Nat), pl (shs (rows pp.st (List.replicate n .o) J)), pi (J : Nat)]) (ds_while (Sf := [plS pp.ts pp.rd, pi (n : Nat), pl (shs (rows pp.st (List.replicate n .o) J)), pi (J : Nat)]) J (fun i => [plS pp.ts pp.rd, pi (n : Nat), pl (shs (rows pp.st (List.replicate n .o) i)), pi (i : Nat)]) (fun i hi => ?_) ?_) ?_
  · have h1 := hJ3 i hi
    refine ⟨_, DW.t (dw_andT (DT.t (dt_gt (de_len Z.n_len (de_var (i := 2) rfl)) de_int) (decide_eq_true (by rw [List.length_map]; omega)))
      (dw_and1 (dt_notN (R := py (tbD (pp.st i))) (z := true) (we_meth1 (m := "stage") Z (de_var (i := 0) rfl) (de_var (i := 3) rfl) Z.m_stage (c_stage Z) (hr.mono (by omega)) ⟨(pp, i), hg, rfl, rfl, rfl⟩) non_tup))), ?_⟩
    refine dss_cons (S1 := [plS pp.ts pp.rd, pi (n : Nat), pl (shs (rows pp.st (List.replicate n .o) (i + 1))), pi (i : Nat)]) (ds_set 2 (we_call (c_pressed Z) (hr.mono (by omega)) (da2 (we_meth1 (m := "stage") Z (de_var (i := 0) rfl) (de_var (i := 3) rfl) Z.m_stage (c_stage Z) (hr.mono (by omega)) ⟨(pp, i), hg, rfl, rfl, rfl⟩) (de_var (i := 2) rfl)) ⟨(pp.st i, rows pp.st (List.replicate n .o) i), ⟨hst i, by have := hb i; show (rows pp.st (List.replicate n .o) i).length ≤ 1000; omega⟩, rfl, rfl, rfl⟩) sc_shape.nd) ?_
    exact dss_one (ds_augAdd 3 de_int sc_shape.nd rfl rfl)
  · exact DW.t (dw_andF (DT.f (dt_gt (de_len Z.n_len (de_var (i := 2) rfl)) de_int) (decide_eq_false (by rw [List.length_map, hJ2]; omega))))
  · rw [hJ4]
    exact dss_one (ds_ret 0 (de_ifT (DT.t (dt_eqI (de_len Z.n_len (de_var (i := 2) rfl)) de_int) (decide_eq_true rfl)) (de_ix (de_var (i := 2) rfl) de_int at_0)))
/-! the law's -/
abbrev wlS (ts rd : List Tb) (o : Option Rel) : Slot := .dat (wlR (py (tsD ts)) (py (tsD rd)) o)
theorem sc_law_stage : FnScope ["_law_world", "_law_k"] ["_law_world", "_law_k"] (defScope s_law_stage) := ⟨rfl, rfl, rfl, by decide +kernel, rfl, by decide +kernel, by decide +kernel⟩
theorem c_law_stage (Z : Pg K mg) : FnC P w K mg base 1 "_law_stage" (PreD (fun i : Pl × Option Rel × Nat => gP i.1.ts i.1.rd) (fun i => [wlS i.1.ts i.1.rd i.2.1, pi (i.2.2 : Nat)]) (fun i => pd (tbD (i.1.st i.2.2)))) := by
  refine FnC.ofD Z.f_law_stage sc_law_stage (fun _ _ _ _ _ _ us hl => match us, hl with | [_, _], _ => rfl) (fun _ => rfl) (fun cdv A outer s H E hr i hi => ?_)
  obtain ⟨⟨ts, rd⟩, o, k⟩ := i
  obtain ⟨h1, h2, h3⟩ : gP ts rd := hi
  have hrd : 0 < rd.length := List.length_pos_iff.mpr h3
  by_cases hk : k < ts.length
  · have e : (Pl.mk ts rd).st k = ts[k] := by
      unfold Pl.st
      rw [if_pos hk, List.getD_eq_getElem?_getD, List.getElem?_eq_getElem hk]
      rfl
    show DSs _ _ [wlS ts rd o, pi (k : Nat)] (.rt (fun w => w = pd (tbD ((Pl.mk ts rd).st k))) [])
    rw [e]
    exact dss_rt (ds_ifT (DT.t (dt_lt (de_var (i := 1) rfl) (de_lent (ds := tbs ts) Z.n_len (de_wget hr (de_var (i := 0) rfl) (.inl ⟨rfl, rfl⟩)))) (decide_eq_true (by rw [List.length_map]; omega)))
      (dss_one (ds_ret 0 (de_ixt (ds := tbs ts) (de_wget hr (de_var (i := 0) rfl) (.inl ⟨rfl, rfl⟩)) (de_var (i := 1) rfl) (atI_get (by rw [List.getElem?_map, List.getElem?_eq_getElem hk]; rfl))))))
  · have hj : (k - ts.length) % rd.length < rd.length := Nat.mod_lt _ hrd
    have e : (Pl.mk ts rd).st k = rd[(k - ts.length) % rd.length] := by
      unfold Pl.st
      rw [if_neg hk, List.getD_eq_getElem?_getD, List.getElem?_eq_getElem hj]
      rfl
    have ei : (((k : Nat) : Int) - ((tbs ts).length : Nat)) % ((tbs rd).length : Nat) = (((k - ts.length) % rd.length : Nat) : Int) := by
      rw [List.length_map, List.length_map, show ((k : Nat) : Int) - (ts.length : Nat) = ((k - ts.length : Nat) : Int) by omega]
      exact (Int.natCast_emod _ _).symm
    show DSs _ _ [wlS ts rd o, pi (k : Nat)] (.rt (fun w => w = pd (tbD ((Pl.mk ts rd).st k))) [])
    rw [e]
    refine dss_cons (S1 := [wlS ts rd o, pi (k : Nat)]) (ds_ifF (DT.f (dt_lt (de_var (i := 1) rfl) (de_lent (ds := tbs ts) Z.n_len (de_wget hr (de_var (i := 0) rfl) (.inl ⟨rfl, rfl⟩)))) (decide_eq_false (by rw [List.length_map]; omega))) dss_nil) ?_
    refine dss_cons (S1 := [wlS ts rd o, pi (k : Nat)]) (ds_ifF (dt_inT (z := false) hr (de_wget hr (de_var (i := 0) rfl) (.inr (.inl ⟨rfl, rfl⟩))) (de_tup2 de_str de_str) (gL_nice h2).shaped (by decide +kernel) ends_no) dss_nil) ?_
    exact dss_one (ds_ret 0 (de_ixt (ds := tbs rd) (de_wget hr (de_var (i := 0) rfl) (.inr (.inl ⟨rfl, rfl⟩))) (DE.to (de_mod (de_int1 Z.n_int (de_sub (de_var (i := 1) rfl) (de_lent (ds := tbs ts) Z.n_len (de_wget hr (de_var (i := 0) rfl) (.inl ⟨rfl, rfl⟩))))) (de_lent (ds := tbs rd) Z.n_len (de_wget hr (de_var (i := 0) rfl) (.inr (.inl ⟨rfl, rfl⟩)))) (by rw [List.length_map]; omega)) (by rw [ei])) (atI_get (by rw [List.getElem?_map, List.getElem?_eq_getElem hj]; rfl))))
theorem sc_law_told : FnScope ["_law_world", "_law_n", "_law_row", "_law_k"] ["_law_world", "_law_n"] (defScope s_law_told) := ⟨rfl, rfl, rfl, by decide +kernel, rfl, by decide +kernel, by decide +kernel⟩
theorem c_law_told (Z : Pg K mg) : FnC P w K mg base 15 "_law_told" (PreD (fun i : Pl × Option Rel × Nat => gP i.1.ts i.1.rd ∧ 1 ≤ i.2.2 ∧ i.2.2 ≤ 1000) (fun i => [wlS i.1.ts i.1.rd i.2.1, pi (i.2.2 : Nat)]) (fun i => pd (shD (shp i.1.st i.2.2)))) := by
  refine FnC.ofD Z.f_law_told sc_law_told (fun _ _ _ _ _ _ us hl => match us, hl with | [_, _], _ => rfl) (fun _ => rfl) (fun cdv A outer s H E hr i hi => ?_)
  obtain ⟨pp, o, n⟩ := i
  obtain ⟨hg, hn1, hn2⟩ : gP pp.ts pp.rd ∧ 1 ≤ n ∧ n ≤ 1000 := hi
  show DSs _ _ [wlS pp.ts pp.rd o, pi (n : Nat), .no, .no] (.rt (fun w => w = pd (shD (shp pp.st n))) [])
  have hst := gP_st hg
  obtain ⟨J, hJ1, hJ2, hJ3, hJ4⟩ := rows_end hst hn1
  have hb := rows_bd hst hn1
  have hrep : (List.replicate ((n : Nat) : Int).toNat ([.tuple []] : List PyData)).flatten = shs (List.replicate n .o) := by rw [Int.toNat_natCast]; exact rep_o n
  refine dss_cons (S1 := [wlS pp.ts pp.rd o, pi (n : Nat), pl (shs (List.replicate n .o)), pi ((0 : Nat) : Int)]) (ds_par 2 3 (da2 (DE.to (de_rep (ds := [.tuple []]) (de_lst1 de_tup0) (de_var (i := 1) rfl) (by omega) (by rw [Int.toNat_natCast]; show 1 * n ≤ _; exact few2 (by omega))) (congrArg pl hrep)) de_int) sc_law_told.nd) ?_
  refine dss_cons (S1 := [wlS pp.ts pp.rd o, pi (n : Nat), pl (shs (rows pp.st (List.replicate n .o) J)), pi (J : Nat)]) (ds_while (Sf := [wlS pp.ts pp.rd o, pi (n : Nat), pl (shs (rows pp.st (List.replicate n .o) J)), pi (J : Nat)]) J (fun i => [wlS pp.ts pp.rd o, pi (n : Nat), pl (shs (rows pp.st (List.replicate n .o) i)), pi (i : Nat)]) (fun i hi => ?_) ?_) ?_
  · have h1 := hJ3 i hi
    refine ⟨_, DW.t (dw_andT (DT.t (dt_gt (de_len Z.n_len (de_var (i := 2) rfl)) de_int) (decide_eq_true (by rw [List.length_map]; omega)))
      (dw_and1 (dt_notN (R := py (tbD (pp.st i))) (z := true) (we_call (c_law_stage Z) (hr.mono (by omega)) (da2 (de_var (i := 0) rfl) (de_var (i := 3) rfl)) ⟨(pp, o, i), hg, rfl, rfl, rfl⟩) non_tup))), ?_⟩
    exact dss_one (ds_par 2 3 (da2 (we_call (c_law_pressed Z) (hr.mono (by omega)) (da2 (we_call (c_law_stage Z) (hr.mono (by omega)) (da2 (de_var (i := 0) rfl) (de_var (i := 3) rfl)) ⟨(pp, o, i), hg, rfl, rfl, rfl⟩) (de_var (i := 2) rfl)) ⟨(pp.st i, rows pp.st (List.replicate n .o) i), ⟨hst i, by have := hb i; show (rows pp.st (List.replicate n .o) i).length ≤ 1000; omega⟩, rfl, rfl, rfl⟩) (de_add (de_var (i := 3) rfl) de_int)) sc_law_told.nd)
  · exact DW.t (dw_andF (DT.f (dt_gt (de_len Z.n_len (de_var (i := 2) rfl)) de_int) (decide_eq_false (by rw [List.length_map, hJ2]; omega))))
  · rw [hJ4]
    exact dss_one (ds_ret 0 (de_ifF (DT.f (dt_gt (de_len Z.n_len (de_var (i := 2) rfl)) de_int) (decide_eq_false (by show ¬ ((1 : Nat) : Int) > 1; omega))) (de_ix (de_var (i := 2) rfl) de_int at_0)))
theorem sc_law_glue : FnScope ["_law_one", "_law_other", "_law_found", "_law_size_here", "_law_m", "_law_row"] ["_law_one", "_law_other"] (defScope s_law_glue) := ⟨rfl, rfl, rfl, by decide +kernel, rfl, by decide +kernel, by decide +kernel⟩
theorem c_law_glue (Z : Pg K mg) : FnC P w K mg base 15 "_law_glue" (PreD (fun i : Tb × Tb => gT i.1 ∧ gT i.2) (fun i => [pd (tbD i.1), pd (tbD i.2)]) (fun i => pd (tbD (lglue i.1 i.2)))) := by
  refine FnC.ofD Z.f_law_glue sc_law_glue (fun _ _ _ _ _ _ us hl => match us, hl with | [_, _], _ => rfl) (fun _ => rfl) (fun cdv A outer s H E hr i hi => ?_)
  obtain ⟨t, u⟩ := i
  obtain ⟨ht, hu⟩ : gT t ∧ gT u := hi
  have ht2 := ht.2
  have hu2 := hu.2
  have hN : (t.length + 1) * (u.length + 1) ≤ 12 * 12 := Nat.mul_le_mul (by omega) (by omega)
  generalize hNN : (t.length + 1) * (u.length + 1) = N at hN
  refine dss_par2 2 3 (we_lstO (Rs := []) da_nil (Nat.zero_le _)) (DE.to (de_mul (de_add (de_lent (ds := shs t) Z.n_len (de_var (i := 0) rfl)) de_int) (de_add (de_lent (ds := shs u) Z.n_len (de_var (i := 1) rfl)) de_int) (.inl (by rw [List.length_map]; omega))) (w' := pi (N : Nat)) (by rw [List.length_map, List.length_map, ← hNN, Int.natCast_mul]; rfl)) sc_law_glue.nd (fun w1 w2 hw1 hw2 => ?_) (Nat.zero_le _)
  obtain ⟨p, rfl⟩ := hw1
  subst hw2
  have en : (((N : Nat) : Int) + 1 - 2).toNat = N - 1 := by omega
  have eG : ∀ i, i < N - 1 → (lglue t u).take (i + 1) = (lglue t u).take i ++ [fill (ent u (press t (List.replicate (i + 2) .o)).length) (press t (List.replicate (i + 2) .o))] := fun i hi => by
    rw [List.take_succ]
    congr 1
    unfold lglue from2
    rw [hNN, List.getElem?_map, List.getElem?_map, List.getElem?_range hi]
    rfl
  have eL : (lglue t u).length = N - 1 := by unfold lglue from2; rw [hNN, List.length_map, List.length_map, List.length_range]
  refine dss_cons (S1 := [pd (tbD t), pd (tbD u), .own (lstO p (shR (lglue t u))), pi (N : Nat), .no, .no]) (ds_forS (fun i => [pd (tbD t), pd (tbD u), .own (lstO p (shR ((lglue t u).take i))), pi (N : Nat), .no, .no])
    (di_range2 Z.n_range de_int (de_add (de_var (i := 3) rfl) de_int) (by omega) (by omega)) (fun i R hR => ?_) (by rw [nums_len, en, List.take_of_length_le (by omega)])) ?_
  · obtain ⟨hi, rfl⟩ := nums_of2 hR
    rw [en] at hi
    have hrep : (List.replicate (((i + 2 : Nat) : Int)).toNat ([.tuple []] : List PyData)).flatten = shs (List.replicate (i + 2) .o) := by rw [Int.toNat_natCast]; exact rep_o (i + 2)
    have hpl : (press t (List.replicate (i + 2) .o)).length = cl (i + 2) (t.length + 1) := by rw [press_len, List.length_replicate]
    have h1 : 1 ≤ cl (i + 2) (t.length + 1) := cl_pos (by omega) (by omega)
    have h2 : cl (i + 2) (t.length + 1) ≤ u.length + 1 := by
      have : cl (i + 2) (t.length + 1) ≤ cl ((u.length + 1) * (t.length + 1)) (t.length + 1) := cl_mono (by rw [Nat.mul_comm]; omega)
      rw [cl_mul (by omega)] at this
      exact this
    rw [eG i hi]
    generalize hrow : press t (List.replicate (i + 2) .o) = row at hpl
    refine ⟨_, dg_name 4 sc_law_glue.nd, .inl (dss_forget 4 (S' := _) (dss_forget 5 (S' := [pd (tbD t), pd (tbD u), .own (lstO p (shR ((lglue t u).take i ++ [fill (ent u row.length) row]))), pi (N : Nat), pi ((i + 2 : Nat) : Int), pl (shs row)]) ?_))⟩
    refine dss_cons (S1 := [pd (tbD t), pd (tbD u), .own (lstO p (shR ((lglue t u).take i))), pi (N : Nat), pi ((i + 2 : Nat) : Int), pl (shs row)]) (ds_set 5 (DE.to (we_call (c_law_pressed Z) hr (da2 (de_var (i := 0) rfl) (DE.to (de_rep (ds := [.tuple []]) (de_lst1 de_tup0) (de_var (i := 4) rfl) (by omega) (by rw [Int.toNat_natCast]; show 1 * (i + 2) ≤ _; exact few2 (by omega))) (congrArg pl hrep))) ⟨(t, List.replicate (i + 2) .o), ⟨ht, by rw [List.length_replicate]; omega⟩, rfl, rfl, rfl⟩) (congrArg (fun r => pl (shs r)) hrow)) sc_law_glue.nd) ?_
    exact dss_one (ds_append (R := py (shD (fill (ent u row.length) row))) 2 (we_call (c_law_filled Z 11 (by omega)) (hr.mono (by omega)) (da2 (we_call (c_law_entry Z) (hr.mono (by omega)) (da2 (de_var (i := 1) rfl) (DE.to (de_len Z.n_len (de_var (i := 5) rfl)) (by rw [List.length_map]))) ⟨(u, row.length), ⟨by show 1 ≤ row.length; omega, by show row.length ≤ u.length + 1; omega⟩, rfl, rfl, rfl⟩) (de_var (i := 5) rfl)) ⟨(ent u row.length, row), ⟨gT_ht hu (by omega) (by omega), by show (ent u row.length).size ≤ row.length; rw [gT_ent hu (by omega) (by omega)]; omega⟩, rfl, rfl, rfl⟩) rfl rfl (few (by rw [List.length_map, List.length_take]; omega)) (by show _ = [_, _, Slot.own (lstO p (((lglue t u).take i ++ _).map fun s => py (shD s))), _, _, _]; rw [List.map_append]; rfl))
  · refine dss_freeze (i := 2) rfl (dss_one (ds_ret 0 (de_tupleL Z.n_tuple (DE.to (de_var (i := 2) rfl) (by show Slot.dat (lstR ((lglue t u).map fun s => py (shD s))) = Slot.dat (lstR (((lglue t u).map shD).map py)); rw [List.map_map]; rfl)))))
end
end Lh
end
section
set_option Elab.async false
set_option linter.all false
set_option maxRecDepth 100000
set_option maxHeartbeats 4000000
namespace Lh
open PySem PySem.Spec PyProof.Rows L2
section
variable {X : Cx} {S S1 S2 S3 : List Slot} {a b c e : Expr} {pos : Pos}
theorem de_neg {i : Int} (h : DE X a S (pi i) S1) : DE X (.UnaryOp .USub a pos) S (pi (-i)) S1 :=
  ⟨h.1, fun Fr F σ H Q hl sat c => (pe_un un_neg pE).w (h.2 Fr F σ H _ hl sat fun w v F2 H2 kw e2 s2 => by
    subst kw
    have q := s2.hd
    cases q
    exact ⟨_, rfl, c _ _ F2 H2 rfl e2 (s2.tail.dat (.int _))⟩)⟩
end
section
variable {X : Cx} {S S1 S2 S3 : List Slot} {a b c e : Expr} {pos p0 : Pos}
variable {α : Type} {xs : List α} {g : α → Rel} {ys : α → List PyData} {it it1 elt : Expr} {scope : Scope} {own : List (Str × Nat)}
variable {cpos tpos tpos1 : Pos} {cx cx1 : Str}
theorem de_lc2 (j j1 : Nat) (hN : X.N.Nodup) (ok : BlkOk X.N X.env.scope scope own) (hi : DI X (.Name cx tpos) it S (xs.map g) S1) (hz : (xs.flatMap ys).length < sizeLine) (hj : j ∈ own.map (·.2)) (hj1 : j1 ∈ own.map (·.2)) (hjj : j ≠ j1) (hno : ∀ m ∈ own.map (·.2), S1[m]? = some .no)
    (hi1 : ∀ x, x ∈ xs → ∀ (s : Shared) (H : Hp) (C : Addr) (cl : List (Str × Addr)) (fp : List Addr), DI (bk X scope s H C cl fp) (.Name cx1 tpos1) it1 (S1.set j (.dat (g x))) ((ys x).map py) (S1.set j (.dat (g x))))
    (hE : ∀ x, x ∈ xs → ∀ y, y ∈ ys x → ∀ (s : Shared) (H : Hp) (C : Addr) (cl : List (Str × Addr)) (fp : List Addr), DE (bk X scope s H C cl fp) elt ((S1.set j (.dat (g x))).set j1 (pd y)) (pd y) ((S1.set j (.dat (g x))).set j1 (pd y)))
    (hc : X.calm = true := by rfl) (hjN : X.N[j]? = some cx := by rfl) (hjL : Loc (relS scope X.env.scope) cx := by exact Or.inl rfl) (hjf : (scope.names.lookup cx == some .cell) = true ∨ (relS scope X.env.scope).names.lookup cx = some .local := by first | exact .inl rfl | exact .inr rfl)
    (hjN1 : X.N[j1]? = some cx1 := by rfl) (hjL1 : Loc (relS scope X.env.scope) cx1 := by exact Or.inl rfl) (hjf1 : (scope.names.lookup cx1 == some .cell) = true ∨ (relS scope X.env.scope).names.lookup cx1 = some .local := by first | exact .inl rfl | exact .inr rfl)
    (hs : ∀ x, foldedSetIterable it X.env x = pure x := by intro _; rfl) (hs1 : ∀ env x, foldedSetIterable it1 env x = pure x := by intro _ _; rfl) :
    DE X (.ListComp elt [⟨.Name cx tpos, it, [], 0⟩, ⟨.Name cx1 tpos1, it1, [], 0⟩] scope cpos) S (pl (xs.flatMap ys)) S1 :=
  (we_lc2 j j1 hN ok hi hz hj hj1 hjj hno hi1 hE hc hjN hjL hjf hjN1 hjL1 hjf1 hs hs1).frz
end
theorem sIx_m1 (n d : Nat) : HT.sIx n d (some (-1)) = n - 1 := by
  show (if (-1 : Int) < 0 then ((-1 : Int) + (n : Int)).toNat else min (-1 : Int).toNat n) = _
  rw [if_pos (by decide)]
  omega
theorem cut_m1 {α : Type} (xs : List α) : cutG xs none (some (-1)) = xs.dropLast := by
  unfold cutG
  rw [HT.sIx_none, List.drop_zero, Nat.sub_zero, List.dropLast_eq_take, sIx_m1]
theorem cut_l1 {α : Type} (xs : List α) : cutG xs (some (-1)) none = xs.getLast?.toList := by
  unfold cutG
  rw [HT.sIx_none, sIx_m1]
  rcases List.eq_nil_or_concat xs with rfl | ⟨ys, y, rfl⟩
  · rfl
  · rw [List.concat_eq_append, List.length_append, List.length_singleton, Nat.add_sub_cancel, List.drop_left, List.getLast?_concat]
    rw [Nat.add_sub_cancel_left]
    rfl
section
variable {P : Program} {w : World} {K : PySem.W.Frag} {mg : Str → Option Value} {base : Heap}
theorem nums_of1 {n i : Nat} {R : Rel} (h : (nums 1 n)[i]? = some R) : i < n ∧ R = py (.int ((i + 1 : Nat) : Int)) := by
  obtain ⟨h1, h2⟩ := nums_of h
  refine ⟨h1, ?_⟩
  rw [h2]
  have e : (1 : Int) + (i : Int) = ((i + 1 : Nat) : Int) := by omega
  rw [e]
theorem flat_map {α β : Type} (f : α → β) (n : Nat) (l : List α) : (List.replicate n (l.map f)).flatten = ((List.replicate n l).flatten).map f := by
  rw [List.map_flatten, List.map_replicate]
theorem sc_shortest_round : FnScope ["row", "size"] ["row"] (defScope s_shortest_round) := ⟨rfl, rfl, rfl, by decide +kernel, rfl, by decide +kernel, by decide +kernel⟩
theorem lL_nice {ts : List Tb} (h : gL ts) : Nice 14 (.list (tbs ts)) := nice_list (nice_map fun t ht => gT_nice (h t ht))
theorem gL_flat {n : Nat} {l : List Tb} (h : gL l) : gL (List.replicate n l).flatten := fun t ht => by
  obtain ⟨l', h1, h2⟩ := List.mem_flatten.mp ht
  rw [(List.mem_replicate.mp h1).2] at h2
  exact h t h2
theorem gL_take {n : Nat} {l : List Tb} (h : gL l) : gL (l.take n) := fun t ht => h t (List.mem_of_mem_take ht)
theorem gL_drop {n : Nat} {l : List Tb} (h : gL l) : gL (l.drop n) := fun t ht => h t (List.mem_of_mem_drop ht)
theorem gL_app {a b : List Tb} (h : gL a) (h2 : gL b) : gL (a ++ b) := fun t ht => (List.mem_append.mp ht).elim (h t) (h2 t)
theorem ls_eqv (s t : List Tb) : PyData.eqv (.list (tbs s)) (.list (tbs t)) = decide (s = t) := eqv_list tb_eqv s t
theorem c_shortest (Z : Pg K mg) : FnC P w K mg base 1 "shortest_round" (PreD (fun row : List Tb => gL row ∧ row.length ≤ 1000) (fun row => [pl (tbs row)]) (fun row => pl (tbs (srd row)))) := by
  refine FnC.ofD Z.f_shortest_round sc_shortest_round (fun _ _ _ _ _ _ us hl => match us, hl with | [_], _ => rfl) (fun _ => rfl) (fun cdv A outer s H E hr row hi => ?_)
  obtain ⟨hg, hlen⟩ : gL row ∧ row.length ≤ 1000 := hi
  have en : (((row.length : Nat) : Int) - 1).toNat = row.length - 1 := by omega
  have hb : ∀ i : Nat, -(2 ^ 63) ≤ ((row.length / (i + 1) : Nat) : Int) ∧ ((row.length / (i + 1) : Nat) : Int) < 2 ^ 63 := fun i => by
    have h := Nat.div_le_self row.length (i + 1)
    generalize row.length / (i + 1) = q at h ⊢
    omega
  have hmod : ∀ (i : Nat), (((row.length : Nat) : Int) % ((i + 1 : Nat) : Int) = 0) ↔ (row.length % (i + 1) = 0) := fun i => by omega
  have hdiv : ∀ (i : Nat), ((row.length : Nat) : Int) / ((i + 1 : Nat) : Int) = ((row.length / (i + 1) : Nat) : Int) := fun i => (Int.natCast_ediv _ _).symm
  have hlist : ∀ (i : Nat), row.length % (i + 1) = 0 → (tbs (row.take (i + 1))).length * (row.length / (i + 1)) ≤ sizeLine := fun i h => by
    rw [List.length_map, List.length_take]
    have h1 : min (i + 1) row.length * (row.length / (i + 1)) ≤ (i + 1) * (row.length / (i + 1)) := Nat.mul_le_mul_right _ (Nat.min_le_left _ _)
    have h2 := Nat.mul_div_le row.length (i + 1)
    exact few2 (by omega)
  have ecut : ∀ i : Nat, cutG (tbs row) none (some ((i + 1 : Nat) : Int)) = tbs (row.take (i + 1)) := fun i => by rw [cut_to]; exact List.map_take.symm
  rcases least (fun i => !isRound row (i + 1)) (row.length - 1) with ⟨n0, h1, h2, h3⟩ | hall
  · have e : srd row = row.take (n0 + 1) := by
      unfold srd
      have : ((List.range (row.length - 1)).map (· + 1)).find? (isRound row) = some (n0 + 1) := by
        rw [List.find?_map]
        have h4 : (List.range (row.length - 1)).find? (isRound row ∘ (· + 1)) = some n0 := by
          rw [List.find?_range_eq_some]
          refine ⟨by simpa using h2, List.mem_range.mpr h1, fun j hj => ?_⟩
          exact h3 j hj
        rw [h4]
        rfl
      rw [this]
    rw [e]
    have hT : isRound row (n0 + 1) = true := by simpa using h2
    obtain ⟨t1, t2⟩ := Bool.and_eq_true_iff.mp hT
    have t1 := of_decide_eq_true t1
    refine dss_rt (ds_for_rt (S' := []) n0 (fun _ => [pl (tbs row), .no]) (di_range2 Z.n_range de_int (de_len Z.n_len (de_var (i := 0) rfl)) (by omega) (by rw [List.length_map]; omega)) (fun i R hi0 hR => ?_) (by rw [nums_len, List.length_map, en]; exact h1) (fun R hR => ?_))
    · rw [List.length_map, en] at hR
      obtain ⟨hi, rfl⟩ := nums_of1 hR
      exact ⟨_, dg_name 1 sc_shortest_round.nd, .inl (dss_forget 1 (S' := [pl (tbs row), pi ((i + 1 : Nat) : Int)]) (dss_one (by
        have hF : isRound row (i + 1) = false := by simpa using h3 i hi0
        by_cases t1 : row.length % (i + 1) = 0
        · have t2 : decide (row = (List.replicate (row.length / (i + 1)) (row.take (i + 1))).flatten) = false := by
            unfold isRound at hF
            rw [decide_eq_true t1, Bool.true_and] at hF
            exact hF
          exact ds_ifF (DW.t (dw_andT (DT.t (dt_eqI (de_mod (de_len Z.n_len (de_var (i := 0) rfl)) (de_var (i := 1) rfl) (by omega)) de_int) (decide_eq_true (by rw [List.length_map]; exact (hmod i).mpr t1)))
            (dw_and1 (DT.f (dt_eqD (d' := .list (tbs (List.replicate (row.length / (i + 1)) (row.take (i + 1))).flatten)) hr (DE.conv (de_var (i := 0) rfl) lst_py) (DE.conv (DE.to (de_rep (DE.to (de_sl (de_var (i := 0) rfl) dp_no (dp_int (de_var (i := 1) rfl))) (congrArg pl (ecut i))) (DE.to (de_fdiv (de_len Z.n_len (de_var (i := 0) rfl)) (de_var (i := 1) rfl) ⟨by omega, by omega⟩) (by rw [List.length_map, hdiv i])) (hb i) (by rw [Int.toNat_natCast]; exact hlist i t1)) (by rw [Int.toNat_natCast]; exact congrArg pl (flat_map tbD _ _))) lst_py)
              (lL_nice hg).shaped (lL_nice (gL_flat (gL_take hg))).shaped (ls_eqv _ _)) t2)))) dss_nil
        · exact ds_ifF (DW.t (dw_andF (DT.f (dt_eqI (de_mod (de_len Z.n_len (de_var (i := 0) rfl)) (de_var (i := 1) rfl) (by omega)) de_int) (decide_eq_false (by rw [List.length_map]; exact fun z => t1 ((hmod i).mp z)))))) dss_nil)))⟩
    · rw [List.length_map, en] at hR
      obtain ⟨hi, rfl⟩ := nums_of1 hR
      refine ⟨_, dg_name 1 sc_shortest_round.nd, dss_one (ds_ifT (DW.t (dw_andT (DT.t (dt_eqI (de_mod (de_len Z.n_len (de_var (i := 0) rfl)) (de_var (i := 1) rfl) (by omega)) de_int) (decide_eq_true (by rw [List.length_map]; exact (hmod n0).mpr t1)))
        (dw_and1 (DT.t (dt_eqD (d' := .list (tbs (List.replicate (row.length / (n0 + 1)) (row.take (n0 + 1))).flatten)) hr (DE.conv (de_var (i := 0) rfl) lst_py) (DE.conv (DE.to (de_rep (DE.to (de_sl (de_var (i := 0) rfl) dp_no (dp_int (de_var (i := 1) rfl))) (congrArg pl (ecut n0))) (DE.to (de_fdiv (de_len Z.n_len (de_var (i := 0) rfl)) (de_var (i := 1) rfl) ⟨by omega, by omega⟩) (by rw [List.length_map, hdiv n0])) (hb n0) (by rw [Int.toNat_natCast]; exact hlist n0 t1)) (by rw [Int.toNat_natCast]; exact congrArg pl (flat_map tbD _ _))) lst_py)
          (lL_nice hg).shaped (lL_nice (gL_flat (gL_take hg))).shaped (ls_eqv _ _)) t2)))) (dss_one (ds_ret 0 (DE.to (de_sl (de_var (i := 0) rfl) dp_no (dp_int (de_var (i := 1) rfl))) (congrArg pl (ecut n0))))))⟩
  · have e : srd row = row := by
      unfold srd
      have : ((List.range (row.length - 1)).map (· + 1)).find? (isRound row) = none := by
        rw [List.find?_eq_none]
        intro x hx
        obtain ⟨k, hk, rfl⟩ := List.mem_map.mp hx
        have := hall k (List.mem_range.mp hk)
        simpa using this
      rw [this]
    rw [e]
    refine dss_cons (S1 := [pl (tbs row), .no]) (ds_forS (fun _ => [pl (tbs row), .no]) (di_range2 Z.n_range de_int (de_len Z.n_len (de_var (i := 0) rfl)) (by omega) (by rw [List.length_map]; omega)) (fun i R hR => ?_) rfl) (dss_one (ds_ret 0 (de_var (i := 0) rfl)))
    rw [List.length_map, en] at hR
    obtain ⟨hi, rfl⟩ := nums_of1 hR
    exact ⟨_, dg_name 1 sc_shortest_round.nd, .inl (dss_forget 1 (S' := [pl (tbs row), pi ((i + 1 : Nat) : Int)]) (dss_one (by
        have hF : isRound row (i + 1) = false := by simpa using hall i hi
        by_cases t1 : row.length % (i + 1) = 0
        · have t2 : decide (row = (List.replicate (row.length / (i + 1)) (row.take (i + 1))).flatten) = false := by
            unfold isRound at hF
            rw [decide_eq_true t1, Bool.true_and] at hF
            exact hF
          exact ds_ifF (DW.t (dw_andT (DT.t (dt_eqI (de_mod (de_len Z.n_len (de_var (i := 0) rfl)) (de_var (i := 1) rfl) (by omega)) de_int) (decide_eq_true (by rw [List.length_map]; exact (hmod i).mpr t1)))
            (dw_and1 (DT.f (dt_eqD (d' := .list (tbs (List.replicate (row.length / (i + 1)) (row.take (i + 1))).flatten)) hr (DE.conv (de_var (i := 0) rfl) lst_py) (DE.conv (DE.to (de_rep (DE.to (de_sl (de_var (i := 0) rfl) dp_no (dp_int (de_var (i := 1) rfl))) (congrArg pl (ecut i))) (DE.to (de_fdiv (de_len Z.n_len (de_var (i := 0) rfl)) (de_var (i := 1) rfl) ⟨by omega, by omega⟩) (by rw [List.length_map, hdiv i])) (hb i) (by rw [Int.toNat_natCast]; exact hlist i t1)) (by rw [Int.toNat_natCast]; exact congrArg pl (flat_map tbD _ _))) lst_py)
              (lL_nice hg).shaped (lL_nice (gL_flat (gL_take hg))).shaped (ls_eqv _ _)) t2)))) dss_nil
        · exact ds_ifF (DW.t (dw_andF (DT.f (dt_eqI (de_mod (de_len Z.n_len (de_var (i := 0) rfl)) (de_var (i := 1) rfl) (by omega)) de_int) (decide_eq_false (by rw [List.length_map]; exact fun z => t1 ((hmod i).mp z)))))) dss_nil)))⟩
/-! plain -/
def stR (p : Pl) : Pl := ⟨p.ts.dropLast, p.rd.getLast?.toList ++ p.rd.dropLast⟩
def itR (p : Pl) : Nat → Pl
  | 0 => p
  | k + 1 => stR (itR p k)
def cR (p : Pl) : Bool := decide (p.ts ≠ [] ∧ p.ts.getLast? = p.rd.getLast?)
theorem itR_succ (p : Pl) : ∀ k, itR (stR p) k = itR p (k + 1)
  | 0 => rfl
  | k + 1 => by
    show stR (itR (stR p) k) = stR (itR p (k + 1))
    rw [itR_succ p k]
theorem rot_steps : ∀ (n : Nat) (f r : List Tb), f.length ≤ n → ∃ J, J ≤ n ∧ rotF n f r = itR ⟨f, r⟩ J ∧ (∀ i, i < J → cR (itR ⟨f, r⟩ i) = true) ∧ cR (itR ⟨f, r⟩ J) = false
  | 0, f, r, h => by
    have e : f = [] := List.length_eq_zero_iff.mp (by omega)
    subst e
    exact ⟨0, Nat.le_refl _, rfl, fun i hi => by omega, decide_eq_false (fun z => z.1 rfl)⟩
  | n + 1, f, r, h => by
    unfold rotF
    by_cases hc : f ≠ [] ∧ f.getLast? = r.getLast?
    · rw [if_pos hc]
      obtain ⟨J, h0, h1, h2, h3⟩ := rot_steps n f.dropLast (r.getLast?.toList ++ r.dropLast) (by rw [List.length_dropLast]; omega)
      have es : (Pl.mk f.dropLast (r.getLast?.toList ++ r.dropLast)) = stR ⟨f, r⟩ := rfl
      rw [es] at h1 h2 h3
      refine ⟨J + 1, by omega, by rw [h1, itR_succ], fun i hi => ?_, by rw [← itR_succ]; exact h3⟩
      cases i with
      | zero => exact decide_eq_true hc
      | succ i =>
        rw [← itR_succ]
        exact h2 i (by omega)
    · rw [if_neg hc]
      exact ⟨0, Nat.zero_le _, rfl, fun i hi => by omega, decide_eq_false hc⟩
theorem mem_dl {α : Type} {l : List α} {x : α} (h : x ∈ l.dropLast) : x ∈ l := by
  rw [List.dropLast_eq_take] at h
  exact List.mem_of_mem_take h
theorem rot_mem {r : List Tb} {t : Tb} (h : t ∈ r.getLast?.toList ++ r.dropLast) : t ∈ r := by
  rcases List.mem_append.mp h with h | h
  · rw [Option.mem_toList] at h
    exact List.mem_of_getLast? h
  · exact mem_dl h
theorem rot_len (r : List Tb) : (r.getLast?.toList ++ r.dropLast).length = r.length := by
  rcases List.eq_nil_or_concat r with rfl | ⟨ys, y, rfl⟩
  · rfl
  · rw [List.concat_eq_append, List.getLast?_concat, List.dropLast_concat, List.length_append, List.length_append]
    show 1 + ys.length = ys.length + 1
    omega
theorem gP_it {p : Pl} (h : gP p.ts p.rd) : ∀ k, gP (itR p k).ts (itR p k).rd ∧ (itR p k).ts.length ≤ p.ts.length ∧ (itR p k).rd.length = p.rd.length
  | 0 => ⟨h, Nat.le_refl _, rfl⟩
  | k + 1 => by
    obtain ⟨⟨h1, h2, h3⟩, h4, h5⟩ := gP_it h k
    have e1 : (itR p (k + 1)).ts = (itR p k).ts.dropLast := rfl
    have e2 : (itR p (k + 1)).rd = (itR p k).rd.getLast?.toList ++ (itR p k).rd.dropLast := rfl
    rw [e1, e2]
    refine ⟨⟨fun t ht => h1 t (mem_dl ht), fun t ht => h2 t (rot_mem ht), fun z => ?_⟩, by rw [List.length_dropLast]; omega, by rw [rot_len]; exact h5⟩
    have := congrArg List.length z
    rw [rot_len] at this
    exact h3 (List.length_eq_zero_iff.mp this)
theorem gL_prims {ts : List Tb} (h : gL ts) : gL (prims ts) := fun t ht => by
  obtain ⟨x, h1, h2⟩ := List.mem_flatMap.mp ht
  exact gT_primes (h x h1) t h2
theorem primes_ne {t : Tb} (h : gT t) : primes t ≠ [] := by
  obtain ⟨n, e1, _⟩ := prime_steps t.length t h (Nat.le_refl _)
  unfold primes
  rw [e1]
  exact List.append_ne_nil_of_right_ne_nil _ (fun z => nomatch z)
theorem prims_ne {ts : List Tb} (h : gL ts) (hn : ts ≠ []) : prims ts ≠ [] := by
  cases ts with
  | nil => exact absurd rfl hn
  | cons t ts =>
    unfold prims
    rw [List.flatMap_cons]
    exact List.append_ne_nil_of_left_ne_nil (primes_ne (h t List.mem_cons_self)) _
theorem prims_len {ts : List Tb} (h : gL ts) : (prims ts).length ≤ 12 * ts.length := by
  induction ts with
  | nil => exact Nat.zero_le _
  | cons t ts ih =>
    unfold prims at ih ⊢
    rw [List.flatMap_cons, List.length_append, List.length_cons]
    have h1 := primes_few (h t List.mem_cons_self)
    have h2 := ih (fun x hx => h x (List.mem_cons_of_mem _ hx))
    omega
theorem srd_pre {row : List Tb} : ∃ n, srd row = row.take n ∧ (row ≠ [] → 1 ≤ n) := by
  unfold srd
  cases q : ((List.range (row.length - 1)).map (· + 1)).find? (isRound row) with
  | none =>
    refine ⟨row.length, by rw [List.take_length], fun h => ?_⟩
    exact List.length_pos_iff.mpr h
  | some s =>
    have hs := List.mem_of_find?_eq_some q
    obtain ⟨k, _, rfl⟩ := List.mem_map.mp hs
    exact ⟨k + 1, rfl, fun _ => by omega⟩
theorem gP_plain0 {p : Pl} (h : gP p.ts p.rd) : gP (prims p.ts) (srd (prims p.rd)) := by
  obtain ⟨h1, h2, h3⟩ := h
  obtain ⟨n, e, hn⟩ := srd_pre (row := prims p.rd)
  have h4 := prims_ne h2 h3
  rw [e]
  refine ⟨gL_prims h1, gL_take (gL_prims h2), fun z => ?_⟩
  rcases List.take_eq_nil_iff.mp z with z | z
  · have := hn h4
    omega
  · exact h4 z
theorem plain_J (p : Pl) : ∃ J, J ≤ (prims p.ts).length ∧ p.plain = itR ⟨prims p.ts, srd (prims p.rd)⟩ J ∧ (∀ i, i < J → cR (itR ⟨prims p.ts, srd (prims p.rd)⟩ i) = true) ∧ cR (itR ⟨prims p.ts, srd (prims p.rd)⟩ J) = false := rot_steps _ _ _ (Nat.le_refl _)
theorem gP_plain {p : Pl} (h : gP p.ts p.rd) : gP p.plain.ts p.plain.rd := by
  obtain ⟨J, _, e, _⟩ := plain_J p
  rw [e]
  exact (gP_it (p := ⟨prims p.ts, srd (prims p.rd)⟩) (gP_plain0 h) J).1
theorem sc_plain : FnScope ["plan", "first", "row", "table", "prime"] ["plan"] (defScope s_plain) := ⟨rfl, rfl, rfl, by decide +kernel, rfl, by decide +kernel, by decide +kernel⟩
theorem isT_ts {ts : List Tb} : IsT (py (tsD ts)) (ts.map fun t => py (tbD t)) := fun h => by
  have q := isT_py (ds := tbs ts) h
  rw [List.map_map] at q
  exact q
theorem flat_prims (ts : List Tb) : ts.flatMap (fun t => tbs (primes t)) = tbs (prims ts) := by
  show _ = (ts.flatMap primes).map tbD
  rw [List.map_flatMap]
abbrev prePl : Pre := PreD (fun p : Pl => gP p.ts p.rd ∧ p.ts.length ≤ 80 ∧ p.rd.length ≤ 80) (fun p => [plS p.ts p.rd]) (fun p => plS p.plain.ts p.plain.rd)
theorem c_plain (Z : Pg K mg) : FnC P w K mg base 69 "plain" prePl := by
  refine FnC.ofD Z.f_plain sc_plain (fun _ _ _ _ _ _ us hl => match us, hl with | [_], _ => rfl) (fun _ => rfl) (fun cdv A outer s H E hr pp hi => ?_)
  obtain ⟨hg, hl1, hl2⟩ : gP pp.ts pp.rd ∧ pp.ts.length ≤ 80 ∧ pp.rd.length ≤ 80 := hi
  have hg0 := gP_plain0 hg
  obtain ⟨J, hJ0, hJ1, hJ2, hJ3⟩ := plain_J pp
  have hp1 := prims_len hg.1
  have hp2 := prims_len hg.2.1
  have hsl : (srd (prims pp.rd)).length ≤ (prims pp.rd).length := by
    obtain ⟨n, e, _⟩ := srd_pre (row := prims pp.rd)
    rw [e, List.length_take]
    omega
  refine dss_setLc2 (own := [("table", 3), ("prime", 4)]) (xs := pp.ts) (g := fun t => py (tbD t)) (ys := fun t => tbs (primes t)) (S1 := [plS pp.ts pp.rd, .no, .no, .no, .no]) 1 3 4 sc_plain.nd
    (show BlkOk ["plan", "first", "row", "table", "prime"] (defScope s_plain) _ _ from ⟨rfl, by decide +kernel, by decide +kernel, by decide +kernel, by decide +kernel⟩)
    (di_tup (R := py (tsD pp.ts)) (we_meth0 Z (de_var (i := 0) rfl) Z.m_tables (c_tables Z) (hr.mono (by omega)) ⟨(py (tsD pp.ts), py (tsD pp.rd)), trivial, rfl, rfl, rfl⟩) isT_ts) (few (by rw [flat_prims, List.length_map]; omega)) (by decide) (by decide) (by decide) (no2 rfl rfl)
    (fun t ht s H C cl fp => di_lst (we_call (c_primes Z) hr (da1 (de_var (i := 3) rfl)) ⟨t, hg.1 t ht, rfl, rfl, rfl⟩) isQ_l)
    (fun t ht y hy s H C cl fp => de_var (i := 4) rfl) (fun p => ?_) (Nat.zero_le _)
  rw [flat_prims]
  refine dss_cons (S1 := [plS pp.ts pp.rd, .own (lstO p (tbR (prims pp.ts))), .no, .no, .no]) (ds_ifF (dt_val (de_isi (n := "str") (z := false) Z.n_isinstance (R := py (tsD pp.rd)) (we_meth0 Z (de_var (i := 0) rfl) Z.m_end (c_end Z) (hr.mono (by omega)) ⟨(py (tsD pp.ts), py (tsD pp.rd)), trivial, rfl, rfl, rfl⟩) ty_tup Z.n_str (by decide +kernel) (by decide +kernel))) dss_nil) ?_
  refine dss_cons (S1 := [plS pp.ts pp.rd, .own (lstO p (tbR (prims pp.ts))), pl (tbs (srd (prims pp.rd))), .no, .no]) (ds_set 2 (we_call (c_shortest Z) (hr.mono (by omega)) (da1 (DE.to (de_lc2 (own := [("table", 3), ("prime", 4)]) (xs := pp.rd) (g := fun t => py (tbD t)) (ys := fun t => tbs (primes t)) (S1 := [plS pp.ts pp.rd, .own (lstO p (tbR (prims pp.ts))), .no, .no, .no]) 3 4 sc_plain.nd
        (show BlkOk ["plan", "first", "row", "table", "prime"] (defScope s_plain) _ _ from ⟨rfl, by decide +kernel, by decide +kernel, by decide +kernel, by decide +kernel⟩)
        (di_tup (R := py (tsD pp.rd)) (we_meth0 Z (de_var (i := 0) rfl) Z.m_end (c_end Z) (hr.mono (by omega)) ⟨(py (tsD pp.ts), py (tsD pp.rd)), trivial, rfl, rfl, rfl⟩) isT_ts) (few (by rw [flat_prims, List.length_map]; omega)) (by decide) (by decide) (by decide) (no2 rfl rfl)
        (fun t ht s H C cl fp => di_lst (we_call (c_primes Z) hr (da1 (de_var (i := 3) rfl)) ⟨t, hg.2.1 t ht, rfl, rfl, rfl⟩) isQ_l)
        (fun t ht y hy s H C cl fp => de_var (i := 4) rfl)) (congrArg pl (flat_prims pp.rd)))) ⟨prims pp.rd, ⟨gL_prims hg.2.1, by omega⟩, rfl, rfl, rfl⟩) sc_plain.nd) ?_
  have hgi := fun k => gP_it (p := ⟨prims pp.ts, srd (prims pp.rd)⟩) hg0 k
  rw [hJ1]
  generalize hq : (Pl.mk (prims pp.ts) (srd (prims pp.rd))) = q at hJ2 hJ3 hgi
  have hq1 : q.ts = prims pp.ts := by rw [← hq]
  have hq2 : q.rd = srd (prims pp.rd) := by rw [← hq]
  have ecat : ∀ r : List Tb, cutG (tbs r) (some (-1)) none ++ cutG (tbs r) none (some (-1)) = tbs (r.getLast?.toList ++ r.dropLast) := fun r => by
    rw [cutG_map, cutG_map, cut_l1, cut_m1, ← List.map_append]
  have eneg : (-(1 : Int)) = -1 := rfl
  have eat : ∀ (l : List Tb) (x : Tb), atI (tbR (l ++ [x])) (-1) = some (py (tbD x)) := fun l x => atI_map (atI_map (atI_last l x))
  have eat2 : ∀ (l : List Tb) (x : Tb), atI (tbs (l ++ [x])) (-1) = some (tbD x) := fun l x => atI_map (atI_last l x)
  rw [← hq1, ← hq2]
  refine dss_cons (S1 := [plS pp.ts pp.rd, .own (lstO p (tbR (itR q J).ts)), pl (tbs (itR q J).rd), .no, .no]) (ds_while (Sf := [plS pp.ts pp.rd, .own (lstO p (tbR (itR q J).ts)), pl (tbs (itR q J).rd), .no, .no]) J (fun i => [plS pp.ts pp.rd, .own (lstO p (tbR (itR q i).ts)), pl (tbs (itR q i).rd), .no, .no]) (fun i hi => ?_) ?_) ?_
  · obtain ⟨⟨g1, g2, g3⟩, g4, g5⟩ := hgi i
    obtain ⟨c1, c2⟩ := of_decide_eq_true (hJ2 i hi)
    have en : itR q (i + 1) = stR (itR q i) := rfl
    rw [en]
    generalize itR q i = z at g1 g2 g3 g4 g5 c1 c2
    obtain ⟨f, r⟩ := z
    dsimp only at g1 g2 g3 g4 g5 c1 c2 ⊢
    rcases List.eq_nil_or_concat f with rfl | ⟨f', x, rfl⟩
    · exact absurd rfl c1
    · rcases List.eq_nil_or_concat r with rfl | ⟨r', y, rfl⟩
      · exact absurd rfl g3
      · rw [List.concat_eq_append] at *
        rw [List.concat_eq_append] at *
        rw [List.getLast?_concat, List.getLast?_concat] at c2
        have exy : x = y := Option.some.inj c2
        subst exy
        have e1 : tbR (f' ++ [x]) = tbR f' ++ [py (tbD x)] := by
          show ((f' ++ [x]).map tbD).map py = _
          rw [List.map_append, List.map_append]
          rfl
        have hx : gT x := g1 x (List.mem_append_right _ List.mem_cons_self)
        refine ⟨_, DW.t (dw_andT (DT.t (dt_truO (i := 1) rfl) (by rw [e1]; cases tbR f' <;> rfl)) (dw_and1 (DT.t (dt_eqD hr (de_ixO (i := 1) (R := py (tbD x)) rfl (de_neg de_int) (eat f' x)) (de_ix (d := tbD x) (de_var (i := 2) rfl) (de_neg de_int) (eat2 r' x)) (gT_nice hx).shaped (gT_nice hx).shaped (tb_eqv x x)) (decide_eq_true rfl)))), ?_⟩
        refine dss_cons (S1 := [plS pp.ts pp.rd, .own (lstO p (tbR (f' ++ [x]))), pl (tbs (stR ⟨f' ++ [x], r' ++ [x]⟩).rd), .no, .no]) (ds_set 2 (DE.to (de_cat (de_sl (de_var (i := 2) rfl) (dp_int (de_neg de_int)) dp_no) (de_sl (de_var (i := 2) rfl) dp_no (dp_int (de_neg de_int))) (few2 (by rw [← List.length_append, eneg, ecat, List.length_map, rot_len]; rw [g5, hq2]; omega))) (congrArg pl (ecat (r' ++ [x])))) sc_plain.nd) ?_
        have e2 : (stR ⟨f' ++ [x], r' ++ [x]⟩).ts = f' := List.dropLast_concat
        rw [e2, e1]
        exact dss_one (ds_expr (de_popO (i := 1) rfl))
  · obtain ⟨⟨g1, g2, g3⟩, g4, g5⟩ := hgi J
    have c0 := of_decide_eq_false hJ3
    generalize itR q J = z at g1 g2 g3 g4 g5 c0
    obtain ⟨f, r⟩ := z
    dsimp only at g1 g2 g3 g4 g5 c0 ⊢
    rcases List.eq_nil_or_concat f with rfl | ⟨f', x, rfl⟩
    · exact DW.t (dw_andF (DT.f (dt_truO (i := 1) rfl) rfl))
    · rcases List.eq_nil_or_concat r with rfl | ⟨r', y, rfl⟩
      · exact absurd rfl g3
      · rw [List.concat_eq_append] at *
        rw [List.concat_eq_append] at *
        have exy : ¬ x = y := fun z => c0 ⟨List.append_ne_nil_of_right_ne_nil _ (fun z => nomatch z), by rw [List.getLast?_concat, List.getLast?_concat, z]⟩
        have e1 : tbR (f' ++ [x]) = tbR f' ++ [py (tbD x)] := by
          show ((f' ++ [x]).map tbD).map py = _
          rw [List.map_append, List.map_append]
          rfl
        have hx : gT x := g1 x (List.mem_append_right _ List.mem_cons_self)
        have hy : gT y := g2 y (List.mem_append_right _ List.mem_cons_self)
        exact DW.t (dw_andT (DT.t (dt_truO (i := 1) rfl) (by rw [e1]; cases tbR f' <;> rfl)) (dw_and1 (DT.f (dt_eqD hr (de_ixO (i := 1) (R := py (tbD x)) rfl (de_neg de_int) (eat f' x)) (de_ix (d := tbD y) (de_var (i := 2) rfl) (de_neg de_int) (eat2 r' y)) (gT_nice hx).shaped (gT_nice hy).shaped (tb_eqv x y)) (decide_eq_false exy))))
  · have hgj := (hgi J).1
    refine dss_freeze (i := 1) rfl (dss_one (ds_ret 0 (de_plan Z (c_init Z) (hr.mono (by omega)) (de_tupleL (ds := tbs (itR q J).ts) Z.n_tuple (de_var (i := 1) rfl)) (de_tupleL (ds := tbs (itR q J).rd) Z.n_tuple (de_var (i := 2) rfl)) ⟨_, _, hgj, rfl, rfl⟩)))
theorem sc_are_alike : FnScope ["one", "other"] ["one", "other"] (defScope s_are_alike) := ⟨rfl, rfl, rfl, by decide +kernel, rfl, by decide +kernel, by decide +kernel⟩
/-- plans of the sizes met -/
abbrev sP (p : Pl) : Prop := gP p.ts p.rd ∧ p.ts.length ≤ 80 ∧ p.rd.length ≤ 80
theorem ccE_pl {p q : Pl} (h : gP p.ts p.rd) (h2 : gP q.ts q.rd) : ccE (py (tsD p.ts)) (py (tsD p.rd)) (py (tsD q.ts)) (py (tsD q.rd)) (decide (p = q)) :=
  ⟨p.ts, p.rd, q.ts, q.rd, h.1, h.2.1, h2.1, h2.2.1, rfl, rfl, rfl, rfl, decide_eq_decide.mpr (by
    obtain ⟨a, b⟩ := p
    obtain ⟨c, d⟩ := q
    simp only [Pl.mk.injEq])⟩
theorem c_are_alike (Z : Pg K mg) : FnC P w K mg base 70 "are_alike" (PreD (fun i : Pl × Pl => sP i.1 ∧ sP i.2) (fun i => [plS i.1.ts i.1.rd, plS i.2.ts i.2.rd]) (fun i => pb (decide (i.1.plain = i.2.plain)))) := by
  refine FnC.ofD Z.f_are_alike sc_are_alike (fun _ _ _ _ _ _ us hl => match us, hl with | [_, _], _ => rfl) (fun _ => rfl) (fun cdv A outer s H E hr i hi => ?_)
  obtain ⟨p, q⟩ := i
  obtain ⟨hp, hq⟩ : sP p ∧ sP q := hi
  exact dss_one (ds_ret 0 (de_eqP Z (c_eq Z) (hr.mono (by omega)) (we_call (c_plain Z) hr (da1 (de_var (i := 0) rfl)) ⟨p, hp, rfl, rfl, rfl⟩) (we_call (c_plain Z) hr (da1 (de_var (i := 1) rfl)) ⟨q, hq, rfl, rfl, rfl⟩) (ccE_pl (gP_plain hp.1) (gP_plain hq.1))))
end
end Lh
end
section
set_option Elab.async false
set_option linter.all false
set_option maxRecDepth 100000
set_option maxHeartbeats 4000000
namespace Lh
open PySem PySem.Spec PyProof.Rows L2
/-- n stages are alike, the next are not -/
structure Dif (p q : Pl) (n : Nat) : Prop where
  few : n ≤ 1000
  eq : ∀ i, i < n → p.st i = q.st i
  ne : p.st n ≠ q.st n
def lbh (p : Pl) (k : Nat) : Pl := if k ≤ p.ts.length then ⟨p.ts.drop k, p.rd⟩ else ⟨[], p.rd.drop ((k - p.ts.length) % p.rd.length) ++ p.rd.take ((k - p.ts.length) % p.rd.length)⟩
theorem gP_lbh {p : Pl} (h : gP p.ts p.rd) (k : Nat) : gP (lbh p k).ts (lbh p k).rd := by
  obtain ⟨h1, h2, h3⟩ := h
  unfold lbh
  by_cases hk : k ≤ p.ts.length
  · rw [if_pos hk]
    exact ⟨gL_drop h1, h2, h3⟩
  · rw [if_neg hk]
    refine ⟨(fun t ht => by cases ht), gL_app (gL_drop h2) (gL_take h2), fun z => h3 ?_⟩
    have e := congrArg List.length z
    rw [List.length_append, List.length_drop, List.length_take, List.length_nil] at e
    exact List.length_eq_zero_iff.mp (by omega)
def prodF (p : Pl) : Nat → Nat
  | 0 => 1
  | n + 1 => prodF p n * ((p.st n).length + 1)
/-- shapes: alike up to m, not at m -/
structure Unl (p q : Pl) (m : Nat) : Prop where
  lo : 2 ≤ m
  hi : m ≤ 50
  eq : ∀ i, 2 ≤ i → i < m → shp p.st i = shp q.st i
  ne : shp p.st m ≠ shp q.st m
section
variable {P : Program} {w : World} {K : PySem.W.Frag} {mg : Str → Option Value} {base : Heap}
theorem sc_common_beginning : FnScope ["one", "other", "first", "second", "found"] ["one", "other"] (defScope s_common_beginning) := ⟨rfl, rfl, rfl, by decide +kernel, rfl, by decide +kernel, by decide +kernel⟩
theorem c_common (Z : Pg K mg) : FnC P w K mg base 70 "common_beginning" (PreD (fun i : Pl × Pl × Nat => sP i.1 ∧ sP i.2.1 ∧ Dif i.1.plain i.2.1.plain i.2.2) (fun i => [plS i.1.ts i.1.rd, plS i.2.1.ts i.2.1.rd]) (fun i => pl (tbs ((List.range i.2.2).map i.1.plain.st)))) := by
  refine FnC.ofD Z.f_common_beginning sc_common_beginning (fun _ _ _ _ _ _ us hl => match us, hl with | [_, _], _ => rfl) (fun _ => rfl) (fun cdv A outer s H E hr i hi => ?_)
  obtain ⟨p, q, n⟩ := i
  obtain ⟨hp, hq, hd⟩ : sP p ∧ sP q ∧ Dif p.plain q.plain n := hi
  have gp := gP_plain hp.1
  have gq := gP_plain hq.1
  have hne : ¬ p.plain = q.plain := fun z => hd.ne (by rw [z])
  have hfew := hd.few
  show DSs _ _ [plS p.ts p.rd, plS q.ts q.rd, .no, .no, .no] (.rt (fun w => w = pl (tbs ((List.range n).map p.plain.st))) [])
  refine dss_cons (S1 := [plS p.ts p.rd, plS q.ts q.rd, plS p.plain.ts p.plain.rd, plS q.plain.ts q.plain.rd, .no]) (ds_par 2 3 (da2 (we_call (c_plain Z) hr (da1 (de_var (i := 0) rfl)) ⟨p, hp, rfl, rfl, rfl⟩) (we_call (c_plain Z) hr (da1 (de_var (i := 1) rfl)) ⟨q, hq, rfl, rfl, rfl⟩)) sc_common_beginning.nd) ?_
  refine dss_cons (S1 := [plS p.ts p.rd, plS q.ts q.rd, plS p.plain.ts p.plain.rd, plS q.plain.ts q.plain.rd, .no]) (ds_ifF (DW.t (dw_andF (DT.f (dt_eqP Z (c_eq Z) (hr.mono (by omega)) (de_var (i := 2) rfl) (de_var (i := 3) rfl) (ccE_pl gp gq)) (decide_eq_false hne)))) dss_nil) ?_
  refine dss_new 4 (we_lstO (Rs := []) da_nil (Nat.zero_le _)) sc_common_beginning.nd (fun w hw => ?_) (Nat.zero_le _)
  obtain ⟨l, rfl⟩ := hw
  have hlen : ∀ i, (tbR ((List.range i).map p.plain.st)).length = i := fun i => by rw [List.length_map, List.length_map, List.length_map, List.length_range]
  refine dss_cons (S1 := [plS p.ts p.rd, plS q.ts q.rd, plS p.plain.ts p.plain.rd, plS q.plain.ts q.plain.rd, .own (lstO l (tbR ((List.range n).map p.plain.st)))]) (ds_while (Sf := [plS p.ts p.rd, plS q.ts q.rd, plS p.plain.ts p.plain.rd, plS q.plain.ts q.plain.rd, .own (lstO l (tbR ((List.range n).map p.plain.st)))]) n (fun i => [plS p.ts p.rd, plS q.ts q.rd, plS p.plain.ts p.plain.rd, plS q.plain.ts q.plain.rd, .own (lstO l (tbR ((List.range i).map p.plain.st)))]) (fun i hi => ?_) ?_) ?_
  · refine ⟨_, DW.t (dw_andT (dt_notN (R := py (tbD (p.plain.st i))) (z := true) (we_meth1 (m := "stage") Z (de_var (i := 2) rfl) (DE.to (de_lenO (i := 4) Z.n_len rfl) (by rw [hlen])) Z.m_stage (c_stage Z) (hr.mono (by omega)) ⟨(p.plain, i), gp, rfl, rfl, rfl⟩) non_tup)
      (dw_and1 (DT.t (dt_eqD hr (we_meth1 (m := "stage") Z (de_var (i := 2) rfl) (DE.to (de_lenO (i := 4) Z.n_len rfl) (by rw [hlen])) Z.m_stage (c_stage Z) (hr.mono (by omega)) ⟨(p.plain, i), gp, rfl, rfl, rfl⟩) (we_meth1 (m := "stage") Z (de_var (i := 3) rfl) (DE.to (de_lenO (i := 4) Z.n_len rfl) (by rw [hlen])) Z.m_stage (c_stage Z) (hr.mono (by omega)) ⟨(q.plain, i), gq, rfl, rfl, rfl⟩)
        (gT_nice (gP_st gp i)).shaped (gT_nice (gP_st gq i)).shaped (tb_eqv _ _)) (decide_eq_true (hd.eq i hi))))), ?_⟩
    have e : tbR ((List.range (i + 1)).map p.plain.st) = tbR ((List.range i).map p.plain.st) ++ [py (tbD (p.plain.st i))] := by
      rw [List.range_succ]
      show (((List.range i ++ [i]).map p.plain.st).map tbD).map py = _
      rw [List.map_append, List.map_append, List.map_append]
      rfl
    exact dss_one (ds_append (R := py (tbD (p.plain.st i))) 4 (we_meth1 (m := "stage") Z (de_var (i := 2) rfl) (DE.to (de_lenO (i := 4) Z.n_len rfl) (by rw [hlen])) Z.m_stage (c_stage Z) (hr.mono (by omega)) ⟨(p.plain, i), gp, rfl, rfl, rfl⟩) rfl rfl (few (by rw [hlen]; omega)) (by rw [e]; rfl))
  · exact DW.t (dw_andT (dt_notN (R := py (tbD (p.plain.st n))) (z := true) (we_meth1 (m := "stage") Z (de_var (i := 2) rfl) (DE.to (de_lenO (i := 4) Z.n_len rfl) (by rw [hlen])) Z.m_stage (c_stage Z) (hr.mono (by omega)) ⟨(p.plain, n), gp, rfl, rfl, rfl⟩) non_tup)
      (dw_and1 (DT.f (dt_eqD hr (we_meth1 (m := "stage") Z (de_var (i := 2) rfl) (DE.to (de_lenO (i := 4) Z.n_len rfl) (by rw [hlen])) Z.m_stage (c_stage Z) (hr.mono (by omega)) ⟨(p.plain, n), gp, rfl, rfl, rfl⟩) (we_meth1 (m := "stage") Z (de_var (i := 3) rfl) (DE.to (de_lenO (i := 4) Z.n_len rfl) (by rw [hlen])) Z.m_stage (c_stage Z) (hr.mono (by omega)) ⟨(q.plain, n), gq, rfl, rfl, rfl⟩)
        (gT_nice (gP_st gp n)).shaped (gT_nice (gP_st gq n)).shaped (tb_eqv _ _)) (decide_eq_false hd.ne))))
  · exact dss_freeze (i := 4) rfl (dss_one (ds_ret 0 (de_var (i := 4) rfl)))
theorem sc_left_behind : FnScope ["form", "k", "many", "turned"] ["form", "k"] (defScope s_left_behind) := ⟨rfl, rfl, rfl, by decide +kernel, rfl, by decide +kernel, by decide +kernel⟩
theorem c_left_behind (Z : Pg K mg) : FnC P w K mg base 18 "left_behind" (PreD (fun i : Pl × Nat => gP i.1.ts i.1.rd ∧ i.1.rd.length ≤ 10000) (fun i => [plS i.1.ts i.1.rd, pi (i.2 : Nat)]) (fun i => plS (lbh i.1 i.2).ts (lbh i.1 i.2).rd)) := by
  refine FnC.ofD Z.f_left_behind sc_left_behind (fun _ _ _ _ _ _ us hl => match us, hl with | [_, _], _ => rfl) (fun _ => rfl) (fun cdv A outer s H E hr i hi => ?_)
  obtain ⟨p, k⟩ := i
  obtain ⟨hg, hl⟩ : gP p.ts p.rd ∧ p.rd.length ≤ 10000 := hi
  obtain ⟨h1, h2, h3⟩ := id hg
  have hrd : 0 < p.rd.length := List.length_pos_iff.mpr h3
  have hgl := gP_lbh hg k
  show DSs _ _ [plS p.ts p.rd, pi (k : Nat), .no, .no] (.rt (fun w => w = plS (lbh p k).ts (lbh p k).rd) [])
  refine dss_cons (S1 := [plS p.ts p.rd, pi (k : Nat), pi (p.ts.length : Nat), .no]) (ds_set 2 (DE.to (de_lent (ds := tbs p.ts) Z.n_len (we_meth0 Z (de_var (i := 0) rfl) Z.m_tables (c_tables Z) (hr.mono (by omega)) ⟨(py (tsD p.ts), py (tsD p.rd)), trivial, rfl, rfl, rfl⟩)) (by rw [List.length_map])) sc_left_behind.nd) ?_
  by_cases hk : k ≤ p.ts.length
  · have e : lbh p k = ⟨p.ts.drop k, p.rd⟩ := by unfold lbh; rw [if_pos hk]
    rw [e] at hgl ⊢
    have ec : cutG (tbs p.ts) (some ((k : Nat) : Int)) none = tbs (p.ts.drop k) := by rw [cut_from]; exact List.map_drop.symm
    exact dss_rt (ds_ifT (DT.t (dt_le (de_var (i := 1) rfl) (de_var (i := 2) rfl)) (decide_eq_true (by omega))) (dss_one (ds_ret 0 (de_plan Z (c_init Z) (hr.mono (by omega)) (DE.to (de_slt (ds := tbs p.ts) (we_meth0 Z (de_var (i := 0) rfl) Z.m_tables (c_tables Z) (hr.mono (by omega)) ⟨(py (tsD p.ts), py (tsD p.rd)), trivial, rfl, rfl, rfl⟩) (dp_int (de_var (i := 1) rfl)) dp_no) (congrArg (fun z => pd (.tuple z)) ec))
      (we_meth0 Z (de_var (i := 0) rfl) Z.m_end (c_end Z) (hr.mono (by omega)) ⟨(py (tsD p.ts), py (tsD p.rd)), trivial, rfl, rfl, rfl⟩) ⟨_, _, hgl, rfl, rfl⟩))))
  · have hj : (k - p.ts.length) % p.rd.length < p.rd.length := Nat.mod_lt _ hrd
    have e : lbh p k = ⟨[], p.rd.drop ((k - p.ts.length) % p.rd.length) ++ p.rd.take ((k - p.ts.length) % p.rd.length)⟩ := by unfold lbh; rw [if_neg hk]
    rw [e] at hgl ⊢
    have ei : (((k : Nat) : Int) - (p.ts.length : Nat)) % ((tbs p.rd).length : Nat) = (((k - p.ts.length) % p.rd.length : Nat) : Int) := by
      rw [List.length_map, show ((k : Nat) : Int) - (p.ts.length : Nat) = ((k - p.ts.length : Nat) : Int) by omega]
      exact (Int.natCast_emod _ _).symm
    generalize (k - p.ts.length) % p.rd.length = t at hj hgl ei ⊢
    have ec : cutG (tbs p.rd) (some ((t : Nat) : Int)) none ++ cutG (tbs p.rd) none (some ((t : Nat) : Int)) = tbs (p.rd.drop t ++ p.rd.take t) := by
      rw [cut_from, cut_to]
      show _ = (p.rd.drop t ++ p.rd.take t).map tbD
      rw [List.map_append, List.map_drop, List.map_take]
    refine dss_cons (S1 := [plS p.ts p.rd, pi (k : Nat), pi (p.ts.length : Nat), .no]) (ds_ifF (DT.f (dt_le (de_var (i := 1) rfl) (de_var (i := 2) rfl)) (decide_eq_false (by omega))) dss_nil) ?_
    refine dss_cons (S1 := [plS p.ts p.rd, pi (k : Nat), pi (p.ts.length : Nat), pi (t : Nat)]) (ds_set 3 (DE.to (de_mod (de_sub (de_var (i := 1) rfl) (de_var (i := 2) rfl)) (de_lent (ds := tbs p.rd) Z.n_len (we_meth0 Z (de_var (i := 0) rfl) Z.m_end (c_end Z) (hr.mono (by omega)) ⟨(py (tsD p.ts), py (tsD p.rd)), trivial, rfl, rfl, rfl⟩)) (by rw [List.length_map]; omega)) (by rw [ei])) sc_left_behind.nd) ?_
    exact dss_one (ds_ret 0 (de_plan (R1 := py (tsD [])) Z (c_init Z) (hr.mono (by omega)) de_tup0 (DE.to (de_catt (de_slt (ds := tbs p.rd) (we_meth0 Z (de_var (i := 0) rfl) Z.m_end (c_end Z) (hr.mono (by omega)) ⟨(py (tsD p.ts), py (tsD p.rd)), trivial, rfl, rfl, rfl⟩) (dp_int (de_var (i := 3) rfl)) dp_no) (de_slt (ds := tbs p.rd) (we_meth0 Z (de_var (i := 0) rfl) Z.m_end (c_end Z) (hr.mono (by omega)) ⟨(py (tsD p.ts), py (tsD p.rd)), trivial, rfl, rfl, rfl⟩) dp_no (dp_int (de_var (i := 3) rfl)))
      (few2 (by rw [← List.length_append, ec, List.length_map, List.length_append, List.length_drop, List.length_take]; omega))) (congrArg (fun z => pd (.tuple z)) ec)) ⟨_, _, hgl, rfl, rfl⟩))
end
end Lh
end
section
set_option Elab.async false
set_option linter.all false
set_option maxRecDepth 100000
set_option maxHeartbeats 4000000
namespace Lh
open PySem PySem.Spec PyProof.Rows L2
/-- what rests, least_parting take -/
structure rP (p q : Pl) (n : Nat) : Prop where
  hp : sP p
  hq : sP q
  pp : sP p.plain
  qq : sP q.plain
  dif : Dif p.plain.plain q.plain.plain n
section
variable {P : Program} {w : World} {K : PySem.W.Frag} {mg : Str → Option Value} {base : Heap}
theorem sc_rests : FnScope ["one", "other", "first", "second", "beginning", "product", "prime"] ["one", "other"] (defScope s_rests) := ⟨rfl, rfl, rfl, by decide +kernel, rfl, by decide +kernel, by decide +kernel⟩
abbrev plRp (p : Pl) : Rel := plR (py (tsD p.ts)) (py (tsD p.rd))
theorem c_rests (Z : Pg K mg) : FnC P w K mg base 71 "rests" (PreD (fun i : Pl × Pl × Nat => rP i.1 i.2.1 i.2.2) (fun i => [plS i.1.ts i.1.rd, plS i.2.1.ts i.2.1.rd]) (fun i => .dat (tupR [py (.int (prodF i.1.plain.plain i.2.2 : Nat)), plRp (lbh i.1.plain i.2.2), plRp (lbh i.2.1.plain i.2.2)]))) := by
  refine FnC.ofD Z.f_rests sc_rests (fun _ _ _ _ _ _ us hl => match us, hl with | [_, _], _ => rfl) (fun _ => rfl) (fun cdv A outer s H E hr i hi => ?_)
  obtain ⟨p, q, n⟩ := i
  obtain ⟨h1, h2, h3, h4, h5⟩ : rP p q n := hi
  have gp := gP_plain h3.1
  show DSs _ _ [plS p.ts p.rd, plS q.ts q.rd, .no, .no, .no, .no, .no] (.rt (fun w => w = .dat (tupR [py (.int (prodF p.plain.plain n : Nat)), plRp (lbh p.plain n), plRp (lbh q.plain n)])) [])
  refine dss_cons (S1 := [plS p.ts p.rd, plS q.ts q.rd, plS p.plain.ts p.plain.rd, plS q.plain.ts q.plain.rd, .no, .no, .no]) (ds_par 2 3 (da2 (we_call (c_plain Z) (hr.mono (by omega)) (da1 (de_var (i := 0) rfl)) ⟨p, h1, rfl, rfl, rfl⟩) (we_call (c_plain Z) (hr.mono (by omega)) (da1 (de_var (i := 1) rfl)) ⟨q, h2, rfl, rfl, rfl⟩)) sc_rests.nd) ?_
  refine dss_cons (S1 := [plS p.ts p.rd, plS q.ts q.rd, plS p.plain.ts p.plain.rd, plS q.plain.ts q.plain.rd, pl (tbs ((List.range n).map p.plain.plain.st)), pi (prodF p.plain.plain 0 : Nat), .no]) (ds_par 4 5 (da2 (we_call (c_common Z) hr (da2 (de_var (i := 2) rfl) (de_var (i := 3) rfl)) ⟨(p.plain, q.plain, n), ⟨h3, h4, h5⟩, rfl, rfl, rfl⟩) de_int) sc_rests.nd) ?_
  have hlen : (tbR ((List.range n).map p.plain.plain.st)).length = n := by rw [List.length_map, List.length_map, List.length_map, List.length_range]
  refine dss_cons (S1 := [plS p.ts p.rd, plS q.ts q.rd, plS p.plain.ts p.plain.rd, plS q.plain.ts q.plain.rd, pl (tbs ((List.range n).map p.plain.plain.st)), pi (prodF p.plain.plain n : Nat), .no]) (ds_forS (Rs := tbR ((List.range n).map p.plain.plain.st)) (fun i => [plS p.ts p.rd, plS q.ts q.rd, plS p.plain.ts p.plain.rd, plS q.plain.ts q.plain.rd, pl (tbs ((List.range n).map p.plain.plain.st)), pi (prodF p.plain.plain i : Nat), .no]) (di_lst (de_var (i := 4) rfl) isQ_l) (fun i R hR => ?_) (by rw [hlen])) ?_
  · have hi : i < n := by
      have := (List.getElem?_eq_some_iff.mp hR).1
      rw [hlen] at this
      exact this
    have e : R = py (tbD (p.plain.plain.st i)) := by
      rw [List.getElem?_map, List.getElem?_map, List.getElem?_map, List.getElem?_range hi] at hR
      exact (Option.some.inj hR).symm
    subst e
    have hst := gP_st gp i
    have := hst.2
    refine ⟨_, dg_name 6 sc_rests.nd, .inl (dss_forget 6 (S' := [plS p.ts p.rd, plS q.ts q.rd, plS p.plain.ts p.plain.rd, plS q.plain.ts q.plain.rd, pl (tbs ((List.range n).map p.plain.plain.st)), pi (prodF p.plain.plain (i + 1) : Nat), pd (tbD (p.plain.plain.st i))]) ?_)⟩
    exact dss_one (ds_augMul 5 (we_call (c_table_size Z) (hr.mono (by omega)) (da1 (de_var (i := 6) rfl)) ⟨p.plain.plain.st i, trivial, rfl, rfl, rfl⟩) sc_rests.nd rfl rfl (.inr (by omega)) (hS2 := by rw [show ((prodF p.plain.plain i : Nat) : Int) * (((p.plain.plain.st i).length + 1 : Nat) : Int) = ((prodF p.plain.plain (i + 1) : Nat) : Int) from (Int.natCast_mul _ _).symm]; rfl))
  · have hl2 := h3.2.2
    have hl4 := h4.2.2
    have el : ((tbs ((List.range n).map p.plain.plain.st)).length : Int) = (n : Nat) := by rw [List.length_map, List.length_map, List.length_range]
    exact dss_one (ds_ret 0 (de_tupR (Rs := [py (.int (prodF p.plain.plain n : Nat)), plRp (lbh p.plain n), plRp (lbh q.plain n)]) (da3 (de_var (i := 5) rfl)
      (we_call (c_left_behind Z) (hr.mono (by omega)) (da2 (de_var (i := 2) rfl) (DE.to (de_len Z.n_len (de_var (i := 4) rfl)) (by rw [el]))) ⟨(p.plain, n), ⟨h3.1, by show p.plain.rd.length ≤ 10000; omega⟩, rfl, rfl, rfl⟩)
      (we_call (c_left_behind Z) (hr.mono (by omega)) (da2 (de_var (i := 3) rfl) (DE.to (de_len Z.n_len (de_var (i := 4) rfl)) (by rw [el]))) ⟨(q.plain, n), ⟨h4.1, by show q.plain.rd.length ≤ 10000; omega⟩, rfl, rfl, rfl⟩)) (few2 (Nat.le_of_ble_eq_true rfl))))
theorem sc_least_unlike : FnScope ["first", "second", "m"] ["first", "second"] (defScope s_least_unlike) := ⟨rfl, rfl, rfl, by decide +kernel, rfl, by decide +kernel, by decide +kernel⟩
theorem c_least_unlike (Z : Pg K mg) : FnC P w K mg base 15 "least_unlike" (PreD (fun i : Pl × Pl × Nat => gP i.1.ts i.1.rd ∧ gP i.2.1.ts i.2.1.rd ∧ Unl i.1 i.2.1 i.2.2) (fun i => [plS i.1.ts i.1.rd, plS i.2.1.ts i.2.1.rd]) (fun i => pi (i.2.2 : Nat))) := by
  refine FnC.ofD Z.f_least_unlike sc_least_unlike (fun _ _ _ _ _ _ us hl => match us, hl with | [_, _], _ => rfl) (fun _ => rfl) (fun cdv A outer s H E hr i hi => ?_)
  obtain ⟨p, q, m⟩ := i
  obtain ⟨gp, gq, hu⟩ : gP p.ts p.rd ∧ gP q.ts q.rd ∧ Unl p q m := hi
  have hlo := hu.lo
  have hhi := hu.hi
  have hn : ∀ k, 1 ≤ k → k ≤ 50 → SeqAt.shaped (shD (shp p.st k)) = true ∧ SeqAt.shaped (shD (shp q.st k)) = true := fun k h1 h2 => ⟨nh (n := 50) (by have := shp_ht (gP_st gp) h1; omega), nh (n := 50) (by have := shp_ht (gP_st gq) h1; omega)⟩
  show DSs _ _ [plS p.ts p.rd, plS q.ts q.rd, .no] (.rt (fun w => w = pi (m : Nat)) [])
  have em : m - 2 + 2 = m := by omega
  refine dss_cons (S1 := [plS p.ts p.rd, plS q.ts q.rd, pi ((0 + 2 : Nat) : Int)]) (ds_set 2 de_int sc_least_unlike.nd) ?_
  refine dss_cons (S1 := [plS p.ts p.rd, plS q.ts q.rd, pi ((m - 2 + 2 : Nat) : Int)]) (ds_while (Sf := [plS p.ts p.rd, plS q.ts q.rd, pi ((m - 2 + 2 : Nat) : Int)]) (m - 2) (fun i => [plS p.ts p.rd, plS q.ts q.rd, pi ((i + 2 : Nat) : Int)]) (fun i hi => ?_) ?_) ?_
  · refine ⟨_, DT.t (dt_eqD hr (we_call (c_shape Z) (hr.mono (by omega)) (da2 (de_var (i := 0) rfl) (de_var (i := 2) rfl)) ⟨(p, i + 2), ⟨gp, by show 1 ≤ i + 2; omega, by show i + 2 ≤ 1000; omega⟩, rfl, rfl, rfl⟩) (we_call (c_shape Z) (hr.mono (by omega)) (da2 (de_var (i := 1) rfl) (de_var (i := 2) rfl)) ⟨(q, i + 2), ⟨gq, by show 1 ≤ i + 2; omega, by show i + 2 ≤ 1000; omega⟩, rfl, rfl, rfl⟩)
      (hn (i + 2) (by omega) (by omega)).1 (hn (i + 2) (by omega) (by omega)).2 (sh_eqv _ _)) (decide_eq_true (hu.eq (i + 2) (by omega) (by omega))), ?_⟩
    exact dss_one (ds_augAdd 2 de_int sc_least_unlike.nd rfl rfl)
  · refine DT.f (dt_eqD hr (we_call (c_shape Z) (hr.mono (by omega)) (da2 (de_var (i := 0) rfl) (de_var (i := 2) rfl)) ⟨(p, m - 2 + 2), ⟨gp, by show 1 ≤ m - 2 + 2; omega, by show m - 2 + 2 ≤ 1000; omega⟩, rfl, rfl, rfl⟩) (we_call (c_shape Z) (hr.mono (by omega)) (da2 (de_var (i := 1) rfl) (de_var (i := 2) rfl)) ⟨(q, m - 2 + 2), ⟨gq, by show 1 ≤ m - 2 + 2; omega, by show m - 2 + 2 ≤ 1000; omega⟩, rfl, rfl, rfl⟩)
      (hn (m - 2 + 2) (by omega) (by omega)).1 (hn (m - 2 + 2) (by omega) (by omega)).2 (sh_eqv _ _)) (decide_eq_false (by rw [em]; exact hu.ne))
  · rw [em]
    exact dss_one (ds_ret 0 (de_var (i := 2) rfl))
/-- what least_parting answers -/
def LP (p q : Pl) (d : PyData) : Prop := (sP p ∧ sP q) ∧ ((p.plain = q.plain ∧ d = .none) ∨ (p.plain ≠ q.plain ∧ ∃ n m, rP p q n ∧ Unl (lbh p.plain n) (lbh q.plain n) m ∧ d = .int ((prodF p.plain.plain n * (m - 1) + 1 : Nat) : Int)))
theorem sc_least_parting : FnScope ["one", "other", "product", "first", "second"] ["one", "other"] (defScope s_least_parting) := ⟨rfl, rfl, rfl, by decide +kernel, rfl, by decide +kernel, by decide +kernel⟩
theorem c_least_parting (Z : Pg K mg) : FnC P w K mg base 72 "least_parting" (PreD (fun i : Pl × Pl × PyData => LP i.1 i.2.1 i.2.2) (fun i => [plS i.1.ts i.1.rd, plS i.2.1.ts i.2.1.rd]) (fun i => pd i.2.2)) := by
  refine FnC.ofD Z.f_least_parting sc_least_parting (fun _ _ _ _ _ _ us hl => match us, hl with | [_, _], _ => rfl) (fun _ => rfl) (fun cdv A outer s H E hr i hi => ?_)
  obtain ⟨p, q, d⟩ := i
  obtain ⟨⟨hp, hq⟩, h⟩ : LP p q d := hi
  show DSs _ _ [plS p.ts p.rd, plS q.ts q.rd, .no, .no, .no] (.rt (fun w => w = pd d) [])
  rcases h with ⟨h, rfl⟩ | ⟨h, n, m, hr1, hu, rfl⟩
  · exact dss_rt (ds_ifT (DT.t (dt_val (we_call (c_are_alike Z) (hr.mono (by omega)) (da2 (de_var (i := 0) rfl) (de_var (i := 1) rfl)) ⟨(p, q), ⟨hp, hq⟩, rfl, rfl, rfl⟩)) (decide_eq_true h)) (dss_one (ds_ret 0 de_non)))
  · have hlo := hu.lo
    have hhi := hu.hi
    refine dss_cons (S1 := [plS p.ts p.rd, plS q.ts q.rd, .no, .no, .no]) (ds_ifF (DT.f (dt_val (we_call (c_are_alike Z) (hr.mono (by omega)) (da2 (de_var (i := 0) rfl) (de_var (i := 1) rfl)) ⟨(p, q), ⟨hp, hq⟩, rfl, rfl, rfl⟩)) (decide_eq_false h)) dss_nil) ?_
    refine dss_cons (S1 := [plS p.ts p.rd, plS q.ts q.rd, pi (prodF p.plain.plain n : Nat), .dat (plRp (lbh p.plain n)), .dat (plRp (lbh q.plain n))]) (ds_asg (we_call (c_rests Z) hr (da2 (de_var (i := 0) rfl) (de_var (i := 1) rfl)) ⟨(p, q, n), hr1, rfl, rfl, rfl⟩) (dg_tup (dgs_cons (dg_name 2 sc_least_parting.nd) (dgs_cons (dg_name 3 sc_least_parting.nd) (dgs_cons (dg_name 4 sc_least_parting.nd) dgs_nil))) isT_r)) ?_
    refine dss_one (ds_ret 0 (DE.to (de_add (de_mul (de_var (i := 2) rfl) (de_sub (we_call (c_least_unlike Z) (hr.mono (by omega)) (da2 (de_var (i := 3) rfl) (de_var (i := 4) rfl)) ⟨(lbh p.plain n, lbh q.plain n, m), ⟨gP_lbh hr1.pp.1 n, gP_lbh hr1.qq.1 n, hu⟩, rfl, rfl, rfl⟩) de_int) (.inr (by show -(2 ^ 64) < ((m : Nat) : Int) - 1 ∧ ((m : Nat) : Int) - 1 < 2 ^ 64; omega))) de_int) ?_))
    show pi (((prodF p.plain.plain n : Nat) : Int) * (((m : Nat) : Int) - 1) + 1) = _
    rw [show ((m : Nat) : Int) - 1 = ((m - 1 : Nat) : Int) by omega, ← Int.natCast_mul]
    rfl
theorem sc_parting : FnScope ["one", "other", "product", "first", "second", "m"] ["one", "other"] (defScope s_parting) := ⟨rfl, rfl, rfl, by decide +kernel, rfl, by decide +kernel, by decide +kernel⟩
theorem c_parting (Z : Pg K mg) : FnC P w K mg base 72 "parting" (PreD (fun i : Pl × Pl => sP i.1 ∧ sP i.2 ∧ i.1.plain = i.2.plain) (fun i => [plS i.1.ts i.1.rd, plS i.2.ts i.2.rd]) (fun _ => pd .none)) := by
  refine FnC.ofD Z.f_parting sc_parting (fun _ _ _ _ _ _ us hl => match us, hl with | [_, _], _ => rfl) (fun _ => rfl) (fun cdv A outer s H E hr i hi => ?_)
  obtain ⟨p, q⟩ := i
  obtain ⟨hp, hq, h⟩ : sP p ∧ sP q ∧ p.plain = q.plain := hi
  exact dss_rt (ds_ifT (DT.t (dt_val (we_call (c_are_alike Z) (hr.mono (by omega)) (da2 (de_var (i := 0) rfl) (de_var (i := 1) rfl)) ⟨(p, q), ⟨hp, hq⟩, rfl, rfl, rfl⟩)) (decide_eq_true h)) (dss_one (ds_ret 0 de_non)))
end
end Lh
end
section
set_option Elab.async false
set_option linter.all false
set_option maxRecDepth 100000
set_option maxHeartbeats 4000000
namespace Lh
open PySem PySem.Spec PyProof.Rows L2
def optD : Option Sh → PyData
  | none => .none
  | some u => shD u
theorem opt_eqv : ∀ o o' : Option Sh, PyData.eqv (optD o) (optD o') = decide (o = o')
  | none, none => by simp [optD, PyData.eqv]
  | none, some u => by obtain ⟨ds, e⟩ := isT_sh u; simp [optD, e, PyData.eqv]
  | some u, none => by obtain ⟨ds, e⟩ := isT_sh u; simp [optD, e, PyData.eqv]
  | some u, some v => by
    show PyData.eqv (shD u) (shD v) = _
    rw [sh_eqv]
    by_cases h : u = v
    · rw [decide_eq_true h, decide_eq_true (congrArg some h)]
    · rw [decide_eq_false h, decide_eq_false fun z => h (Option.some.inj z)]
theorem non_opt {o : Option Sh} : isNon (py (optD o)) o.isNone := by
  cases o with
  | none => exact non_none
  | some u => exact non_sh
theorem nice_opt {n : Nat} {o : Option Sh} (h : ∀ u, o = some u → u.ht ≤ n) : Nice (n + 1) (optD o) := by
  cases o with
  | none => exact nice_none
  | some u => exact nice_sh (h u rfl)
section
variable {P : Program} {w : World} {K : PySem.W.Frag} {mg : Str → Option Value} {base : Heap}
theorem sc_law_part : FnScope ["_law_form", "_law_i", "_law_j", "_law_at"] ["_law_form", "_law_i", "_law_j"] (defScope s_law_part) := ⟨rfl, rfl, rfl, by decide +kernel, rfl, by decide +kernel, by decide +kernel⟩
abbrev prePart (h : Nat) : Pre := PreD (fun i : Sh × Nat × Nat => i.1.ht ≤ h) (fun i => [pd (shD i.1), pi (i.2.1 : Nat), pi (i.2.2 : Nat)]) (fun i => pd (optD (part i.1 i.2.1 i.2.2)))
theorem pr0 {i j k : Nat} : PyData.eqv (.tuple [.int (i : Nat), .int (j : Nat)]) (.tuple [.int 0, .int (k : Nat)]) = decide (i = 0 ∧ j = k) := by
  have := pr_eqv (i, j) (0, k)
  show PyData.eqv (prD (i, j)) (prD (0, k)) = _
  rw [this]
  simp only [Prod.mk.injEq]
theorem nice_pr0 {i j : Nat} : SeqAt.shaped (.tuple [.int (i : Nat), .int (j : Nat)]) = true := (nice_pr 0 (i, j)).shaped
theorem nice_pr1 {j : Nat} : SeqAt.shaped (.tuple [.int 0, .int (j : Nat)]) = true := (nice_pr 0 (0, j)).shaped
theorem c_law_part (Z : Pg K mg) : ∀ h, h ≤ 58 → FnC P w K mg base (h + 2) "_law_part" (prePart h) := by
  intro h
  induction h with
  | zero =>
    intro _
    refine FnC.ofD Z.f_law_part sc_law_part (fun _ _ _ _ _ _ us hl => match us, hl with | [_, _, _], _ => rfl) (fun _ => rfl) (fun cdv A outer s H E hr i hi => ?_)
    obtain ⟨f, i, j⟩ := i
    have hi : f.ht ≤ 0 := hi
    have e : f = .o := by cases f with | o => rfl | n a b => simp [Sh.ht] at hi
    subst e
    show DSs _ _ [pd (shD .o), pi (i : Nat), pi (j : Nat), .no] (.rt (fun w => w = pd (optD (part .o i j))) [])
    rw [part_o]
    by_cases hc : i = 0 ∧ j = 1
    · rw [if_pos hc]
      exact dss_rt (ds_ifT (DT.t (dt_eqD hr (de_tup2 (de_var (i := 1) rfl) (de_var (i := 2) rfl)) (de_tup2 de_int (we_call (c_law_size Z 0 (by omega)) hr (da1 (de_var (i := 0) rfl)) ⟨.o, Nat.le_refl _, rfl, rfl, rfl⟩)) nice_pr0 nice_pr1 pr0) (decide_eq_true hc)) (dss_one (ds_ret 0 (de_var (i := 0) rfl))))
    · rw [if_neg hc]
      refine dss_cons (S1 := [pd (shD .o), pi (i : Nat), pi (j : Nat), .no]) (ds_ifF (DT.f (dt_eqD hr (de_tup2 (de_var (i := 1) rfl) (de_var (i := 2) rfl)) (de_tup2 de_int (we_call (c_law_size Z 0 (by omega)) hr (da1 (de_var (i := 0) rfl)) ⟨.o, Nat.le_refl _, rfl, rfl, rfl⟩)) nice_pr0 nice_pr1 pr0) (decide_eq_false hc)) dss_nil) ?_
      exact dss_rt (ds_ifT ((is_o hr (de_var (i := 0) rfl) (Nat.zero_le _)).t rfl) (dss_one (ds_ret 0 de_non)))
  | succ h ih =>
    intro hh
    have ih := ih (by omega)
    refine FnC.ofD Z.f_law_part sc_law_part (fun _ _ _ _ _ _ us hl => match us, hl with | [_, _, _], _ => rfl) (fun _ => rfl) (fun cdv A outer s H E hr i hi => ?_)
    obtain ⟨f, i, j⟩ := i
    have hi : f.ht ≤ h + 1 := hi
    show DSs _ _ [pd (shD f), pi (i : Nat), pi (j : Nat), .no] (.rt (fun w => w = pd (optD (part f i j))) [])
    by_cases hc : i = 0 ∧ j = f.size
    · have e : part f i j = some f := by rw [part.eq_def]; exact if_pos hc
      rw [e]
      exact dss_rt (ds_ifT (DT.t (dt_eqD hr (de_tup2 (de_var (i := 1) rfl) (de_var (i := 2) rfl)) (de_tup2 de_int (we_call (c_law_size Z (h + 1) (by omega)) hr (da1 (de_var (i := 0) rfl)) ⟨f, hi, rfl, rfl, rfl⟩)) nice_pr0 nice_pr1 pr0) (decide_eq_true hc)) (dss_one (ds_ret 0 (de_var (i := 0) rfl))))
    · refine dss_cons (S1 := [pd (shD f), pi (i : Nat), pi (j : Nat), .no]) (ds_ifF (DT.f (dt_eqD hr (de_tup2 (de_var (i := 1) rfl) (de_var (i := 2) rfl)) (de_tup2 de_int (we_call (c_law_size Z (h + 1) (by omega)) hr (da1 (de_var (i := 0) rfl)) ⟨f, hi, rfl, rfl, rfl⟩)) nice_pr0 nice_pr1 pr0) (decide_eq_false hc)) dss_nil) ?_
      cases f with
      | o =>
        rw [part_o, if_neg (show ¬ (i = 0 ∧ j = 1) from hc)]
        exact dss_rt (ds_ifT ((is_o hr (de_var (i := 0) rfl) (Nat.zero_le _)).t rfl) (dss_one (ds_ret 0 de_non)))
      | n a b =>
        have hi : max a.ht b.ht + 1 ≤ h + 1 := hi
        simp only [Sh.size] at hc
        rw [part_n, if_neg hc]
        refine dss_cons (S1 := [pd (shD (.n a b)), pi (i : Nat), pi (j : Nat), .no]) (ds_ifF ((is_o hr (de_var (i := 0) rfl) (by show max a.ht b.ht + 1 ≤ 60; omega)).f rfl) dss_nil) ?_
        refine dss_cons (S1 := [pd (shD (.n a b)), pi (i : Nat), pi (j : Nat), pi (a.size : Nat)]) (ds_set 3 (we_call (c_law_size Z h (by omega)) (hr.mono (by omega)) (da1 (de_l (de_var (i := 0) rfl))) ⟨a, by show a.ht ≤ h; omega, rfl, rfl, rfl⟩) sc_law_part.nd) ?_
        by_cases h1 : j ≤ a.size
        · rw [if_pos h1]
          exact dss_rt (ds_ifT (DT.t (dt_le (de_var (i := 2) rfl) (de_var (i := 3) rfl)) (decide_eq_true (by omega))) (dss_one (ds_ret 0 (we_call ih hr (da3 (de_l (de_var (i := 0) rfl)) (de_var (i := 1) rfl) (de_var (i := 2) rfl)) ⟨(a, i, j), by show a.ht ≤ h; omega, rfl, rfl, rfl⟩))))
        · rw [if_neg h1]
          refine dss_cons (S1 := [pd (shD (.n a b)), pi (i : Nat), pi (j : Nat), pi (a.size : Nat)]) (ds_ifF (DT.f (dt_le (de_var (i := 2) rfl) (de_var (i := 3) rfl)) (decide_eq_false (by omega))) dss_nil) ?_
          by_cases h2 : a.size ≤ i
          · rw [if_pos h2]
            have e1 : ((i : Nat) : Int) - ((a.size : Nat) : Int) = ((i - a.size : Nat) : Int) := by omega
            have e2 : ((j : Nat) : Int) - ((a.size : Nat) : Int) = ((j - a.size : Nat) : Int) := by omega
            exact dss_one (ds_ret 0 (de_ifT (DT.t (dt_ge (de_var (i := 1) rfl) (de_var (i := 3) rfl)) (decide_eq_true (by omega))) (we_call ih hr (da3 (de_r (de_var (i := 0) rfl)) (DE.to (de_sub (de_var (i := 1) rfl) (de_var (i := 3) rfl)) (by rw [e1])) (DE.to (de_sub (de_var (i := 2) rfl) (de_var (i := 3) rfl)) (by rw [e2]))) ⟨(b, i - a.size, j - a.size), by show b.ht ≤ h; omega, rfl, rfl, rfl⟩)))
          · rw [if_neg h2]
            exact dss_one (ds_ret 0 (de_ifF (DT.f (dt_ge (de_var (i := 1) rfl) (de_var (i := 3) rfl)) (decide_eq_false (by omega))) de_non))
/-! above -/
abbrev nsD (l : List Nat) : List PyData := l.map fun b : Nat => .int (b : Nat)
theorem isQ_ns {l : List Nat} : IsQ (lsR (nsD l)) (l.map fun x : Nat => py (.int (x : Nat))) := fun h => by
  have q := isQ_l h
  unfold nsD at q
  rw [List.map_map] at q
  exact q
theorem any_ns (l : List Nat) (k : Nat) : ((nsD l).any fun y => PyData.eqv y (.int (k : Nat))) = decide (k ∈ l) := by
  rw [List.any_map, Bool.eq_iff_iff, List.any_eq_true, decide_eq_true_iff]
  constructor
  · rintro ⟨x, hx, h⟩
    have h2 : PyData.eqv (.int (x : Nat)) (.int (k : Nat)) = true := h
    rw [int_eqv] at h2
    have := of_decide_eq_true h2
    rw [show k = x by omega]
    exact hx
  · exact fun h => ⟨k, h, by show PyData.eqv (.int (k : Nat)) (.int (k : Nat)) = true; rw [int_eqv]; exact decide_eq_true rfl⟩
theorem sc_law_above : FnScope ["_law_form", "_law_stops", "_law_size_here", "_law_at", "_law_one", "_law_other", "_law_end"] ["_law_form", "_law_stops"] (defScope s_law_above) := ⟨rfl, rfl, rfl, by decide +kernel, rfl, by decide +kernel, by decide +kernel⟩
abbrev preLab (h : Nat) : Pre := PreD (fun i : Sh × List Nat => i.1.ht ≤ h ∧ i.2.length ≤ 1000) (fun i => [pd (shD i.1), pl (nsD i.2)]) (fun i => pd (optD (labv i.1 i.2)))
theorem c_law_above (Z : Pg K mg) : ∀ h, h ≤ 58 → FnC P w K mg base (h + 2) "_law_above" (preLab h) := by
  intro h
  induction h with
  | zero =>
    intro _
    refine FnC.ofD Z.f_law_above sc_law_above (fun _ _ _ _ _ _ us hl => match us, hl with | [_, _], _ => rfl) (fun _ => rfl) (fun cdv A outer s H E hr i hi => ?_)
    obtain ⟨f, ds⟩ := i
    obtain ⟨hi, hlen⟩ : f.ht ≤ 0 ∧ ds.length ≤ 1000 := hi
    have e : f = .o := by cases f with | o => rfl | n a b => simp [Sh.ht] at hi
    subst e
    show DSs _ _ [pd (shD .o), pl (nsD ds), .no, .no, .no, .no, .no] (.rt (fun w => w = pd (optD (labv .o ds))) [])
    refine dss_cons (S1 := [pd (shD .o), pl (nsD ds), pi ((1 : Nat) : Int), .no, .no, .no, .no]) (ds_set 2 (we_call (c_law_size Z 0 (by omega)) hr (da1 (de_var (i := 0) rfl)) ⟨.o, Nat.le_refl _, rfl, rfl, rfl⟩) sc_law_above.nd) ?_
    rw [labv_eq]
    by_cases hc : ds = [1]
    · rw [if_pos (show ds = [Sh.o.size] from hc)]
      exact dss_rt (ds_ifT (DT.t (dt_eqD (d' := .list (nsD [1])) hr (DE.conv (de_var (i := 1) rfl) lst_py) (DE.conv (de_lst1 (de_var (i := 2) rfl)) lst_py) (nice_ints ds).shaped (nice_ints [1]).shaped (ints_eqv ds [1])) (decide_eq_true hc)) (dss_one (ds_ret 0 de_tup0)))
    · rw [if_neg (show ¬ ds = [Sh.o.size] from hc)]
      refine dss_cons (S1 := [pd (shD .o), pl (nsD ds), pi ((1 : Nat) : Int), .no, .no, .no, .no]) (ds_ifF (DT.f (dt_eqD (d' := .list (nsD [1])) hr (DE.conv (de_var (i := 1) rfl) lst_py) (DE.conv (de_lst1 (de_var (i := 2) rfl)) lst_py) (nice_ints ds).shaped (nice_ints [1]).shaped (ints_eqv ds [1])) (decide_eq_false hc)) dss_nil) ?_
      exact dss_rt (ds_ifT ((is_o hr (de_var (i := 0) rfl) (Nat.zero_le _)).t rfl) (dss_one (ds_ret 0 de_non)))
  | succ h ih =>
    intro hh
    have ih := ih (by omega)
    refine FnC.ofD Z.f_law_above sc_law_above (fun _ _ _ _ _ _ us hl => match us, hl with | [_, _], _ => rfl) (fun _ => rfl) (fun cdv A outer s H E hr i hi => ?_)
    obtain ⟨f, ds⟩ := i
    obtain ⟨hi, hlen⟩ : f.ht ≤ h + 1 ∧ ds.length ≤ 1000 := hi
    show DSs _ _ [pd (shD f), pl (nsD ds), .no, .no, .no, .no, .no] (.rt (fun w => w = pd (optD (labv f ds))) [])
    refine dss_cons (S1 := [pd (shD f), pl (nsD ds), pi (f.size : Nat), .no, .no, .no, .no]) (ds_set 2 (we_call (c_law_size Z (h + 1) (by omega)) hr (da1 (de_var (i := 0) rfl)) ⟨f, hi, rfl, rfl, rfl⟩) sc_law_above.nd) ?_
    rw [labv_eq]
    by_cases hc : ds = [f.size]
    · rw [if_pos hc]
      exact dss_rt (ds_ifT (DT.t (dt_eqD (d' := .list (nsD [f.size])) hr (DE.conv (de_var (i := 1) rfl) lst_py) (DE.conv (de_lst1 (de_var (i := 2) rfl)) lst_py) (nice_ints ds).shaped (nice_ints [f.size]).shaped (ints_eqv ds [f.size])) (decide_eq_true hc)) (dss_one (ds_ret 0 de_tup0)))
    · rw [if_neg hc]
      refine dss_cons (S1 := [pd (shD f), pl (nsD ds), pi (f.size : Nat), .no, .no, .no, .no]) (ds_ifF (DT.f (dt_eqD (d' := .list (nsD [f.size])) hr (DE.conv (de_var (i := 1) rfl) lst_py) (DE.conv (de_lst1 (de_var (i := 2) rfl)) lst_py) (nice_ints ds).shaped (nice_ints [f.size]).shaped (ints_eqv ds [f.size])) (decide_eq_false hc)) dss_nil) ?_
      cases f with
      | o => exact dss_rt (ds_ifT ((is_o hr (de_var (i := 0) rfl) (Nat.zero_le _)).t rfl) (dss_one (ds_ret 0 de_non)))
      | n a b =>
        have hi : max a.ht b.ht + 1 ≤ h + 1 := hi
        dsimp only
        generalize hsz : (Sh.n a b).size = sz
        refine dss_cons (S1 := [pd (shD (.n a b)), pl (nsD ds), pi (sz : Nat), .no, .no, .no, .no]) (ds_ifF ((is_o hr (de_var (i := 0) rfl) (by show max a.ht b.ht + 1 ≤ 60; omega)).f rfl) dss_nil) ?_
        refine dss_cons (S1 := [pd (shD (.n a b)), pl (nsD ds), pi (sz : Nat), pi (a.size : Nat), .no, .no, .no]) (ds_set 3 (we_call (c_law_size Z h (by omega)) (hr.mono (by omega)) (da1 (de_l (de_var (i := 0) rfl))) ⟨a, by show a.ht ≤ h; omega, rfl, rfl, rfl⟩) sc_law_above.nd) ?_
        by_cases hm : a.size ∈ ds
        · rw [if_pos hm]
          have f1 : (ds.filter fun x => decide (x ≤ a.size)).length ≤ 1000 := Nat.le_trans (List.length_filter_le _ _) hlen
          have f2 : ((ds.filter fun x => decide (a.size < x)).map (· - a.size)).length ≤ 1000 := by rw [List.length_map]; exact Nat.le_trans (List.length_filter_le _ _) hlen
          have fewd : ds.length < sizeLine := few (by omega)
          refine dss_cons (S1 := [pd (shD (.n a b)), pl (nsD ds), pi (sz : Nat), pi (a.size : Nat), pd (optD (labv a (ds.filter fun x => decide (x ≤ a.size)))), .no, .no]) (ds_set 4 (de_ifT ((dt_inL hr (de_var (i := 3) rfl) (de_var (i := 1) rfl) (nice_int (n := 0)).shaped (nice_ints ds).shaped (any_ns ds a.size)).t (decide_eq_true hm))
            (we_call ih hr (da2 (de_l (de_var (i := 0) rfl)) (de_lcPIf (own := [("_law_end", 6)]) (xs := ds) (g := fun (x : Nat) => py (.int (x : Nat))) (ys := fun (x : Nat) => .int (x : Nat)) 6 (fun x => decide (x ≤ a.size)) sc_law_above.nd
              (show BlkOk ["_law_form", "_law_stops", "_law_size_here", "_law_at", "_law_one", "_law_other", "_law_end"] (defScope s_law_above) _ _ from ⟨rfl, by decide +kernel, by decide +kernel, by decide +kernel, by decide +kernel⟩)
              (di_lst (R := lsR (nsD ds)) (de_var (i := 1) rfl) isQ_ns) fewd (by decide) (no1 rfl)
              (fun x hx s H C cl fp => DT.to (dt_le (de_var (i := 6) rfl) (de_var (i := 3) rfl)) (decide_eq_decide.mpr (by omega))) (fun x hx ht s H C cl fp => de_var (i := 6) rfl)))
              ⟨(a, ds.filter fun x => decide (x ≤ a.size)), ⟨by show a.ht ≤ h; omega, f1⟩, rfl, rfl, rfl⟩)) sc_law_above.nd) ?_
          refine dss_cons (S1 := [pd (shD (.n a b)), pl (nsD ds), pi (sz : Nat), pi (a.size : Nat), pd (optD (labv a (ds.filter fun x => decide (x ≤ a.size)))), pd (optD (labv b ((ds.filter fun x => decide (a.size < x)).map (· - a.size)))), .no]) (ds_set 5 (de_ifT ((dt_inL hr (de_var (i := 3) rfl) (de_var (i := 1) rfl) (nice_int (n := 0)).shaped (nice_ints ds).shaped (any_ns ds a.size)).t (decide_eq_true hm))
            (we_call ih hr (da2 (de_r (de_var (i := 0) rfl)) (DE.to (de_lcPIf (own := [("_law_end", 6)]) (xs := ds) (g := fun (x : Nat) => py (.int (x : Nat))) (ys := fun (x : Nat) => .int ((x - a.size : Nat) : Int)) 6 (fun x => decide (a.size < x)) sc_law_above.nd
              (show BlkOk ["_law_form", "_law_stops", "_law_size_here", "_law_at", "_law_one", "_law_other", "_law_end"] (defScope s_law_above) _ _ from ⟨rfl, by decide +kernel, by decide +kernel, by decide +kernel, by decide +kernel⟩)
              (di_lst (R := lsR (nsD ds)) (de_var (i := 1) rfl) isQ_ns) fewd (by decide) (no1 rfl)
              (fun x hx s H C cl fp => DT.to (dt_gt (de_var (i := 6) rfl) (de_var (i := 3) rfl)) (decide_eq_decide.mpr (by omega))) (fun x hx ht s H C cl fp => DE.to (de_sub (de_var (i := 6) rfl) (de_var (i := 3) rfl)) (by rw [show ((x : Nat) : Int) - ((a.size : Nat) : Int) = ((x - a.size : Nat) : Int) by have := of_decide_eq_true ht; omega])))
              (by show pl _ = pl (nsD _); unfold nsD; rw [List.map_map]; rfl)))
              ⟨(b, (ds.filter fun x => decide (a.size < x)).map (· - a.size)), ⟨by show b.ht ≤ h; omega, f2⟩, rfl, rfl, rfl⟩)) sc_law_above.nd) ?_
          generalize labv a (ds.filter fun x => decide (x ≤ a.size)) = o1
          generalize labv b ((ds.filter fun x => decide (a.size < x)).map (· - a.size)) = o2
          cases o1 with
          | none => exact dss_one (ds_ret 0 (de_ifT (DW.t (dw_orT (dt_isN (de_var (i := 4) rfl) non_opt))) de_non))
          | some x =>
            cases o2 with
            | none => exact dss_one (ds_ret 0 (de_ifT (DW.t (dw_orF (dt_isN (de_var (i := 4) rfl) (non_opt (o := some x))) (dw_or1 (dt_isN (de_var (i := 5) rfl) (non_opt (o := none)))))) de_non))
            | some y => exact dss_one (ds_ret 0 (de_ifF (DW.t (dw_orF (dt_isN (de_var (i := 4) rfl) (non_opt (o := some x))) (dw_or1 (dt_isN (de_var (i := 5) rfl) (non_opt (o := some y)))))) (de_tup2 (de_var (i := 4) rfl) (de_var (i := 5) rfl))))
        · rw [if_neg hm]
          refine dss_cons (S1 := [pd (shD (.n a b)), pl (nsD ds), pi (sz : Nat), pi (a.size : Nat), pd .none, .no, .no]) (ds_set 4 (de_ifF ((dt_inL hr (de_var (i := 3) rfl) (de_var (i := 1) rfl) (nice_int (n := 0)).shaped (nice_ints ds).shaped (any_ns ds a.size)).f (decide_eq_false hm)) de_non) sc_law_above.nd) ?_
          refine dss_cons (S1 := [pd (shD (.n a b)), pl (nsD ds), pi (sz : Nat), pi (a.size : Nat), pd .none, pd .none, .no]) (ds_set 5 (de_ifF ((dt_inL hr (de_var (i := 3) rfl) (de_var (i := 1) rfl) (nice_int (n := 0)).shaped (nice_ints ds).shaped (any_ns ds a.size)).f (decide_eq_false hm)) de_non) sc_law_above.nd) ?_
          exact dss_one (ds_ret 0 (de_ifT (DW.t (dw_orT (dt_isN (de_var (i := 4) rfl) non_none))) de_non))
end
end Lh
end
section
set_option Elab.async false
set_option linter.all false
set_option maxRecDepth 100000
set_option maxHeartbeats 4000000
namespace Lh
open PySem PySem.Spec PyProof.Rows L2
section
variable {X : Cx} {S S1 S2 S3 : List Slot} {a b c e : Expr} {es : List Expr} {pos p0 : Pos} {k : Slot → Prop} {o : Out} {sts : List Stmt} {p : Addr}
variable {α : Type} {xs : List α} {g : α → Rel} {it elt : Expr} {scope : Scope} {own : List (Str × Nat)} {cpos tpos : Pos} {cx : Str}
theorem dss_setLcP {y : Str} {py0 spos : Pos} {ys : α → PyData} (i : Nat) (j : Nat) (hN : X.N.Nodup) (ok : BlkOk X.N X.env.scope scope own) (hi : DI X (.Name cx tpos) it S (xs.map g) S1) (hz : xs.length < sizeLine) (hj : j ∈ own.map (·.2)) (hno : ∀ m ∈ own.map (·.2), S1[m]? = some .no)
    (hE : ∀ x, x ∈ xs → ∀ (s : Shared) (H : Hp) (C : Addr) (cl : List (Str × Addr)) (fp : List Addr), DE (bk X scope s H C cl fp) elt (S1.set j (.dat (g x))) (pd (ys x)) (S1.set j (.dat (g x))))
    (h2 : DSs X sts (S1.set i (pl (xs.map ys))) o) (hok : o.ok S.length) (hlt : i < S1.length := by exact Nat.le_of_ble_eq_true rfl) (hyN : X.N[i]? = some y := by rfl) (hyl : X.env.scope.names.lookup y = some .local := by rfl)
    (hsw : swapsWith (.ListComp elt [⟨.Name cx tpos, it, [], 0⟩] scope cpos) (some (.Name y py0)) spos.line X.env = pure true := by exact sw_true rfl rfl rfl (by decide +kernel))
    (hc : X.calm = true := by rfl) (hjN : X.N[j]? = some cx := by rfl) (hjL : Loc (relS scope X.env.scope) cx := by exact Or.inl rfl) (hjf : (scope.names.lookup cx == some .cell) = true ∨ (relS scope X.env.scope).names.lookup cx = some .local := by first | exact .inl rfl | exact .inr rfl)
    (hs : ∀ x, foldedSetIterable it X.env x = pure x := by intro _; rfl) :
    DSs X (.Assign [.Name y py0] (.ListComp elt [⟨.Name cx tpos, it, [], 0⟩] scope cpos) spos :: sts) S o :=
  dss_setLc (f := fun x => py (ys x)) i (fun _ => S1) j hN ok hi hz hj (fun _ _ => hi.1) (fun _ _ => hno) (fun k x hx => hE x (List.mem_of_getElem? hx)) (fun p => by
    refine dss_freeze (i := i) (List.getElem?_set_self hlt) ?_
    rw [List.set_set]
    have e : (xs.map fun x => py (ys x)) = (xs.map ys).map py := by rw [List.map_map]; rfl
    rw [e]
    exact h2) hok hlt hyN hyl hsw hc hjN hjL hjf hs
end
def gS (t : Tb) (b M : Nat) : Int → Option Rel := fun z => if 1 ≤ z ∧ fstq b z.toNat ≤ M then some (py (shD (abvT t b (fstq b z.toNat)))) else none
theorem gS_none {t : Tb} {b : Nat} (hb : 2 ≤ b) : (fun _ => none) = gS t b 1 := by
  funext z
  unfold gS
  rw [if_neg]
  rintro ⟨h1, h2⟩
  have := fst_two (q := z.toNat) hb (by omega)
  omega
theorem gS_at {t : Tb} {b m : Nat} (hb : 2 ≤ b) (hm : 2 ≤ m) : (gS t b (m - 1) ((cl m b : Nat) : Int)).getD (py (shD (abvT t b m))) = py (shD (abvT t b (fstq b (cl m b)))) := by
  have h1 := fst_le hb hm
  have h2 := cl_pos (b := b) (m := m) (by omega) (by omega)
  unfold gS
  rw [Int.toNat_natCast]
  by_cases h : fstq b (cl m b) ≤ m - 1
  · rw [if_pos ⟨by omega, h⟩]
    rfl
  · rw [if_neg (fun z => h z.2)]
    have e : fstq b (cl m b) = m := by omega
    rw [e]
    rfl
theorem gS_put {t : Tb} {b m : Nat} (hb : 2 ≤ b) (hm : 2 ≤ m) : (fun y : Int => if y = ((cl m b : Nat) : Int) then some (py (shD (abvT t b (fstq b (cl m b))))) else gS t b (m - 1) y) = gS t b m := by
  have h1 := fst_le hb hm
  have h2 := cl_pos (b := b) (m := m) (by omega) (by omega)
  funext y
  by_cases h : y = ((cl m b : Nat) : Int)
  · rw [if_pos h, h]
    unfold gS
    rw [Int.toNat_natCast, if_pos ⟨by omega, h1⟩]
  · rw [if_neg h]
    unfold gS
    by_cases h3 : 1 ≤ y
    · have h4 : fstq b y.toNat ≠ m := fun z => by
        have h5 := cl_fst (b := b) (q := y.toNat) hb (by omega)
        rw [z] at h5
        omega
      by_cases h5 : fstq b y.toNat ≤ m - 1
      · rw [if_pos ⟨h3, h5⟩, if_pos ⟨h3, by omega⟩]
      · rw [if_neg (fun z => h5 z.2), if_neg (fun z => by have := z.2; omega)]
    · rw [if_neg (fun z => h3 z.1), if_neg (fun z => h3 z.1)]
/-- the parts, as they are | as they should be -/
def ptsL (t : Tb) (b m : Nat) : List (Option Sh) := (List.range (cl m b)).map fun k => part (ent t m) (k * b) (min (k * b + b) m)
def entL (t : Tb) (b m : Nat) : List (Option Sh) := (List.range (cl m b)).map fun k => some (ent t (min b (m - k * b)))
theorem pts_iff (t : Tb) (b m : Nat) : decide (ptsL t b m = entL t b m) = wst t b m := by
  rw [wst_eq, Bool.eq_iff_iff, decide_eq_true_iff, List.all_eq_true]
  unfold ptsL entL wstK
  constructor
  · intro h k hk
    have h2 := List.map_inj_left.mp h k hk
    rw [decide_eq_true_iff, h2]
    congr 2
    omega
  · intro h
    refine List.map_congr_left fun k hk => ?_
    have h2 := of_decide_eq_true (h k hk)
    rw [h2]
    congr 2
    omega
section
variable {P : Program} {w : World} {K : PySem.W.Frag} {mg : Str → Option Value} {base : Heap}
abbrev opL (l : List (Option Sh)) : List PyData := l.map optD
theorem opL_eqv (l l' : List (Option Sh)) : PyData.eqv (.list (opL l)) (.list (opL l')) = decide (l = l') := eqv_list opt_eqv l l'
theorem pts_nice {t : Tb} (hg : gT t) {b m : Nat} (h1 : 1 ≤ m) (h2 : m ≤ t.length + 1) : SeqAt.shaped (.list (opL (ptsL t b m))) = true := (nice_list (n := 12) (nice_map fun o ho => by
  unfold ptsL at ho
  obtain ⟨k, _, rfl⟩ := List.mem_map.mp ho
  exact nice_opt (n := 11) fun u hu => Nat.le_trans (part_ht _ _ _ _ hu) (gT_ht hg h1 h2))).shaped
theorem ent_nice {t : Tb} (hg : gT t) {b m : Nat} (hb : 1 ≤ b) (hb2 : b ≤ t.length + 1) : SeqAt.shaped (.list (opL (entL t b m))) = true := (nice_list (n := 12) (nice_map fun o ho => by
  unfold entL at ho
  obtain ⟨k, hk, rfl⟩ := List.mem_map.mp ho
  rw [List.mem_range] at hk
  have := cl_lt (by omega) hk
  exact nice_sh (n := 11) (gT_ht hg (by omega) (by omega)))).shaped
theorem sc_law_is_cut : FnScope ["_law_table_here", "_law_b", "_law_size_here", "_law_found", "_law_m", "_law_form", "_law_above_here", "_law_parts", "_law_k"] ["_law_table_here", "_law_b"] (defScope s_law_is_cut) := ⟨rfl, rfl, rfl, by decide +kernel, rfl, by decide +kernel, by decide +kernel⟩
theorem stLN {t : Tb} {b i n : Nat} {p : Addr} {w5 w6 w7 : Slot} (hb : 2 ≤ b) : ([pd (tbD t), pi (b : Nat), pi (n : Nat), .own (dctO p i (gS t b (i + 1))), pi ((i + 2 : Nat) : Int), w5, w6, w7, .no] : List Slot).set 3 (.own (dctO p (i + 1) fun y => if y = ((cl (i + 2) b : Nat) : Int) then some ((gS t b (i + 1) ((cl (i + 2) b : Nat) : Int)).getD (py (shD (abvT t b (i + 2))))) else gS t b (i + 1) y))
    = [pd (tbD t), pi (b : Nat), pi (n : Nat), .own (dctO p (i + 1) (gS t b (i + 2))), pi ((i + 2 : Nat) : Int), w5, w6, w7, .no] := by
  have h1 := gS_at (t := t) (b := b) (m := i + 2) hb (by omega)
  have h2 := gS_put (t := t) (b := b) (m := i + 2) hb (by omega)
  have e : i + 2 - 1 = i + 1 := rfl
  rw [e] at h1 h2
  rw [h1, h2]
  rfl
theorem c_law_is_cut (Z : Pg K mg) : FnC P w K mg base 61 "_law_is_cut" (PreD (fun i : Tb × Nat => gT i.1 ∧ 2 ≤ i.2 ∧ i.2 ≤ i.1.length) (fun i => [pd (tbD i.1), pi (i.2 : Nat)]) (fun i => pb (cutB i.1 i.2))) := by
  refine FnC.ofD Z.f_law_is_cut sc_law_is_cut (fun _ _ _ _ _ _ us hl => match us, hl with | [_, _], _ => rfl) (fun _ => rfl) (fun cdv A outer s H E hr i hi => ?_)
  obtain ⟨t, b⟩ := i
  obtain ⟨hg, hb1, hb2⟩ : gT t ∧ 2 ≤ b ∧ b ≤ t.length := hi
  have hlen := hg.2
  have esz : (((t.length + 1 : Nat) : Int) % (b : Nat) = 0) ↔ ((t.length + 1) % b = 0) := by omega
  have hmod : ∀ {z : Bool}, decide ((t.length + 1) % b = 0) = z → (!decide (((t.length + 1 : Nat) : Int) % (b : Nat) = 0)) = !z := fun hz => by
    rw [← hz]
    congr 1
    exact decide_eq_decide.mpr esz
  show DSs _ _ [pd (tbD t), pi (b : Nat), .no, .no, .no, .no, .no, .no, .no] (.rt (fun w => w = pb (cutB t b)) [])
  refine dss_par2 2 3 (DE.to (de_add (de_lent (ds := shs t) Z.n_len (de_var (i := 0) rfl)) de_int) (w' := pi (t.length + 1 : Nat)) (by rw [List.length_map]; rfl)) we_dct sc_law_is_cut.nd (fun w1 w2 hw1 hw2 => ?_) (Nat.zero_le _)
  subst hw1
  obtain ⟨p, rfl⟩ := hw2
  cases hz : decide ((t.length + 1) % b = 0) with
  | false =>
    have e : cutB t b = false := by rw [cutB_eq, hz]; rfl
    rw [e]
    exact dss_rt (ds_ifT (DT.t (dt_neI (de_mod (de_int1 Z.n_int (de_var (i := 2) rfl)) (de_var (i := 1) rfl) (by omega)) de_int) (hmod hz)) (dss_one (ds_ret 0 de_bl)))
  | true =>
    have e0 : cutB t b = (List.range t.length).all fun i => okM t b (i + 2) := by rw [cutB_eq, hz]; rfl
    rw [gS_none (t := t) hb1]
    refine dss_cons (S1 := [pd (tbD t), pi (b : Nat), pi (t.length + 1 : Nat), .own (dctO p 0 (gS t b 1)), .no, .no, .no, .no, .no]) (ds_ifF (DT.f (dt_neI (de_mod (de_int1 Z.n_int (de_var (i := 2) rfl)) (de_var (i := 1) rfl) (by omega)) de_int) (hmod hz)) dss_nil) ?_
    have hrange : ((nums 2 (((t.length + 1 : Nat) : Int) + 1 - 2).toNat)).length = t.length := by rw [nums_len]; omega
    have habv : ∀ m, 1 ≤ m → m ≤ t.length + 1 → SeqAt.shaped (shD (abvT t b m)) = true := fun m h1 h2 => nh (n := 11) (Nat.le_trans (abv_ht _ _ _) (gT_ht hg h1 h2))
    have estops : ∀ m, (List.range (cl m b)).map (fun k => min (k * b + b) m) = stops m b := fun m => by unfold stops stret; rw [List.map_map]; rfl
    have etop : ∀ m, m ≤ t.length + 1 → (stops m b).length ≤ 1000 := fun m hm => by unfold stops; rw [List.length_map, stret_len]; have : cl m b ≤ m := cl_le (by omega); omega
    have hcl : ∀ m, cl m b ≤ m := fun m => cl_le (by omega)
    have em : ∀ k m : Nat, (if ((m : Nat) : Int) < 0 + (k : Int) * (b : Nat) + (b : Nat) then ((m : Nat) : Int) else 0 + (k : Int) * (b : Nat) + (b : Nat)) = ((min (k * b + b) m : Nat) : Int) := fun k m => zm
    have en : ∀ k m : Nat, k * b < m → (if ((m : Nat) : Int) - (0 + (k : Int) * (b : Nat)) < ((b : Nat) : Int) then ((m : Nat) : Int) - (0 + (k : Int) * (b : Nat)) else ((b : Nat) : Int)) = ((min b (m - k * b) : Nat) : Int) := fun k m h => by
      rw [zb, show ((m : Nat) : Int) - ((k * b : Nat) : Int) = ((m - k * b : Nat) : Int) by omega]
      exact zmin
    rcases least (fun i => okM t b (i + 2)) t.length with ⟨n0, hn1, hn2, hn3⟩ | hall
    · have hw : cutB t b = false := by
        rw [e0]
        cases q : (List.range t.length).all fun i => okM t b (i + 2) with
        | false => rfl
        | true =>
          rw [List.all_eq_true] at q
          rw [q n0 (List.mem_range.mpr hn1)] at hn2
          cases hn2
      rw [hw]
      refine dss_rt (ds_for_rt (S' := []) n0 (fun i => [pd (tbD t), pi (b : Nat), pi (t.length + 1 : Nat), .own (dctO p i (gS t b (i + 1))), .no, .no, .no, .no, .no])
        (di_range2 Z.n_range de_int (de_add (de_var (i := 2) rfl) de_int) (by omega) (by omega))
        (fun i R hi0 hR => ?_) (by rw [hrange]; exact hn1) (fun R hR => ?_))
      · obtain ⟨hi, rfl⟩ := nums_of2 hR
        have i0 : i < t.length := by omega
        have hk2 : wst t b (i + 2) = true ∧ decide (abvT t b (fstq b (cl (i + 2) b)) = abvT t b (i + 2)) = true := Bool.and_eq_true_iff.mp (hn3 i hi0)
        have hws := hk2.1
        have hpt : decide (ptsL t b (i + 2) = entL t b (i + 2)) = true := by rw [pts_iff]; exact hws
        have hlo := labvT hg (by omega : 1 ≤ b) (by omega : 1 ≤ i + 2) (by omega) hws
        have hsz := abvT_size hg (by omega : 1 ≤ b) (by omega : 1 ≤ i + 2) (by omega) hws
        have hf1 := fst_le (b := b) (m := i + 2) hb1 (by omega)
        have hf2 := fst_two (b := b) (q := cl (i + 2) b) hb1 (cl_pos (by omega) (by omega))
        have hht := gT_ht hg (m := i + 2) (by omega) (by omega)
        refine ⟨_, dg_name 4 sc_law_is_cut.nd, .inl ?_⟩
        refine dss_forget 4 (S' := _) (dss_forget 5 (S' := _) (dss_forget 6 (S' := _) (dss_forget 7 (S' := [pd (tbD t), pi (b : Nat), pi (t.length + 1 : Nat), .own (dctO p (i + 1) (gS t b (i + 2))), pi ((i + 2 : Nat) : Int), pd (shD (ent t (i + 2))), pd (shD (abvT t b (i + 2))), pl (opL (ptsL t b (i + 2))), .no]) ?_)))
        refine dss_cons (S1 := [pd (tbD t), pi (b : Nat), pi (t.length + 1 : Nat), .own (dctO p i (gS t b (i + 1))), pi ((i + 2 : Nat) : Int), pd (shD (ent t (i + 2))), .no, .no, .no]) (ds_set 5 (we_call (c_law_entry Z) (hr.mono (by omega)) (da2 (de_var (i := 0) rfl) (de_var (i := 4) rfl)) ⟨(t, i + 2), ⟨by show 1 ≤ i + 2; omega, by show i + 2 ≤ t.length + 1; omega⟩, rfl, rfl, rfl⟩) sc_law_is_cut.nd) ?_
        refine dss_cons (S1 := [pd (tbD t), pi (b : Nat), pi (t.length + 1 : Nat), .own (dctO p i (gS t b (i + 1))), pi ((i + 2 : Nat) : Int), pd (shD (ent t (i + 2))), pd (optD (labv (ent t (i + 2)) (stops (i + 2) b))), .no, .no]) (ds_set 6 (we_call (c_law_above Z 11 (by omega)) (hr.mono (by omega)) (da2 (de_var (i := 5) rfl) (DE.to (de_lcP (own := [("_law_k", 8)]) (g := fun (k : Nat) => py (.int (0 + (k : Int) * (b : Nat)))) (xs := List.range (cl (i + 2) b)) (ys := fun (k : Nat) => .int ((min (k * b + b) (i + 2) : Nat) : Int)) 8 sc_law_is_cut.nd (show BlkOk ["_law_table_here", "_law_b", "_law_size_here", "_law_found", "_law_m", "_law_form", "_law_above_here", "_law_parts", "_law_k"] (defScope s_law_is_cut) _ _ from ⟨rfl, by decide +kernel, by decide +kernel, by decide +kernel, by decide +kernel⟩)
          (di_range3 Z.n_range de_int (de_var (i := 4) rfl) (de_var (i := 1) rfl) (rgC_pos (by omega) (by omega) (by omega))) (few (by rw [List.length_range]; have := hcl (i + 2); omega)) (by decide) (no1 rfl)
          (fun k hk s H C cl fp => DE.to (de_min Z.n_min (de_add (de_var (i := 8) rfl) (de_var (i := 1) rfl)) (de_var (i := 4) rfl)) (by rw [em]))) (by show _ = pl (nsD (stops (i + 2) b)); rw [← estops]; unfold nsD; rw [List.map_map]; rfl))) ⟨(ent t (i + 2), stops (i + 2) b), ⟨hht, etop (i + 2) (by omega)⟩, rfl, rfl, rfl⟩) sc_law_is_cut.nd) ?_
        refine dss_setLcP (own := [("_law_k", 8)]) (g := fun (k : Nat) => py (.int (0 + (k : Int) * (b : Nat)))) (xs := List.range (cl (i + 2) b)) (ys := fun (k : Nat) => optD (part (ent t (i + 2)) (k * b) (min (k * b + b) (i + 2)))) 7 8 sc_law_is_cut.nd (show BlkOk ["_law_table_here", "_law_b", "_law_size_here", "_law_found", "_law_m", "_law_form", "_law_above_here", "_law_parts", "_law_k"] (defScope s_law_is_cut) _ _ from ⟨rfl, by decide +kernel, by decide +kernel, by decide +kernel, by decide +kernel⟩)
          (di_range3 Z.n_range de_int (de_var (i := 4) rfl) (de_var (i := 1) rfl) (rgC_pos (by omega) (by omega) (by omega))) (few (by rw [List.length_range]; have := hcl (i + 2); omega)) (by decide) (no1 rfl)
          (fun k hk s H C cl fp => we_call (c_law_part Z 11 (by omega)) (hr.mono (by omega)) (da3 (de_var (i := 5) rfl) (DE.to (de_var (i := 8) rfl) (by rw [zb])) (DE.to (de_min Z.n_min (de_add (de_var (i := 8) rfl) (de_var (i := 1) rfl)) (de_var (i := 4) rfl)) (by rw [em]))) ⟨(ent t (i + 2), k * b, min (k * b + b) (i + 2)), hht, rfl, rfl, rfl⟩) ?_ rfl
        rw [show (List.range (cl (i + 2) b)).map (fun (k : Nat) => optD (part (ent t (i + 2)) (k * b) (min (k * b + b) (i + 2)))) = opL (ptsL t b (i + 2)) by unfold ptsL opL; rw [List.map_map]; rfl]
        show DSs _ _ [pd (tbD t), pi (b : Nat), pi (t.length + 1 : Nat), .own (dctO p i (gS t b (i + 1))), pi ((i + 2 : Nat) : Int), pd (shD (ent t (i + 2))), pd (optD (labv (ent t (i + 2)) (stops (i + 2) b))), pl (opL (ptsL t b (i + 2))), .no] _
        rw [hlo]
        refine dss_cons (S1 := [pd (tbD t), pi (b : Nat), pi (t.length + 1 : Nat), .own (dctO p i (gS t b (i + 1))), pi ((i + 2 : Nat) : Int), pd (shD (ent t (i + 2))), pd (shD (abvT t b (i + 2))), pl (opL (ptsL t b (i + 2))), .no]) (ds_ifF (DW.t (dw_orF (dt_isN (de_var (i := 6) rfl) non_sh) (dw_or1 (DT.f (dt_neD (d' := .list (opL (entL t b (i + 2)))) hr (DE.conv (de_var (i := 7) rfl) lst_py) (DE.conv (DE.to (de_lcP (own := [("_law_k", 8)]) (g := fun (k : Nat) => py (.int (0 + (k : Int) * (b : Nat)))) (xs := List.range (cl (i + 2) b)) (ys := fun (k : Nat) => shD (ent t (min b (i + 2 - k * b)))) 8 sc_law_is_cut.nd (show BlkOk ["_law_table_here", "_law_b", "_law_size_here", "_law_found", "_law_m", "_law_form", "_law_above_here", "_law_parts", "_law_k"] (defScope s_law_is_cut) _ _ from ⟨rfl, by decide +kernel, by decide +kernel, by decide +kernel, by decide +kernel⟩)
                        (di_range3 Z.n_range de_int (de_var (i := 4) rfl) (de_var (i := 1) rfl) (rgC_pos (by omega) (by omega) (by omega))) (few (by rw [List.length_range]; have := hcl (i + 2); omega)) (by decide) (no1 rfl)
                        (fun k hk s H C cl fp => we_call (c_law_entry Z) (hr.mono (by omega)) (da2 (de_var (i := 0) rfl) (DE.to (de_min Z.n_min (de_var (i := 1) rfl) (de_sub (de_var (i := 4) rfl) (de_var (i := 8) rfl))) (by rw [en k (i + 2) (cl_lt (by omega) (List.mem_range.mp hk))]))) ⟨(t, min b (i + 2 - k * b)), ⟨by have := cl_lt (m := i + 2) (b := b) (by omega) (List.mem_range.mp hk); show 1 ≤ min b (i + 2 - k * b); omega, by show min b (i + 2 - k * b) ≤ t.length + 1; omega⟩, rfl, rfl, rfl⟩)) (by show _ = pl (opL (entL t b (i + 2))); unfold entL opL; rw [List.map_map]; rfl)) lst_py)
                        (pts_nice hg (by omega) (by omega)) (ent_nice hg (by omega) (by omega)) rfl) (by rw [opL_eqv, hpt]; rfl))))) dss_nil) ?_
        refine stLN (t := t) (b := b) (i := i) (n := t.length + 1) (p := p) hb1 ▸ dss_one (ds_ifF (DT.f (dt_neD hr (DE.to (de_setd (i := 3) rfl (DE.to (we_call (c_law_size Z 11 (by omega)) (hr.mono (by omega)) (da1 (de_var (i := 6) rfl)) ⟨abvT t b (i + 2), Nat.le_trans (abv_ht _ _ _) hht, rfl, rfl, rfl⟩) (by show pi ((abvT t b (i + 2)).size : Nat) = _; rw [hsz])) rfl (de_var (i := 6) rfl) rfl (few (by omega)) ⟨rfl, rfl, rfl, rfl⟩) (congrArg Slot.dat (gS_at (t := t) (b := b) (m := i + 2) hb1 (by omega)))) (de_var (i := 6) rfl) (habv (fstq b (cl (i + 2) b)) (by omega) (by omega)) (habv (i + 2) (by omega) (by omega)) rfl) (by rw [sh_eqv, hk2.2]; rfl)) dss_nil)
      · obtain ⟨hi, rfl⟩ := nums_of2 hR
        have i0 : n0 < t.length := hn1
        have hf1 := fst_le (b := b) (m := n0 + 2) hb1 (by omega)
        have hf2 := fst_two (b := b) (q := cl (n0 + 2) b) hb1 (cl_pos (by omega) (by omega))
        have hht := gT_ht hg (m := n0 + 2) (by omega) (by omega)
        refine ⟨_, dg_name 4 sc_law_is_cut.nd, ?_⟩
        refine dss_cons (S1 := [pd (tbD t), pi (b : Nat), pi (t.length + 1 : Nat), .own (dctO p n0 (gS t b (n0 + 1))), pi ((n0 + 2 : Nat) : Int), pd (shD (ent t (n0 + 2))), .no, .no, .no]) (ds_set 5 (we_call (c_law_entry Z) (hr.mono (by omega)) (da2 (de_var (i := 0) rfl) (de_var (i := 4) rfl)) ⟨(t, n0 + 2), ⟨by show 1 ≤ n0 + 2; omega, by show n0 + 2 ≤ t.length + 1; omega⟩, rfl, rfl, rfl⟩) sc_law_is_cut.nd) ?_
        refine dss_cons (S1 := [pd (tbD t), pi (b : Nat), pi (t.length + 1 : Nat), .own (dctO p n0 (gS t b (n0 + 1))), pi ((n0 + 2 : Nat) : Int), pd (shD (ent t (n0 + 2))), pd (optD (labv (ent t (n0 + 2)) (stops (n0 + 2) b))), .no, .no]) (ds_set 6 (we_call (c_law_above Z 11 (by omega)) (hr.mono (by omega)) (da2 (de_var (i := 5) rfl) (DE.to (de_lcP (own := [("_law_k", 8)]) (g := fun (k : Nat) => py (.int (0 + (k : Int) * (b : Nat)))) (xs := List.range (cl (n0 + 2) b)) (ys := fun (k : Nat) => .int ((min (k * b + b) (n0 + 2) : Nat) : Int)) 8 sc_law_is_cut.nd (show BlkOk ["_law_table_here", "_law_b", "_law_size_here", "_law_found", "_law_m", "_law_form", "_law_above_here", "_law_parts", "_law_k"] (defScope s_law_is_cut) _ _ from ⟨rfl, by decide +kernel, by decide +kernel, by decide +kernel, by decide +kernel⟩)
          (di_range3 Z.n_range de_int (de_var (i := 4) rfl) (de_var (i := 1) rfl) (rgC_pos (by omega) (by omega) (by omega))) (few (by rw [List.length_range]; have := hcl (n0 + 2); omega)) (by decide) (no1 rfl)
          (fun k hk s H C cl fp => DE.to (de_min Z.n_min (de_add (de_var (i := 8) rfl) (de_var (i := 1) rfl)) (de_var (i := 4) rfl)) (by rw [em]))) (by show _ = pl (nsD (stops (n0 + 2) b)); rw [← estops]; unfold nsD; rw [List.map_map]; rfl))) ⟨(ent t (n0 + 2), stops (n0 + 2) b), ⟨hht, etop (n0 + 2) (by omega)⟩, rfl, rfl, rfl⟩) sc_law_is_cut.nd) ?_
        refine dss_setLcP (own := [("_law_k", 8)]) (g := fun (k : Nat) => py (.int (0 + (k : Int) * (b : Nat)))) (xs := List.range (cl (n0 + 2) b)) (ys := fun (k : Nat) => optD (part (ent t (n0 + 2)) (k * b) (min (k * b + b) (n0 + 2)))) 7 8 sc_law_is_cut.nd (show BlkOk ["_law_table_here", "_law_b", "_law_size_here", "_law_found", "_law_m", "_law_form", "_law_above_here", "_law_parts", "_law_k"] (defScope s_law_is_cut) _ _ from ⟨rfl, by decide +kernel, by decide +kernel, by decide +kernel, by decide +kernel⟩)
          (di_range3 Z.n_range de_int (de_var (i := 4) rfl) (de_var (i := 1) rfl) (rgC_pos (by omega) (by omega) (by omega))) (few (by rw [List.length_range]; have := hcl (n0 + 2); omega)) (by decide) (no1 rfl)
          (fun k hk s H C cl fp => we_call (c_law_part Z 11 (by omega)) (hr.mono (by omega)) (da3 (de_var (i := 5) rfl) (DE.to (de_var (i := 8) rfl) (by rw [zb])) (DE.to (de_min Z.n_min (de_add (de_var (i := 8) rfl) (de_var (i := 1) rfl)) (de_var (i := 4) rfl)) (by rw [em]))) ⟨(ent t (n0 + 2), k * b, min (k * b + b) (n0 + 2)), hht, rfl, rfl, rfl⟩) ?_ (Nat.zero_le _)
        rw [show (List.range (cl (n0 + 2) b)).map (fun (k : Nat) => optD (part (ent t (n0 + 2)) (k * b) (min (k * b + b) (n0 + 2)))) = opL (ptsL t b (n0 + 2)) by unfold ptsL opL; rw [List.map_map]; rfl]
        show DSs _ _ [pd (tbD t), pi (b : Nat), pi (t.length + 1 : Nat), .own (dctO p n0 (gS t b (n0 + 1))), pi ((n0 + 2 : Nat) : Int), pd (shD (ent t (n0 + 2))), pd (optD (labv (ent t (n0 + 2)) (stops (n0 + 2) b))), pl (opL (ptsL t b (n0 + 2))), .no] _
        cases hws : wst t b (n0 + 2) with
        | false =>
          have hpf : decide (ptsL t b (n0 + 2) = entL t b (n0 + 2)) = false := by rw [pts_iff]; exact hws
          cases hlo : labv (ent t (n0 + 2)) (stops (n0 + 2) b) with
          | none =>
            exact dss_rt (ds_ifT (DW.t (dw_orT (DT.to (dt_isN (de_var (i := 6) rfl) non_opt) rfl))) (dss_one (ds_ret 0 de_bl)))
          | some u =>
            exact dss_rt (ds_ifT (DW.t (dw_orF (DT.to (dt_isN (de_var (i := 6) rfl) non_opt) rfl) (dw_or1 (DT.t (dt_neD (d' := .list (opL (entL t b (n0 + 2)))) hr (DE.conv (de_var (i := 7) rfl) lst_py) (DE.conv (DE.to (de_lcP (own := [("_law_k", 8)]) (g := fun (k : Nat) => py (.int (0 + (k : Int) * (b : Nat)))) (xs := List.range (cl (n0 + 2) b)) (ys := fun (k : Nat) => shD (ent t (min b (n0 + 2 - k * b)))) 8 sc_law_is_cut.nd (show BlkOk ["_law_table_here", "_law_b", "_law_size_here", "_law_found", "_law_m", "_law_form", "_law_above_here", "_law_parts", "_law_k"] (defScope s_law_is_cut) _ _ from ⟨rfl, by decide +kernel, by decide +kernel, by decide +kernel, by decide +kernel⟩)
                (di_range3 Z.n_range de_int (de_var (i := 4) rfl) (de_var (i := 1) rfl) (rgC_pos (by omega) (by omega) (by omega))) (few (by rw [List.length_range]; have := hcl (n0 + 2); omega)) (by decide) (no1 rfl)
                (fun k hk s H C cl fp => we_call (c_law_entry Z) (hr.mono (by omega)) (da2 (de_var (i := 0) rfl) (DE.to (de_min Z.n_min (de_var (i := 1) rfl) (de_sub (de_var (i := 4) rfl) (de_var (i := 8) rfl))) (by rw [en k (n0 + 2) (cl_lt (by omega) (List.mem_range.mp hk))]))) ⟨(t, min b (n0 + 2 - k * b)), ⟨by have := cl_lt (m := n0 + 2) (b := b) (by omega) (List.mem_range.mp hk); show 1 ≤ min b (n0 + 2 - k * b); omega, by show min b (n0 + 2 - k * b) ≤ t.length + 1; omega⟩, rfl, rfl, rfl⟩)) (by show _ = pl (opL (entL t b (n0 + 2))); unfold entL opL; rw [List.map_map]; rfl)) lst_py)
                (pts_nice hg (by omega) (by omega)) (ent_nice hg (by omega) (by omega)) rfl) (by rw [opL_eqv, hpf]; rfl))))) (dss_one (ds_ret 0 de_bl)))
        | true =>
          have hpt : decide (ptsL t b (n0 + 2) = entL t b (n0 + 2)) = true := by rw [pts_iff]; exact hws
          have hlo := labvT hg (by omega : 1 ≤ b) (by omega : 1 ≤ n0 + 2) (by omega) hws
          have hsz := abvT_size hg (by omega : 1 ≤ b) (by omega : 1 ≤ n0 + 2) (by omega) hws
          rw [hlo]
          have hv : ¬ abvT t b (fstq b (cl (n0 + 2) b)) = abvT t b (n0 + 2) := fun z => by
            have h3 : (wst t b (n0 + 2) && decide (abvT t b (fstq b (cl (n0 + 2) b)) = abvT t b (n0 + 2))) = false := hn2
            rw [hws, decide_eq_true z] at h3
            cases h3
          refine dss_cons (S1 := [pd (tbD t), pi (b : Nat), pi (t.length + 1 : Nat), .own (dctO p n0 (gS t b (n0 + 1))), pi ((n0 + 2 : Nat) : Int), pd (shD (ent t (n0 + 2))), pd (shD (abvT t b (n0 + 2))), pl (opL (ptsL t b (n0 + 2))), .no]) (ds_ifF (DW.t (dw_orF (dt_isN (de_var (i := 6) rfl) non_sh) (dw_or1 (DT.f (dt_neD (d' := .list (opL (entL t b (n0 + 2)))) hr (DE.conv (de_var (i := 7) rfl) lst_py) (DE.conv (DE.to (de_lcP (own := [("_law_k", 8)]) (g := fun (k : Nat) => py (.int (0 + (k : Int) * (b : Nat)))) (xs := List.range (cl (n0 + 2) b)) (ys := fun (k : Nat) => shD (ent t (min b (n0 + 2 - k * b)))) 8 sc_law_is_cut.nd (show BlkOk ["_law_table_here", "_law_b", "_law_size_here", "_law_found", "_law_m", "_law_form", "_law_above_here", "_law_parts", "_law_k"] (defScope s_law_is_cut) _ _ from ⟨rfl, by decide +kernel, by decide +kernel, by decide +kernel, by decide +kernel⟩)
                (di_range3 Z.n_range de_int (de_var (i := 4) rfl) (de_var (i := 1) rfl) (rgC_pos (by omega) (by omega) (by omega))) (few (by rw [List.length_range]; have := hcl (n0 + 2); omega)) (by decide) (no1 rfl)
                (fun k hk s H C cl fp => we_call (c_law_entry Z) (hr.mono (by omega)) (da2 (de_var (i := 0) rfl) (DE.to (de_min Z.n_min (de_var (i := 1) rfl) (de_sub (de_var (i := 4) rfl) (de_var (i := 8) rfl))) (by rw [en k (n0 + 2) (cl_lt (by omega) (List.mem_range.mp hk))]))) ⟨(t, min b (n0 + 2 - k * b)), ⟨by have := cl_lt (m := n0 + 2) (b := b) (by omega) (List.mem_range.mp hk); show 1 ≤ min b (n0 + 2 - k * b); omega, by show min b (n0 + 2 - k * b) ≤ t.length + 1; omega⟩, rfl, rfl, rfl⟩)) (by show _ = pl (opL (entL t b (n0 + 2))); unfold entL opL; rw [List.map_map]; rfl)) lst_py)
                (pts_nice hg (by omega) (by omega)) (ent_nice hg (by omega) (by omega)) rfl) (by rw [opL_eqv, hpt]; rfl))))) dss_nil) ?_
          exact dss_rt (ds_ifT (DT.t (dt_neD hr (DE.to (de_setd (i := 3) rfl (DE.to (we_call (c_law_size Z 11 (by omega)) (hr.mono (by omega)) (da1 (de_var (i := 6) rfl)) ⟨abvT t b (n0 + 2), Nat.le_trans (abv_ht _ _ _) hht, rfl, rfl, rfl⟩) (by show pi ((abvT t b (n0 + 2)).size : Nat) = _; rw [hsz])) rfl (de_var (i := 6) rfl) rfl (few (by omega)) ⟨rfl, rfl, rfl, rfl⟩) (congrArg Slot.dat (gS_at (t := t) (b := b) (m := n0 + 2) hb1 (by omega)))) (de_var (i := 6) rfl) (habv (fstq b (cl (n0 + 2) b)) (by omega) (by omega)) (habv (n0 + 2) (by omega) (by omega)) rfl) (by rw [sh_eqv, decide_eq_false hv]; rfl)) (dss_one (ds_ret 0 de_bl)))
    · have hw : cutB t b = true := by
        rw [e0, List.all_eq_true]
        exact fun k hk => hall k (List.mem_range.mp hk)
      rw [hw]
      refine dss_cons (S1 := [pd (tbD t), pi (b : Nat), pi (t.length + 1 : Nat), .own (dctO p t.length (gS t b (t.length + 1))), .no, .no, .no, .no, .no]) (ds_forS (fun i => [pd (tbD t), pi (b : Nat), pi (t.length + 1 : Nat), .own (dctO p i (gS t b (i + 1))), .no, .no, .no, .no, .no])
        (di_range2 Z.n_range de_int (de_add (de_var (i := 2) rfl) de_int) (by omega) (by omega))
        (fun i R hR => ?_) (by rw [hrange])) (dss_one (ds_ret 0 de_bl))
      obtain ⟨hi, rfl⟩ := nums_of2 hR
      have i0 : i < t.length := by omega
      have hk2 : wst t b (i + 2) = true ∧ decide (abvT t b (fstq b (cl (i + 2) b)) = abvT t b (i + 2)) = true := Bool.and_eq_true_iff.mp (hall i (by omega))
      have hws := hk2.1
      have hpt : decide (ptsL t b (i + 2) = entL t b (i + 2)) = true := by rw [pts_iff]; exact hws
      have hlo := labvT hg (by omega : 1 ≤ b) (by omega : 1 ≤ i + 2) (by omega) hws
      have hsz := abvT_size hg (by omega : 1 ≤ b) (by omega : 1 ≤ i + 2) (by omega) hws
      have hf1 := fst_le (b := b) (m := i + 2) hb1 (by omega)
      have hf2 := fst_two (b := b) (q := cl (i + 2) b) hb1 (cl_pos (by omega) (by omega))
      have hht := gT_ht hg (m := i + 2) (by omega) (by omega)
      refine ⟨_, dg_name 4 sc_law_is_cut.nd, .inl ?_⟩
      refine dss_forget 4 (S' := _) (dss_forget 5 (S' := _) (dss_forget 6 (S' := _) (dss_forget 7 (S' := [pd (tbD t), pi (b : Nat), pi (t.length + 1 : Nat), .own (dctO p (i + 1) (gS t b (i + 2))), pi ((i + 2 : Nat) : Int), pd (shD (ent t (i + 2))), pd (shD (abvT t b (i + 2))), pl (opL (ptsL t b (i + 2))), .no]) ?_)))
      refine dss_cons (S1 := [pd (tbD t), pi (b : Nat), pi (t.length + 1 : Nat), .own (dctO p i (gS t b (i + 1))), pi ((i + 2 : Nat) : Int), pd (shD (ent t (i + 2))), .no, .no, .no]) (ds_set 5 (we_call (c_law_entry Z) (hr.mono (by omega)) (da2 (de_var (i := 0) rfl) (de_var (i := 4) rfl)) ⟨(t, i + 2), ⟨by show 1 ≤ i + 2; omega, by show i + 2 ≤ t.length + 1; omega⟩, rfl, rfl, rfl⟩) sc_law_is_cut.nd) ?_
      refine dss_cons (S1 := [pd (tbD t), pi (b : Nat), pi (t.length + 1 : Nat), .own (dctO p i (gS t b (i + 1))), pi ((i + 2 : Nat) : Int), pd (shD (ent t (i + 2))), pd (optD (labv (ent t (i + 2)) (stops (i + 2) b))), .no, .no]) (ds_set 6 (we_call (c_law_above Z 11 (by omega)) (hr.mono (by omega)) (da2 (de_var (i := 5) rfl) (DE.to (de_lcP (own := [("_law_k", 8)]) (g := fun (k : Nat) => py (.int (0 + (k : Int) * (b : Nat)))) (xs := List.range (cl (i + 2) b)) (ys := fun (k : Nat) => .int ((min (k * b + b) (i + 2) : Nat) : Int)) 8 sc_law_is_cut.nd (show BlkOk ["_law_table_here", "_law_b", "_law_size_here", "_law_found", "_law_m", "_law_form", "_law_above_here", "_law_parts", "_law_k"] (defScope s_law_is_cut) _ _ from ⟨rfl, by decide +kernel, by decide +kernel, by decide +kernel, by decide +kernel⟩)
        (di_range3 Z.n_range de_int (de_var (i := 4) rfl) (de_var (i := 1) rfl) (rgC_pos (by omega) (by omega) (by omega))) (few (by rw [List.length_range]; have := hcl (i + 2); omega)) (by decide) (no1 rfl)
        (fun k hk s H C cl fp => DE.to (de_min Z.n_min (de_add (de_var (i := 8) rfl) (de_var (i := 1) rfl)) (de_var (i := 4) rfl)) (by rw [em]))) (by show _ = pl (nsD (stops (i + 2) b)); rw [← estops]; unfold nsD; rw [List.map_map]; rfl))) ⟨(ent t (i + 2), stops (i + 2) b), ⟨hht, etop (i + 2) (by omega)⟩, rfl, rfl, rfl⟩) sc_law_is_cut.nd) ?_
      refine dss_setLcP (own := [("_law_k", 8)]) (g := fun (k : Nat) => py (.int (0 + (k : Int) * (b : Nat)))) (xs := List.range (cl (i + 2) b)) (ys := fun (k : Nat) => optD (part (ent t (i + 2)) (k * b) (min (k * b + b) (i + 2)))) 7 8 sc_law_is_cut.nd (show BlkOk ["_law_table_here", "_law_b", "_law_size_here", "_law_found", "_law_m", "_law_form", "_law_above_here", "_law_parts", "_law_k"] (defScope s_law_is_cut) _ _ from ⟨rfl, by decide +kernel, by decide +kernel, by decide +kernel, by decide +kernel⟩)
        (di_range3 Z.n_range de_int (de_var (i := 4) rfl) (de_var (i := 1) rfl) (rgC_pos (by omega) (by omega) (by omega))) (few (by rw [List.length_range]; have := hcl (i + 2); omega)) (by decide) (no1 rfl)
        (fun k hk s H C cl fp => we_call (c_law_part Z 11 (by omega)) (hr.mono (by omega)) (da3 (de_var (i := 5) rfl) (DE.to (de_var (i := 8) rfl) (by rw [zb])) (DE.to (de_min Z.n_min (de_add (de_var (i := 8) rfl) (de_var (i := 1) rfl)) (de_var (i := 4) rfl)) (by rw [em]))) ⟨(ent t (i + 2), k * b, min (k * b + b) (i + 2)), hht, rfl, rfl, rfl⟩) ?_ rfl
      rw [show (List.range (cl (i + 2) b)).map (fun (k : Nat) => optD (part (ent t (i + 2)) (k * b) (min (k * b + b) (i + 2)))) = opL (ptsL t b (i + 2)) by unfold ptsL opL; rw [List.map_map]; rfl]
      show DSs _ _ [pd (tbD t), pi (b : Nat), pi (t.length + 1 : Nat), .own (dctO p i (gS t b (i + 1))), pi ((i + 2 : Nat) : Int), pd (shD (ent t (i + 2))), pd (optD (labv (ent t (i + 2)) (stops (i + 2) b))), pl (opL (ptsL t b (i + 2))), .no] _
      rw [hlo]
      refine dss_cons (S1 := [pd (tbD t), pi (b : Nat), pi (t.length + 1 : Nat), .own (dctO p i (gS t b (i + 1))), pi ((i + 2 : Nat) : Int), pd (shD (ent t (i + 2))), pd (shD (abvT t b (i + 2))), pl (opL (ptsL t b (i + 2))), .no]) (ds_ifF (DW.t (dw_orF (dt_isN (de_var (i := 6) rfl) non_sh) (dw_or1 (DT.f (dt_neD (d' := .list (opL (entL t b (i + 2)))) hr (DE.conv (de_var (i := 7) rfl) lst_py) (DE.conv (DE.to (de_lcP (own := [("_law_k", 8)]) (g := fun (k : Nat) => py (.int (0 + (k : Int) * (b : Nat)))) (xs := List.range (cl (i + 2) b)) (ys := fun (k : Nat) => shD (ent t (min b (i + 2 - k * b)))) 8 sc_law_is_cut.nd (show BlkOk ["_law_table_here", "_law_b", "_law_size_here", "_law_found", "_law_m", "_law_form", "_law_above_here", "_law_parts", "_law_k"] (defScope s_law_is_cut) _ _ from ⟨rfl, by decide +kernel, by decide +kernel, by decide +kernel, by decide +kernel⟩)
                      (di_range3 Z.n_range de_int (de_var (i := 4) rfl) (de_var (i := 1) rfl) (rgC_pos (by omega) (by omega) (by omega))) (few (by rw [List.length_range]; have := hcl (i + 2); omega)) (by decide) (no1 rfl)
                      (fun k hk s H C cl fp => we_call (c_law_entry Z) (hr.mono (by omega)) (da2 (de_var (i := 0) rfl) (DE.to (de_min Z.n_min (de_var (i := 1) rfl) (de_sub (de_var (i := 4) rfl) (de_var (i := 8) rfl))) (by rw [en k (i + 2) (cl_lt (by omega) (List.mem_range.mp hk))]))) ⟨(t, min b (i + 2 - k * b)), ⟨by have := cl_lt (m := i + 2) (b := b) (by omega) (List.mem_range.mp hk); show 1 ≤ min b (i + 2 - k * b); omega, by show min b (i + 2 - k * b) ≤ t.length + 1; omega⟩, rfl, rfl, rfl⟩)) (by show _ = pl (opL (entL t b (i + 2))); unfold entL opL; rw [List.map_map]; rfl)) lst_py)
                      (pts_nice hg (by omega) (by omega)) (ent_nice hg (by omega) (by omega)) rfl) (by rw [opL_eqv, hpt]; rfl))))) dss_nil) ?_
      refine stLN (t := t) (b := b) (i := i) (n := t.length + 1) (p := p) hb1 ▸ dss_one (ds_ifF (DT.f (dt_neD hr (DE.to (de_setd (i := 3) rfl (DE.to (we_call (c_law_size Z 11 (by omega)) (hr.mono (by omega)) (da1 (de_var (i := 6) rfl)) ⟨abvT t b (i + 2), Nat.le_trans (abv_ht _ _ _) hht, rfl, rfl, rfl⟩) (by show pi ((abvT t b (i + 2)).size : Nat) = _; rw [hsz])) rfl (de_var (i := 6) rfl) rfl (few (by omega)) ⟨rfl, rfl, rfl, rfl⟩) (congrArg Slot.dat (gS_at (t := t) (b := b) (m := i + 2) hb1 (by omega)))) (de_var (i := 6) rfl) (habv (fstq b (cl (i + 2) b)) (by omega) (by omega)) (habv (i + 2) (by omega) (by omega)) rfl) (by rw [sh_eqv, hk2.2]; rfl)) dss_nil)
end
end Lh
end
section
set_option Elab.async false
set_option linter.all false
set_option maxRecDepth 100000
set_option maxHeartbeats 4000000
namespace Lh
open PySem PySem.Spec PyProof.Rows L2
theorem first_cut {t : Tb} {n0 : Nat} (h1 : n0 < t.length - 1) (h2 : cutB t (n0 + 2) = true) (h3 : ∀ j, j < n0 → cutB t (j + 2) = false) : ∃ bs, cuts t = (n0 + 2) :: bs := by
  have e : (cuts t).head? = some (n0 + 2) := by
    unfold cuts from2
    rw [List.head?_filter, List.find?_map]
    have h4 : (List.range (t.length - 1)).find? (cutB t ∘ (· + 2)) = some n0 := by
      rw [List.find?_range_eq_some]
      refine ⟨h2, List.mem_range.mpr h1, fun j hj => ?_⟩
      show (!cutB t (j + 2)) = true
      rw [h3 j hj]
      rfl
    rw [h4]
    rfl
  cases q : cuts t with
  | nil => rw [q] at e; cases e
  | cons b bs =>
    rw [q] at e
    have : b = n0 + 2 := Option.some.inj e
    exact ⟨bs, by rw [this]⟩
theorem no_cut {t : Tb} (h : ∀ j, j < t.length - 1 → cutB t (j + 2) = false) : cuts t = [] := by
  unfold cuts from2
  rw [List.filter_eq_nil_iff]
  intro b hb z
  obtain ⟨k, hk, rfl⟩ := List.mem_map.mp hb
  rw [h k (List.mem_range.mp hk)] at z
  cases z
theorem fuel_primes {k : Nat} {t : Tb} (hg : gT t) (h : t.length ≤ k) : primesF k t = primes t := by
  obtain ⟨n, e1, e2, e3, _⟩ := prime_steps k t hg h
  obtain ⟨m, f1, f2, f3, _⟩ := prime_steps t.length t hg (Nat.le_refl _)
  have e : n = m := by
    rcases Nat.lt_trichotomy n m with z | z | z
    · exact absurd e3 (f2 n z)
    · exact z
    · exact absurd f3 (e2 m z)
  unfold primes
  rw [e1, f1, e]
section
variable {P : Program} {w : World} {K : PySem.W.Frag} {mg : Str → Option Value} {base : Heap}
theorem sc_law_behind : FnScope ["_law_table_here", "_law_b", "_law_found", "_law_j", "_law_k"] ["_law_table_here", "_law_b"] (defScope s_law_behind) := ⟨rfl, rfl, rfl, by decide +kernel, rfl, by decide +kernel, by decide +kernel⟩
theorem c_law_behind (Z : Pg K mg) : FnC P w K mg base 15 "_law_behind" (PreD (fun i : Tb × Nat => gT i.1 ∧ 2 ≤ i.2 ∧ i.2 ≤ i.1.length ∧ cutB i.1 i.2 = true) (fun i => [pd (tbD i.1), pi (i.2 : Nat)]) (fun i => pd (tbD (behP i.1 i.2)))) := by
  refine FnC.ofD Z.f_law_behind sc_law_behind (fun _ _ _ _ _ _ us hl => match us, hl with | [_, _], _ => rfl) (fun _ => rfl) (fun cdv A outer s H E hr i hi => ?_)
  obtain ⟨t, b⟩ := i
  obtain ⟨hg, h1, h2, h3⟩ : gT t ∧ 2 ≤ b ∧ b ≤ t.length ∧ cutB t b = true := hi
  have hlen := hg.2
  obtain ⟨hm1, hm2⟩ := cut_mul h3 h1 h2
  have hbl : (behP t b).length = (t.length + 1) / b - 1 := beh_len
  have hdiv : (t.length + 1) / b ≤ t.length + 1 := Nat.div_le_self _ _
  have ei : ((t.length + 1 : Nat) : Int) / (b : Nat) = (((t.length + 1) / b : Nat) : Int) := (Int.natCast_ediv _ _).symm
  generalize hD : (t.length + 1) / b = D at hm1 hm2 hbl hdiv ei
  show DSs _ _ [pd (tbD t), pi (b : Nat), .no, .no, .no] (.rt (fun w => w = pd (tbD (behP t b))) [])
  refine dss_new 2 (we_lstO (Rs := []) da_nil (Nat.zero_le _)) sc_law_behind.nd (fun w hw => ?_) (Nat.zero_le _)
  obtain ⟨p, rfl⟩ := hw
  have en : (((D : Nat) : Int) + 1 - 2).toNat = D - 1 := by omega
  refine dss_cons (S1 := [pd (tbD t), pi (b : Nat), .own (lstO p (shR (behP t b))), .no, .no]) (ds_forS (fun i => [pd (tbD t), pi (b : Nat), .own (lstO p (shR ((behP t b).take i))), .no, .no])
    (di_range2 Z.n_range de_int (de_add (DE.to (de_fdiv (de_add (de_lent (ds := shs t) Z.n_len (de_var (i := 0) rfl)) de_int) (de_var (i := 1) rfl) ⟨by omega, by omega⟩) (w' := pi (D : Nat)) (by rw [List.length_map]; exact congrArg pi ei)) de_int) (by omega) (by omega)) (fun i R hR => ?_) (by rw [nums_len, en, List.take_of_length_le (by omega)])) ?_
  · obtain ⟨hi, rfl⟩ := nums_of2 hR
    rw [en] at hi
    have hm : (i + 2) * b ≤ D * b := Nat.mul_le_mul_right b (by omega)
    have hmm : 2 * 1 ≤ (i + 2) * b := Nat.mul_le_mul (by omega) (by omega)
    have hlo : labv (ent t ((i + 2) * b)) ((List.range (i + 2)).map fun k => b * (k + 1)) = some (abvT t b ((i + 2) * b)) := by
      rw [stops_mul (by omega), labvT hg (by omega) (by omega) (by omega) ((cut_iff.mp h3).2 _ (by omega) (by omega)).1]
    have et : (behP t b).take (i + 1) = (behP t b).take i ++ [abvT t b ((i + 2) * b)] := by
      rw [List.take_succ, beh_get (by omega)]
      rfl
    have ekn : (((i + 2 : Nat) : Int) + 1 - 1).toNat = i + 2 := by omega
    rw [et]
    refine ⟨_, dg_name 3 sc_law_behind.nd, .inl (dss_forget 3 (S' := [pd (tbD t), pi (b : Nat), .own (lstO p (shR ((behP t b).take i ++ [abvT t b ((i + 2) * b)]))), pi ((i + 2 : Nat) : Int), .no]) ?_)⟩
    exact dss_one (ds_append (R := py (shD (abvT t b ((i + 2) * b)))) 2 (DE.to (we_call (c_law_above Z 11 (by omega)) (hr.mono (by omega)) (da2 (we_call (c_law_entry Z) (hr.mono (by omega)) (da2 (de_var (i := 0) rfl) (DE.to (de_mul (de_var (i := 3) rfl) (de_var (i := 1) rfl) (.inr (by omega))) (by rw [← Int.natCast_mul]))) ⟨(t, (i + 2) * b), ⟨by show 1 ≤ (i + 2) * b; omega, by show (i + 2) * b ≤ t.length + 1; omega⟩, rfl, rfl, rfl⟩)
      (DE.to (de_lcP (own := [("_law_k", 4)]) (xs := List.range (((i + 2 : Nat) : Int) + 1 - 1).toNat) (g := fun (k : Nat) => py (.int (1 + (k : Int)))) (ys := fun (k : Nat) => .int ((b * (k + 1) : Nat) : Int)) 4 sc_law_behind.nd
        (show BlkOk ["_law_table_here", "_law_b", "_law_found", "_law_j", "_law_k"] (defScope s_law_behind) _ _ from ⟨rfl, by decide +kernel, by decide +kernel, by decide +kernel, by decide +kernel⟩)
        (di_range2 Z.n_range de_int (de_add (de_var (i := 3) rfl) de_int) (by omega) (by omega)) (few (by rw [List.length_range]; omega)) (by decide) (no1 rfl)
        (fun k hk s H C cl fp => DE.to (de_mul (de_var (i := 1) rfl) (de_var (i := 4) rfl) (.inl (by omega))) (by rw [show (1 : Int) + (k : Int) = ((k + 1 : Nat) : Int) by omega, ← Int.natCast_mul]))) (by rw [ekn]; show _ = pl (nsD ((List.range (i + 2)).map fun k => b * (k + 1))); unfold nsD; rw [List.map_map]; rfl)))
      ⟨(ent t ((i + 2) * b), (List.range (i + 2)).map fun k => b * (k + 1)), ⟨gT_ht hg (by omega) (by omega), by rw [List.length_map, List.length_range]; omega⟩, rfl, rfl, rfl⟩) (congrArg (fun o => pd (optD o)) hlo)) rfl rfl (few (by rw [List.length_map, List.length_take]; omega)) (by show _ = [_, _, Slot.own (lstO p (((behP t b).take i ++ _).map fun s => py (shD s))), _, _]; rw [List.map_append]; rfl))
  · refine dss_freeze (i := 2) rfl (dss_one (ds_ret 0 (de_tupleL Z.n_tuple (DE.to (de_var (i := 2) rfl) (by show Slot.dat (lstR ((behP t b).map fun s => py (shD s))) = Slot.dat (lstR (((behP t b).map shD).map py)); rw [List.map_map]; rfl)))))
theorem sc_law_primes : FnScope ["_law_table_here", "_law_b"] ["_law_table_here"] (defScope s_law_primes) := ⟨rfl, rfl, rfl, by decide +kernel, rfl, by decide +kernel, by decide +kernel⟩
theorem c_law_primesF (Z : Pg K mg) : ∀ k, FnC P w K mg base (k + 62) "_law_primes" (PreD (fun t : Tb => gT t ∧ t.length ≤ k) (fun t => [pd (tbD t)]) (fun t => pl (tbs (primes t)))) := by
  intro k
  induction k with
  | zero =>
    refine FnC.ofD Z.f_law_primes sc_law_primes (fun _ _ _ _ _ _ us hl => match us, hl with | [_], _ => rfl) (fun _ => rfl) (fun cdv A outer s H E hr t hi => ?_)
    obtain ⟨hg, hl⟩ : gT t ∧ t.length ≤ 0 := hi
    have := gT_pos hg
    omega
  | succ k ih =>
    refine FnC.ofD Z.f_law_primes sc_law_primes (fun _ _ _ _ _ _ us hl => match us, hl with | [_], _ => rfl) (fun _ => rfl) (fun cdv A outer s H E hr t hi => ?_)
    obtain ⟨hg, hl⟩ : gT t ∧ t.length ≤ k + 1 := hi
    have hlen := hg.2
    have hrange : ((nums 2 ((((shs t).length : Nat) : Int) + 1 - 2).toNat)).length = t.length - 1 := by rw [nums_len, List.length_map]; omega
    have hRr : ∀ {i R}, (nums 2 ((((shs t).length : Nat) : Int) + 1 - 2).toNat)[i]? = some R → i < t.length - 1 ∧ R = py (.int ((i + 2 : Nat) : Int)) := fun h => by
      obtain ⟨h1, h2⟩ := nums_of2 h
      rw [List.length_map] at h1
      exact ⟨by omega, h2⟩
    rw [← fuel_primes hg hl]
    rcases least (fun i => !cutB t (i + 2)) (t.length - 1) with ⟨n0, hn1, hn2, hn3⟩ | hall
    · have hc : cutB t (n0 + 2) = true := by simpa using hn2
      obtain ⟨bs, q⟩ := first_cut hn1 hc (fun j hj => by simpa using hn3 j hj)
      obtain ⟨g1, g2⟩ := gT_beh hg (by omega : 2 ≤ n0 + 2) (by omega) hc
      have eP : primesF (k + 1) t = t.take (n0 + 2 - 1) :: primesF k (behP t (n0 + 2)) := by
        show (match cuts t with
          | [] => [t]
          | b :: _ => t.take (b - 1) :: primesF k (behP t b)) = _
        rw [q]
      rw [eP, fuel_primes g1 (by omega)]
      have hpf := primes_few g1
      refine dss_rt (ds_for_rt (S' := []) n0 (fun _ => [pd (tbD t), .no]) (di_range2 Z.n_range de_int (de_add (de_lent (ds := shs t) Z.n_len (de_var (i := 0) rfl)) de_int) (by omega) (by rw [List.length_map]; omega)) (fun i R hi0 hR => ?_) (by rw [hrange]; exact hn1) (fun R hR => ?_))
      · obtain ⟨hi, rfl⟩ := hRr hR
        have hF : cutB t (i + 2) = false := by simpa using hn3 i hi0
        exact ⟨_, dg_name 1 sc_law_primes.nd, .inl (dss_forget 1 (S' := [pd (tbD t), pi ((i + 2 : Nat) : Int)]) (dss_one (ds_ifF (DT.f (dt_val (we_call (c_law_is_cut Z) (hr.mono (by omega)) (da2 (de_var (i := 0) rfl) (de_var (i := 1) rfl)) ⟨(t, i + 2), ⟨hg, by show 2 ≤ i + 2; omega, by show i + 2 ≤ t.length; omega⟩, rfl, rfl, rfl⟩)) hF) dss_nil)))⟩
      · obtain ⟨hi, rfl⟩ := hRr hR
        have ec : cutG (shs t) none (some (((n0 + 2 : Nat) : Int) - 1)) = shs (t.take (n0 + 2 - 1)) := by
          rw [show ((n0 + 2 : Nat) : Int) - 1 = ((n0 + 2 - 1 : Nat) : Int) by omega, cut_to]
          exact List.map_take.symm
        exact ⟨_, dg_name 1 sc_law_primes.nd, dss_one (ds_ifT (DT.t (dt_val (we_call (c_law_is_cut Z) (hr.mono (by omega)) (da2 (de_var (i := 0) rfl) (de_var (i := 1) rfl)) ⟨(t, n0 + 2), ⟨hg, by show 2 ≤ n0 + 2; omega, by show n0 + 2 ≤ t.length; omega⟩, rfl, rfl, rfl⟩)) hc) (dss_one (ds_ret 0 (DE.to (de_cat (de_lst1 (DE.to (de_slt (de_var (i := 0) rfl) dp_no (dp_int (de_sub (de_var (i := 1) rfl) de_int))) (congrArg (fun z => pd (.tuple z)) ec)))
          (we_call ih hr (da1 (we_call (c_law_behind Z) (hr.mono (by omega)) (da2 (de_var (i := 0) rfl) (de_var (i := 1) rfl)) ⟨(t, n0 + 2), ⟨hg, by show 2 ≤ n0 + 2; omega, by show n0 + 2 ≤ t.length; omega, hc⟩, rfl, rfl, rfl⟩)) ⟨behP t (n0 + 2), ⟨g1, by show (behP t (n0 + 2)).length ≤ k; omega⟩, rfl, rfl, rfl⟩) (few2 (by rw [List.length_map]; show 1 + _ ≤ _; omega))) rfl))))⟩
    · have q : cuts t = [] := no_cut (fun j hj => by simpa using hall j hj)
      have eP : primesF (k + 1) t = [t] := by
        show (match cuts t with
          | [] => [t]
          | b :: _ => t.take (b - 1) :: primesF k (behP t b)) = _
        rw [q]
      rw [eP]
      refine dss_cons (S1 := [pd (tbD t), .no]) (ds_forS (fun _ => [pd (tbD t), .no]) (di_range2 Z.n_range de_int (de_add (de_lent (ds := shs t) Z.n_len (de_var (i := 0) rfl)) de_int) (by omega) (by rw [List.length_map]; omega)) (fun i R hR => ?_) rfl) (dss_one (ds_ret 0 (de_lst1 (de_var (i := 0) rfl))))
      obtain ⟨hi, rfl⟩ := hRr hR
      have hF : cutB t (i + 2) = false := by simpa using hall i hi
      exact ⟨_, dg_name 1 sc_law_primes.nd, .inl (dss_forget 1 (S' := [pd (tbD t), pi ((i + 2 : Nat) : Int)]) (dss_one (ds_ifF (DT.f (dt_val (we_call (c_law_is_cut Z) (hr.mono (by omega)) (da2 (de_var (i := 0) rfl) (de_var (i := 1) rfl)) ⟨(t, i + 2), ⟨hg, by show 2 ≤ i + 2; omega, by show i + 2 ≤ t.length; omega⟩, rfl, rfl, rfl⟩)) hF) dss_nil)))⟩
theorem c_law_primes (Z : Pg K mg) : FnC P w K mg base 73 "_law_primes" (PreD (fun t : Tb => gT t ∧ t.length ≤ 11) (fun t => [pd (tbD t)]) (fun t => pl (tbs (primes t)))) := c_law_primesF Z 11
/-! the list of primes -/
def plist (p : Pl) (many : Nat) : List Tb := (prims p.ts ++ (List.replicate many (prims p.rd)).flatten).take many
theorem gL_plist {p : Pl} (h : gP p.ts p.rd) (n : Nat) : gL (plist p n) := gL_take (gL_app (gL_prims h.1) (gL_flat (gL_prims h.2.1)))
theorem sc_law_prime_list : FnScope ["_law_world", "_law_many", "_law_first", "_law_row", "_law_table_here"] ["_law_world", "_law_many"] (defScope s_law_prime_list) := ⟨rfl, rfl, rfl, by decide +kernel, rfl, by decide +kernel, by decide +kernel⟩
theorem prims_take (ts : List Tb) (i : Nat) (h : i < ts.length) : prims (ts.take (i + 1)) = prims (ts.take i) ++ primes ts[i] := by
  unfold prims
  rw [List.take_succ, List.getElem?_eq_getElem h, List.flatMap_append]
  simp
theorem getTs {ts : List Tb} {i : Nat} {R : Rel} (h : (ts.map fun t => py (tbD t))[i]? = some R) : ∃ hi : i < ts.length, R = py (tbD ts[i]) := by
  have hi : i < ts.length := by
    have := (List.getElem?_eq_some_iff.mp h).1
    rw [List.length_map] at this
    exact this
  refine ⟨hi, ?_⟩
  rw [List.getElem?_map, List.getElem?_eq_getElem hi] at h
  exact (Option.some.inj h).symm
theorem c_law_prime_list (Z : Pg K mg) : FnC P w K mg base 74 "_law_prime_list" (PreD (fun i : Pl × Option Rel × Nat => sP i.1 ∧ i.2.2 ≤ 4000) (fun i => [wlS i.1.ts i.1.rd i.2.1, pi (i.2.2 : Nat)]) (fun i => pl (tbs (plist i.1 i.2.2)))) := by
  refine FnC.ofD Z.f_law_prime_list sc_law_prime_list (fun _ _ _ _ _ _ us hl => match us, hl with | [_, _], _ => rfl) (fun _ => rfl) (fun cdv A outer s H E hr i hi => ?_)
  obtain ⟨p, o, many⟩ := i
  obtain ⟨⟨hg, hl1, hl2⟩, hm⟩ : sP p ∧ many ≤ 4000 := hi
  have q1 := prims_len hg.1
  have q2 := prims_len hg.2.1
  have f1 : ∀ i, (prims (p.ts.take i)).length ≤ 1000 := fun i => by
    have := prims_len (gL_take (n := i) hg.1)
    rw [List.length_take] at this
    omega
  have f2 : ∀ i, (prims (p.rd.take i)).length ≤ 1000 := fun i => by
    have := prims_len (gL_take (n := i) hg.2.1)
    rw [List.length_take] at this
    omega
  show DSs _ _ [wlS p.ts p.rd o, pi (many : Nat), .no, .no, .no] (.rt (fun w => w = pl (tbs (plist p many))) [])
  refine dss_cons (S1 := [wlS p.ts p.rd o, pi (many : Nat), pl (tbs (prims (p.ts.take 0))), pl (tbs (prims (p.rd.take 0))), .no]) (ds_par 2 3 (da2 de_lst0 de_lst0) sc_law_prime_list.nd) ?_
  refine dss_cons (S1 := [wlS p.ts p.rd o, pi (many : Nat), pl (tbs (prims p.ts)), pl (tbs (prims (p.rd.take 0))), .no]) (ds_forS (Rs := p.ts.map fun t => py (tbD t)) (fun i => [wlS p.ts p.rd o, pi (many : Nat), pl (tbs (prims (p.ts.take i))), pl (tbs (prims (p.rd.take 0))), .no]) (di_tup (R := py (tsD p.ts)) (de_wget hr (de_var (i := 0) rfl) (.inl ⟨rfl, rfl⟩)) isT_ts) (fun i R hR => ?_) (by rw [List.length_map, List.take_length])) ?_
  · obtain ⟨hi, rfl⟩ := getTs hR
    have hgi := hg.1 _ (List.getElem_mem hi)
    have hpf := primes_few hgi
    have := f1 i
    rw [prims_take p.ts i hi]
    refine ⟨_, dg_name 4 sc_law_prime_list.nd, .inl (dss_forget 4 (S' := [wlS p.ts p.rd o, pi (many : Nat), pl (tbs (prims (p.ts.take i) ++ primes p.ts[i])), pl (tbs (prims (p.rd.take 0))), pd (tbD p.ts[i])]) ?_)⟩
    exact dss_one (ds_set 2 (DE.to (de_cat (de_var (i := 2) rfl) (we_call (c_law_primes Z) hr (da1 (de_var (i := 4) rfl)) ⟨p.ts[i], ⟨hgi, hgi.2⟩, rfl, rfl, rfl⟩) (few2 (by rw [List.length_map, List.length_map]; omega))) (by show pl (List.map tbD _ ++ List.map tbD _) = _; rw [← List.map_append])) sc_law_prime_list.nd)
  refine dss_cons (S1 := [wlS p.ts p.rd o, pi (many : Nat), pl (tbs (prims p.ts)), pl (tbs (prims p.rd)), .no]) (ds_forS (Rs := p.rd.map fun t => py (tbD t)) (fun i => [wlS p.ts p.rd o, pi (many : Nat), pl (tbs (prims p.ts)), pl (tbs (prims (p.rd.take i))), .no]) (di_tup (R := py (tsD p.rd)) (de_ifT (dt_notInT (z := true) hr (de_wget hr (de_var (i := 0) rfl) (.inr (.inl ⟨rfl, rfl⟩))) (de_tup2 de_str de_str) (gL_nice hg.2.1).shaped (by decide +kernel) (by rw [ends_no]; rfl)) (de_wget hr (de_var (i := 0) rfl) (.inr (.inl ⟨rfl, rfl⟩)))) isT_ts) (fun i R hR => ?_) (by rw [List.length_map, List.take_length])) ?_
  · obtain ⟨hi, rfl⟩ := getTs hR
    have hgi := hg.2.1 _ (List.getElem_mem hi)
    have hpf := primes_few hgi
    have := f2 i
    rw [prims_take p.rd i hi]
    refine ⟨_, dg_name 4 sc_law_prime_list.nd, .inl (dss_forget 4 (S' := [wlS p.ts p.rd o, pi (many : Nat), pl (tbs (prims p.ts)), pl (tbs (prims (p.rd.take i) ++ primes p.rd[i])), pd (tbD p.rd[i])]) ?_)⟩
    exact dss_one (ds_set 3 (DE.to (de_cat (de_var (i := 3) rfl) (we_call (c_law_primes Z) hr (da1 (de_var (i := 4) rfl)) ⟨p.rd[i], ⟨hgi, hgi.2⟩, rfl, rfl, rfl⟩) (few2 (by rw [List.length_map, List.length_map]; omega))) (by show pl (List.map tbD _ ++ List.map tbD _) = _; rw [← List.map_append])) sc_law_prime_list.nd)
  have hml : (tbs (prims p.rd)).length * many ≤ 960 * 4000 := Nat.mul_le_mul (by rw [List.length_map]; omega) hm
  have hfl : ((List.replicate many (prims p.rd)).flatten).length = (prims p.rd).length * many := by rw [List.length_flatten, List.map_replicate, List.sum_replicate_nat, Nat.mul_comm]
  refine dss_one (ds_ret 0 (DE.to (de_sl (DE.to (de_cat (de_var (i := 2) rfl) (DE.to (de_rep (de_var (i := 3) rfl) (de_var (i := 1) rfl) (by omega) (by rw [Int.toNat_natCast, sizeLine_eq]; omega)) (w' := pl (tbs ((List.replicate many (prims p.rd)).flatten))) (by rw [Int.toNat_natCast]; exact congrArg pl (flat_map tbD _ _))) (by rw [List.length_map, List.length_map, hfl, sizeLine_eq]; rw [List.length_map] at hml; omega)) (w' := pl (tbs (prims p.ts ++ (List.replicate many (prims p.rd)).flatten))) (by show pl (List.map tbD _ ++ List.map tbD _) = _; rw [← List.map_append])) dp_no (dp_int (de_var (i := 1) rfl))) ?_))
  rw [cut_to]
  show pl (List.take many (List.map tbD _)) = _
  rw [← List.map_take]
  rfl
end
end Lh
end
section
set_option Elab.async false
set_option linter.all false
set_option maxRecDepth 100000
set_option maxHeartbeats 4000000
namespace Lh
open PySem PySem.Spec PyProof.Rows L2
/-- the window that the law looks at -/
def evr (p : Pl) : List Tb := plist p ((prims p.ts).length + 3 * (prims p.rd).length)
def Fd (E : List Tb) (s r : Nat) : Bool := decide ((E.drop s).take (E.length - r - s) = E.drop (s + r))
structure LPf (p : Pl) (s0 r0 : Nat) : Prop where
  hs : s0 ≤ (prims p.ts).length
  r1 : 1 ≤ r0
  r2 : r0 ≤ (prims p.rd).length
  yes : Fd (evr p) s0 r0 = true
  no1 : ∀ s, s < s0 → ∀ r, 1 ≤ r → r ≤ (prims p.rd).length → Fd (evr p) s r = false
  no2 : ∀ r, 1 ≤ r → r < r0 → Fd (evr p) s0 r = false
/-- the law's plain form is q -/
def LPq (p q : Pl) : Prop := ∃ s0 r0, LPf p s0 r0 ∧ q = ⟨(evr p).take s0, ((evr p).drop s0).take r0⟩
theorem sum_len (ts : List Tb) : (ts.map fun t => (((primes t).length : Nat) : Int)).sum = (((prims ts).length : Nat) : Int) := by
  induction ts with
  | nil => rfl
  | cons t ts ih =>
    unfold prims at ih ⊢
    rw [List.map_cons, List.sum_cons, ih, List.flatMap_cons, List.length_append]
    omega
section
variable {P : Program} {w : World} {K : PySem.W.Frag} {mg : Str → Option Value} {base : Heap}
theorem sc_law_plain : FnScope ["_law_world", "_law_many", "_law_size_here", "_law_every", "_law_start", "_law_row", "_law_table_here"] ["_law_world"] (defScope s_law_plain) := ⟨rfl, rfl, rfl, by decide +kernel, rfl, by decide +kernel, by decide +kernel⟩
theorem evr_len {p : Pl} (h : prims p.rd ≠ []) : (evr p).length = (prims p.ts).length + 3 * (prims p.rd).length := by
  unfold evr plist
  have hp : 0 < (prims p.rd).length := List.length_pos_iff.mpr h
  have hf : ∀ n, ((List.replicate n (prims p.rd)).flatten).length = n * (prims p.rd).length := fun n => by rw [List.length_flatten, List.map_replicate, List.sum_replicate_nat]
  have h2 : ((prims p.ts).length + 3 * (prims p.rd).length) * 1 ≤ ((prims p.ts).length + 3 * (prims p.rd).length) * (prims p.rd).length := Nat.mul_le_mul_left _ hp
  rw [List.length_take, List.length_append, hf]
  omega
theorem c_law_plain (Z : Pg K mg) : FnC P w K mg base 75 "_law_plain" (PreD (fun i : Pl × Option Rel × Pl => sP i.1 ∧ LPq i.1 i.2.2) (fun i => [wlS i.1.ts i.1.rd i.2.1]) (fun i => pd (.tuple [tsD i.2.2.ts, tsD i.2.2.rd]))) := by
  refine FnC.ofD Z.f_law_plain sc_law_plain (fun _ _ _ _ _ _ us hl => match us, hl with | [_], _ => rfl) (fun _ => rfl) (fun cdv A outer s H E hr i hi => ?_)
  obtain ⟨p, o, q⟩ := i
  obtain ⟨⟨hg, hl1, hl2⟩, s0, r0, hF, rfl⟩ : sP p ∧ LPq p q := hi
  have q1 := prims_len hg.1
  have q2 := prims_len hg.2.1
  have hne := prims_ne hg.2.1 hg.2.2
  have hEl := evr_len hne
  have hgE := gL_plist hg ((prims p.ts).length + 3 * (prims p.rd).length)
  have hsum : ∀ ts : List Tb, gL ts → True := fun _ _ => trivial
  obtain ⟨k1, k2, k3, k4, k5, k6⟩ := hF
  show DSs _ _ [wlS p.ts p.rd o, .no, .no, .no, .no, .no, .no] (.rt (fun w => w = pd (.tuple [tsD ((evr p).take s0), tsD (((evr p).drop s0).take r0)])) [])
  refine dss_cons (S1 := [wlS p.ts p.rd o, .no, .no, .no, .no, .no, .no]) (ds_ifF (dt_inT (z := false) hr (de_wget hr (de_var (i := 0) rfl) (.inr (.inl ⟨rfl, rfl⟩))) (de_tup2 de_str de_str) (gL_nice hg.2.1).shaped (by decide +kernel) ends_no) dss_nil) ?_
  refine dss_cons (S1 := [wlS p.ts p.rd o, pi ((prims p.ts).length : Nat), .no, .no, .no, .no, .no]) (ds_set 1 (DE.to (de_sum (ns := p.ts.map fun t => (((primes t).length : Nat) : Int)) Z.n_sum (DE.to (de_lcP (own := [("_law_table_here", 6)]) (xs := p.ts) (g := fun t => py (tbD t)) (ys := fun t => .int (((primes t).length : Nat) : Int)) 6 sc_law_plain.nd
    (show BlkOk ["_law_world", "_law_many", "_law_size_here", "_law_every", "_law_start", "_law_row", "_law_table_here"] (defScope s_law_plain) _ _ from ⟨rfl, by decide +kernel, by decide +kernel, by decide +kernel, by decide +kernel⟩)
    (di_tup (R := py (tsD p.ts)) (de_wget hr (de_var (i := 0) rfl) (.inl ⟨rfl, rfl⟩)) isT_ts) (few (by omega)) (by decide) (no1 rfl)
    (fun t ht s H C cl fp => DE.to (de_len Z.n_len (we_call (c_law_primes Z) (hr.mono (by omega)) (da1 (de_var (i := 6) rfl)) ⟨t, ⟨hg.1 t ht, (hg.1 t ht).2⟩, rfl, rfl, rfl⟩)) (by rw [List.length_map]))) (by rw [List.map_map]; rfl))) (by rw [sum_len])) sc_law_plain.nd) ?_
  refine dss_cons (S1 := [wlS p.ts p.rd o, pi ((prims p.ts).length : Nat), pi ((prims p.rd).length : Nat), .no, .no, .no, .no]) (ds_set 2 (DE.to (de_sum (ns := p.rd.map fun t => (((primes t).length : Nat) : Int)) Z.n_sum (DE.to (de_lcP (own := [("_law_table_here", 6)]) (xs := p.rd) (g := fun t => py (tbD t)) (ys := fun t => .int (((primes t).length : Nat) : Int)) 6 sc_law_plain.nd
    (show BlkOk ["_law_world", "_law_many", "_law_size_here", "_law_every", "_law_start", "_law_row", "_law_table_here"] (defScope s_law_plain) _ _ from ⟨rfl, by decide +kernel, by decide +kernel, by decide +kernel, by decide +kernel⟩)
    (di_tup (R := py (tsD p.rd)) (de_wget hr (de_var (i := 0) rfl) (.inr (.inl ⟨rfl, rfl⟩))) isT_ts) (few (by omega)) (by decide) (no1 rfl)
    (fun t ht s H C cl fp => DE.to (de_len Z.n_len (we_call (c_law_primes Z) (hr.mono (by omega)) (da1 (de_var (i := 6) rfl)) ⟨t, ⟨hg.2.1 t ht, (hg.2.1 t ht).2⟩, rfl, rfl, rfl⟩)) (by rw [List.length_map]))) (by rw [List.map_map]; rfl))) (by rw [sum_len])) sc_law_plain.nd) ?_
  refine dss_cons (S1 := [wlS p.ts p.rd o, pi ((prims p.ts).length : Nat), pi ((prims p.rd).length : Nat), pl (tbs (evr p)), .no, .no, .no]) (ds_set 3 (we_call (c_law_prime_list Z) hr (da2 (de_var (i := 0) rfl) (DE.to (de_add (de_var (i := 1) rfl) (de_mul de_int (de_var (i := 2) rfl) (.inl (by omega)))) (w' := pi ((prims p.ts).length + 3 * (prims p.rd).length : Nat)) (by rw [show (((prims p.ts).length : Nat) : Int) + 3 * (((prims p.rd).length : Nat) : Int) = (((prims p.ts).length + 3 * (prims p.rd).length : Nat) : Int) by omega]))) ⟨(p, o, (prims p.ts).length + 3 * (prims p.rd).length), ⟨⟨hg, hl1, hl2⟩, by show (prims p.ts).length + 3 * (prims p.rd).length ≤ 4000; omega⟩, rfl, rfl, rfl⟩) sc_law_plain.nd) ?_
  generalize hm : (prims p.ts).length = M at *
  generalize hz : (prims p.rd).length = R0 at *
  have hgE' : gL (evr p) := by unfold evr; rw [hm, hz]; exact hgE
  generalize evr p = EE at *
  have e1 : ∀ s r, r ≤ R0 → cutG (tbs EE) (some ((s : Nat) : Int)) (some ((((tbs EE).length : Nat) : Int) - ((r : Nat) : Int))) = tbs ((EE.drop s).take (EE.length - r - s)) := fun s r hr => by
    rw [List.length_map, show ((EE.length : Nat) : Int) - ((r : Nat) : Int) = ((EE.length - r : Nat) : Int) by omega, cut_mid]
    show List.take _ (List.drop _ (List.map tbD EE)) = _
    rw [← List.map_drop, ← List.map_take]
  have e2 : ∀ s r : Nat, cutG (tbs EE) (some (((s : Nat) : Int) + ((r : Nat) : Int))) none = tbs (EE.drop (s + r)) := fun s r => by
    rw [← Int.natCast_add, cut_from]
    exact List.map_drop.symm
  have e3 : ∀ s : Nat, cutG (tbs EE) none (some ((s : Nat) : Int)) = tbs (EE.take s) := fun s => by rw [cut_to]; exact List.map_take.symm
  have e4 : ∀ s r : Nat, cutG (tbs EE) (some ((s : Nat) : Int)) (some (((s : Nat) : Int) + ((r : Nat) : Int))) = tbs ((EE.drop s).take r) := fun s r => by
    rw [← Int.natCast_add, cut_mid, Nat.add_sub_cancel_left]
    show List.take _ (List.drop _ (List.map tbD EE)) = _
    rw [← List.map_drop, ← List.map_take]
  have hn1 : ((nums 0 (((M : Nat) : Int) + 1).toNat)).length = M + 1 := by rw [nums_len]; omega
  have hn2 : ((nums 1 (((R0 : Nat) : Int) + 1 - 1).toNat)).length = R0 := by rw [nums_len]; omega
  have nums_of0 : ∀ {n i : Nat} {R : Rel}, (nums 0 n)[i]? = some R → i < n ∧ R = py (.int (i : Nat)) := fun h => by
    obtain ⟨h1, h2⟩ := nums_of h
    refine ⟨h1, ?_⟩
    rw [h2, Int.zero_add]
  refine dss_rt (ds_for_rt (S' := []) s0 (fun _ => [wlS p.ts p.rd o, pi (M : Nat), pi (R0 : Nat), pl (tbs EE), .no, .no, .no]) (di_range1 Z.n_range (de_add (de_var (i := 1) rfl) de_int) (by omega)) (fun i R hi0 hR => ?_) (by rw [hn1]; omega) (fun R hR => ?_))
  · obtain ⟨_, rfl⟩ := nums_of0 hR
    refine ⟨_, dg_name 4 sc_law_plain.nd, .inl (dss_forget 4 (S' := [wlS p.ts p.rd o, pi (M : Nat), pi (R0 : Nat), pl (tbs EE), pi (i : Nat), .no, .no]) (dss_one ?_))⟩
    refine ds_forS (fun _ => [wlS p.ts p.rd o, pi (M : Nat), pi (R0 : Nat), pl (tbs EE), pi (i : Nat), .no, .no]) (di_range2 Z.n_range de_int (de_add (de_var (i := 2) rfl) de_int) (by omega) (by omega)) (fun j R hR2 => ?_) rfl
    obtain ⟨hj, rfl⟩ := nums_of1 hR2
    have hj : j < R0 := by omega
    refine ⟨_, dg_name 5 sc_law_plain.nd, .inl (dss_forget 5 (S' := [wlS p.ts p.rd o, pi (M : Nat), pi (R0 : Nat), pl (tbs EE), pi (i : Nat), pi ((j + 1 : Nat) : Int), .no]) (dss_one ?_))⟩
    exact ds_ifF (DT.f (dt_eqD (d := .list (tbs ((EE.drop i).take (EE.length - (j + 1) - i)))) (d' := .list (tbs (EE.drop (i + (j + 1))))) hr (DE.conv (DE.to (de_sl (de_var (i := 3) rfl) (dp_int (de_var (i := 4) rfl)) (dp_int (de_sub (de_len Z.n_len (de_var (i := 3) rfl)) (de_var (i := 5) rfl)))) (congrArg pl (e1 i (j + 1) (by omega)))) lst_py) (DE.conv (DE.to (de_sl (de_var (i := 3) rfl) (dp_int (de_add (de_var (i := 4) rfl) (de_var (i := 5) rfl))) dp_no) (congrArg pl (e2 i (j + 1)))) lst_py)
      (lL_nice (gL_take (gL_drop hgE'))).shaped (lL_nice (gL_drop hgE')).shaped (ls_eqv _ _)) (k5 i hi0 (j + 1) (by omega) (by omega))) dss_nil
  · obtain ⟨_, rfl⟩ := nums_of0 hR
    refine ⟨_, dg_name 4 sc_law_plain.nd, dss_one ?_⟩
    have er : r0 - 1 + 1 = r0 := by omega
    refine ds_for_rt (S' := []) (r0 - 1) (fun _ => [wlS p.ts p.rd o, pi (M : Nat), pi (R0 : Nat), pl (tbs EE), pi (s0 : Nat), .no, .no]) (di_range2 Z.n_range de_int (de_add (de_var (i := 2) rfl) de_int) (by omega) (by omega)) (fun j R hj0 hR2 => ?_) (by rw [hn2]; omega) (fun R hR2 => ?_)
    · obtain ⟨hj, rfl⟩ := nums_of1 hR2
      refine ⟨_, dg_name 5 sc_law_plain.nd, .inl (dss_forget 5 (S' := [wlS p.ts p.rd o, pi (M : Nat), pi (R0 : Nat), pl (tbs EE), pi (s0 : Nat), pi ((j + 1 : Nat) : Int), .no]) (dss_one ?_))⟩
      exact ds_ifF (DT.f (dt_eqD (d := .list (tbs ((EE.drop s0).take (EE.length - (j + 1) - s0)))) (d' := .list (tbs (EE.drop (s0 + (j + 1))))) hr (DE.conv (DE.to (de_sl (de_var (i := 3) rfl) (dp_int (de_var (i := 4) rfl)) (dp_int (de_sub (de_len Z.n_len (de_var (i := 3) rfl)) (de_var (i := 5) rfl)))) (congrArg pl (e1 s0 (j + 1) (by omega)))) lst_py) (DE.conv (DE.to (de_sl (de_var (i := 3) rfl) (dp_int (de_add (de_var (i := 4) rfl) (de_var (i := 5) rfl))) dp_no) (congrArg pl (e2 s0 (j + 1)))) lst_py)
        (lL_nice (gL_take (gL_drop hgE'))).shaped (lL_nice (gL_drop hgE')).shaped (ls_eqv _ _)) (k6 (j + 1) (by omega) (by omega))) dss_nil
    · obtain ⟨hj, rfl⟩ := nums_of1 hR2
      rw [er]
      refine ⟨_, dg_name 5 sc_law_plain.nd, dss_one ?_⟩
      exact ds_ifT (DT.t (dt_eqD (d := .list (tbs ((EE.drop s0).take (EE.length - r0 - s0)))) (d' := .list (tbs (EE.drop (s0 + r0)))) hr (DE.conv (DE.to (de_sl (de_var (i := 3) rfl) (dp_int (de_var (i := 4) rfl)) (dp_int (de_sub (de_len Z.n_len (de_var (i := 3) rfl)) (de_var (i := 5) rfl)))) (congrArg pl (e1 s0 r0 (by omega)))) lst_py) (DE.conv (DE.to (de_sl (de_var (i := 3) rfl) (dp_int (de_add (de_var (i := 4) rfl) (de_var (i := 5) rfl))) dp_no) (congrArg pl (e2 s0 r0))) lst_py)
        (lL_nice (gL_take (gL_drop hgE'))).shaped (lL_nice (gL_drop hgE')).shaped (ls_eqv _ _)) k4)
        (dss_one (ds_ret 0 (de_tup2 (de_tupleL (ds := tbs (EE.take s0)) Z.n_tuple (DE.to (de_sl (de_var (i := 3) rfl) dp_no (dp_int (de_var (i := 4) rfl))) (congrArg pl (e3 s0)))) (de_tupleL (ds := tbs ((EE.drop s0).take r0)) Z.n_tuple (DE.to (de_sl (de_var (i := 3) rfl) (dp_int (de_var (i := 4) rfl)) (dp_int (de_add (de_var (i := 4) rfl) (de_var (i := 5) rfl)))) (congrArg pl (e4 s0 r0)))))))
end
end Lh
end
section
set_option Elab.async false
set_option linter.all false
set_option maxRecDepth 100000
set_option maxHeartbeats 4000000
namespace Lh
open PySem PySem.Spec PyProof.Rows L2
section
variable {X : Cx} {S S1 S2 S3 : List Slot} {a b c e : Expr} {es : List Expr} {pos p0 : Pos} {k : Slot → Prop} {o : Out} {sts : List Stmt} {p : Addr}
variable {α : Type} {xs : List α} {g f : α → Rel} {it elt : Expr} {scope : Scope} {own : List (Str × Nat)} {cpos tpos : Pos} {cx : Str}
theorem dss_setLcIf {y : Str} {py0 spos : Pos} (i : Nat) (St : Nat → List Slot) (j : Nat) (t : α → Bool) (hN : X.N.Nodup) (ok : BlkOk X.N X.env.scope scope own) (hi : DI X (.Name cx tpos) it S (xs.map g) (St 0)) (hz : xs.length < sizeLine) (hj : j ∈ own.map (·.2)) (hlen : ∀ i, i ≤ xs.length → (St i).length = S.length) (hno : ∀ i, i ≤ xs.length → ∀ m ∈ own.map (·.2), (St i)[m]? = some .no)
    (hT : ∀ i x, xs[i]? = some x → ∀ (s : Shared) (H : Hp) (C : Addr) (cl : List (Str × Addr)) (fp : List Addr), DT (bk X scope s H C cl fp) c ((St i).set j (.dat (g x))) (t x) ((St i).set j (.dat (g x))))
    (hE : ∀ i x, xs[i]? = some x → t x = true → ∀ (s : Shared) (H : Hp) (C : Addr) (cl : List (Str × Addr)) (fp : List Addr), DE (bk X scope s H C cl fp) elt ((St i).set j (.dat (g x))) (.dat (f x)) ((St (i + 1)).set j (.dat (g x))))
    (hF : ∀ i x, xs[i]? = some x → t x = false → St (i + 1) = St i)
    (h2 : ∀ p, DSs X sts ((St xs.length).set i (.own (lstO p ((xs.filter t).map f)))) o) (hok : o.ok S.length) (hlt : i < (St xs.length).length := by exact Nat.le_of_ble_eq_true rfl) (hyN : X.N[i]? = some y := by rfl) (hyl : X.env.scope.names.lookup y = some .local := by rfl)
    (hsw : swapsWith (.ListComp elt [⟨.Name cx tpos, it, [c], 0⟩] scope cpos) (some (.Name y py0)) spos.line X.env = pure true := by exact sw_true rfl rfl rfl (by decide +kernel))
    (hc : X.calm = true := by rfl) (hjN : X.N[j]? = some cx := by rfl) (hjL : Loc (relS scope X.env.scope) cx := by exact Or.inl rfl) (hjf : (scope.names.lookup cx == some .cell) = true ∨ (relS scope X.env.scope).names.lookup cx = some .local := by first | exact .inl rfl | exact .inr rfl)
    (hs : ∀ x, foldedSetIterable it X.env x = pure x := by intro _; rfl) :
    DSs X (.Assign [.Name y py0] (.ListComp elt [⟨.Name cx tpos, it, [c], 0⟩] scope cpos) spos :: sts) S o := by
  have hln := hlen _ (Nat.le_refl xs.length)
  refine ⟨hok, fun Fr F σ H D hl sat q => (pss_cons (ps_setLc (own := own) hc hN hyN hyl hsw pI ok (fun _ _ _ _ _ => pg_name (i := j) hN hjN hjL hjf) (fun _ _ _ _ _ => pts_one (pt_ttB _ _ _ _ _)) pe_teB hs) pSs).w
    (show tLc (wpI X (.Name cx tpos) it) (gName j) (ttB X scope c) (teB X scope elt) (own.map (·.2)) σ H (fun v H1 => wpSs X sts D (σ.set i (some v)) H1) from lc_read1 (f := f) (t := t) St hj hlen hno hz hi hT hE hF hl sat fun p F2 H2 e2 s2 => ?_)⟩
  refine (h2 p).2 Fr F2 (σ.set i (some (.ref p))) H2 D (by rw [List.length_set, List.length_set, hln]; exact hl) (s2.store (hl.trans hln.symm) hlt) ?_
  rw [List.length_set, hln]
  exact q.mono e2
theorem dss_setLcPIf {y : Str} {py0 spos : Pos} {ys : α → PyData} (i : Nat) (j : Nat) (t : α → Bool) (hN : X.N.Nodup) (ok : BlkOk X.N X.env.scope scope own) (hi : DI X (.Name cx tpos) it S (xs.map g) S1) (hz : xs.length < sizeLine) (hj : j ∈ own.map (·.2)) (hno : ∀ m ∈ own.map (·.2), S1[m]? = some .no)
    (hT : ∀ x, x ∈ xs → ∀ (s : Shared) (H : Hp) (C : Addr) (cl : List (Str × Addr)) (fp : List Addr), DT (bk X scope s H C cl fp) c (S1.set j (.dat (g x))) (t x) (S1.set j (.dat (g x))))
    (hE : ∀ x, x ∈ xs → t x = true → ∀ (s : Shared) (H : Hp) (C : Addr) (cl : List (Str × Addr)) (fp : List Addr), DE (bk X scope s H C cl fp) elt (S1.set j (.dat (g x))) (pd (ys x)) (S1.set j (.dat (g x))))
    (h2 : DSs X sts (S1.set i (pl ((xs.filter t).map ys))) o) (hok : o.ok S.length) (hlt : i < S1.length := by exact Nat.le_of_ble_eq_true rfl) (hyN : X.N[i]? = some y := by rfl) (hyl : X.env.scope.names.lookup y = some .local := by rfl)
    (hsw : swapsWith (.ListComp elt [⟨.Name cx tpos, it, [c], 0⟩] scope cpos) (some (.Name y py0)) spos.line X.env = pure true := by exact sw_true rfl rfl rfl (by decide +kernel))
    (hc : X.calm = true := by rfl) (hjN : X.N[j]? = some cx := by rfl) (hjL : Loc (relS scope X.env.scope) cx := by exact Or.inl rfl) (hjf : (scope.names.lookup cx == some .cell) = true ∨ (relS scope X.env.scope).names.lookup cx = some .local := by first | exact .inl rfl | exact .inr rfl)
    (hs : ∀ x, foldedSetIterable it X.env x = pure x := by intro _; rfl) :
    DSs X (.Assign [.Name y py0] (.ListComp elt [⟨.Name cx tpos, it, [c], 0⟩] scope cpos) spos :: sts) S o :=
  dss_setLcIf (f := fun x => py (ys x)) i (fun _ => S1) j t hN ok hi hz hj (fun _ _ => hi.1) (fun _ _ => hno) (fun k x hx => hT x (List.mem_of_getElem? hx)) (fun k x hx => hE x (List.mem_of_getElem? hx)) (fun _ _ _ _ => rfl) (fun p => by
    refine dss_freeze (i := i) (List.getElem?_set_self hlt) ?_
    rw [List.set_set]
    have e : ((xs.filter t).map fun x => py (ys x)) = ((xs.filter t).map ys).map py := by rw [List.map_map]; rfl
    rw [e]
    exact h2) hok hlt hyN hyl hsw hc hjN hjL hjf hs
end
/-- how many stages the law finds common -/
def comN (A B : List Tb) : Nat := ((List.range (min A.length B.length)).filter fun k => decide (A.take (k + 1) = B.take (k + 1))).length
def prodL : List Tb → Nat
  | [] => 1
  | t :: ts => (t.length + 1) * prodL ts
def prodG (l : List Tb) : Nat → Nat
  | 0 => 1
  | i + 1 => prodG l i * ((l.getD i []).length + 1)
section
variable {P : Program} {w : World} {K : PySem.W.Frag} {mg : Str → Option Value} {base : Heap}
theorem sc_law_behind_primes : FnScope ["_law_world", "_law_k", "_law_tables", "_law_end", "_law_turned"] ["_law_world", "_law_k"] (defScope s_law_behind_primes) := ⟨rfl, rfl, rfl, by decide +kernel, rfl, by decide +kernel, by decide +kernel⟩
abbrev wlRp (p : Pl) : Rel := wlR (py (tsD p.ts)) (py (tsD p.rd)) none
theorem c_law_behind_primes (Z : Pg K mg) : FnC P w K mg base 76 "_law_behind_primes" (PreD (fun i : Pl × Option Rel × Pl × Nat => sP i.1 ∧ LPq i.1 i.2.2.1 ∧ gP i.2.2.1.ts i.2.2.1.rd ∧ i.2.2.1.rd.length ≤ 10000) (fun i => [wlS i.1.ts i.1.rd i.2.1, pi (i.2.2.2 : Nat)]) (fun i => .dat (wlRp (lbh i.2.2.1 i.2.2.2)))) := by
  refine FnC.ofD Z.f_law_behind_primes sc_law_behind_primes (fun _ _ _ _ _ _ us hl => match us, hl with | [_, _], _ => rfl) (fun _ => rfl) (fun cdv A outer s H E hr i hi => ?_)
  obtain ⟨p, o, q, k⟩ := i
  obtain ⟨hp, hq, hg, hl⟩ : sP p ∧ LPq p q ∧ gP q.ts q.rd ∧ q.rd.length ≤ 10000 := hi
  have hrd : 0 < q.rd.length := List.length_pos_iff.mpr hg.2.2
  show DSs _ _ [wlS p.ts p.rd o, pi (k : Nat), .no, .no, .no] (.rt (fun w => w = .dat (wlRp (lbh q k))) [])
  refine dss_cons (S1 := [wlS p.ts p.rd o, pi (k : Nat), pd (tsD q.ts), pd (tsD q.rd), .no]) (ds_asg (we_call (c_law_plain Z) hr (da1 (de_var (i := 0) rfl)) ⟨(p, o, q), ⟨hp, hq⟩, rfl, rfl, rfl⟩) (dg_tup (dgs_cons (dg_name 2 sc_law_behind_primes.nd) (dgs_cons (dg_name 3 sc_law_behind_primes.nd) dgs_nil)) isT_py)) ?_
  by_cases hk : k ≤ q.ts.length
  · have e : lbh q k = ⟨q.ts.drop k, q.rd⟩ := by unfold lbh; rw [if_pos hk]
    rw [e]
    have ec : cutG (tbs q.ts) (some ((k : Nat) : Int)) none = tbs (q.ts.drop k) := by rw [cut_from]; exact List.map_drop.symm
    exact dss_rt (ds_ifT (DT.t (dt_le (de_var (i := 1) rfl) (de_lent (ds := tbs q.ts) Z.n_len (de_var (i := 2) rfl))) (decide_eq_true (by rw [List.length_map]; omega))) (dss_one (ds_ret 0 (de_wl2 (dps_cons (DE.to (de_slt (ds := tbs q.ts) (de_var (i := 2) rfl) (dp_int (de_var (i := 1) rfl)) dp_no) (congrArg (fun z => pd (.tuple z)) ec)) (dps_cons (de_var (i := 3) rfl) dps_nil))))))
  · have hj : (k - q.ts.length) % q.rd.length < q.rd.length := Nat.mod_lt _ hrd
    have e : lbh q k = ⟨[], q.rd.drop ((k - q.ts.length) % q.rd.length) ++ q.rd.take ((k - q.ts.length) % q.rd.length)⟩ := by unfold lbh; rw [if_neg hk]
    rw [e]
    have ei : (((k : Nat) : Int) - ((tbs q.ts).length : Nat)) % ((tbs q.rd).length : Nat) = (((k - q.ts.length) % q.rd.length : Nat) : Int) := by
      rw [List.length_map, List.length_map, show ((k : Nat) : Int) - (q.ts.length : Nat) = ((k - q.ts.length : Nat) : Int) by omega]
      exact (Int.natCast_emod _ _).symm
    generalize (k - q.ts.length) % q.rd.length = t at hj ei ⊢
    have ec : cutG (tbs q.rd) (some ((t : Nat) : Int)) none ++ cutG (tbs q.rd) none (some ((t : Nat) : Int)) = tbs (q.rd.drop t ++ q.rd.take t) := by
      rw [cut_from, cut_to]
      show _ = (q.rd.drop t ++ q.rd.take t).map tbD
      rw [List.map_append, List.map_drop, List.map_take]
    refine dss_cons (S1 := [wlS p.ts p.rd o, pi (k : Nat), pd (tsD q.ts), pd (tsD q.rd), .no]) (ds_ifF (DT.f (dt_le (de_var (i := 1) rfl) (de_lent (ds := tbs q.ts) Z.n_len (de_var (i := 2) rfl))) (decide_eq_false (by rw [List.length_map]; omega))) dss_nil) ?_
    refine dss_cons (S1 := [wlS p.ts p.rd o, pi (k : Nat), pd (tsD q.ts), pd (tsD q.rd), pi (t : Nat)]) (ds_set 4 (DE.to (de_mod (de_int1 Z.n_int (de_sub (de_var (i := 1) rfl) (de_lent (ds := tbs q.ts) Z.n_len (de_var (i := 2) rfl)))) (de_lent (ds := tbs q.rd) Z.n_len (de_var (i := 3) rfl)) (by rw [List.length_map]; omega)) (by rw [ei])) sc_law_behind_primes.nd) ?_
    exact dss_one (ds_ret 0 (de_wl2 (R1 := py (tsD [])) (dps_cons de_tup0 (dps_cons (DE.to (de_catt (de_slt (ds := tbs q.rd) (de_var (i := 3) rfl) (dp_int (de_var (i := 4) rfl)) dp_no) (de_slt (ds := tbs q.rd) (de_var (i := 3) rfl) dp_no (dp_int (de_var (i := 4) rfl)))
      (few2 (by rw [← List.length_append, ec, List.length_map, List.length_append, List.length_drop, List.length_take]; omega))) (congrArg (fun z => pd (.tuple z)) ec)) dps_nil))))
theorem sc_law_common : FnScope ["_law_one", "_law_other", "_law_first", "_law_second", "_law_alike", "_law_k"] ["_law_one", "_law_other"] (defScope s_law_common) := ⟨rfl, rfl, rfl, by decide +kernel, rfl, by decide +kernel, by decide +kernel⟩
theorem c_law_common (Z : Pg K mg) : FnC P w K mg base 75 "_law_common" (PreD (fun i : (Pl × Option Rel) × (Pl × Option Rel) => sP i.1.1 ∧ sP i.2.1) (fun i => [wlS i.1.1.ts i.1.1.rd i.1.2, wlS i.2.1.ts i.2.1.rd i.2.2]) (fun i => pl (tbs ((plist i.1.1 60).take (comN (plist i.1.1 60) (plist i.2.1 60)))))) := by
  refine FnC.ofD Z.f_law_common sc_law_common (fun _ _ _ _ _ _ us hl => match us, hl with | [_, _], _ => rfl) (fun _ => rfl) (fun cdv A outer s H E hr i hi => ?_)
  obtain ⟨⟨p, o⟩, q, o'⟩ := i
  obtain ⟨hp, hq⟩ : sP p ∧ sP q := hi
  have gA := gL_plist hp.1 60
  have gB := gL_plist hq.1 60
  have lA : (plist p 60).length ≤ 60 := by unfold plist; rw [List.length_take]; omega
  have lB : (plist q 60).length ≤ 60 := by unfold plist; rw [List.length_take]; omega
  show DSs _ _ [wlS p.ts p.rd o, wlS q.ts q.rd o', .no, .no, .no, .no] (.rt (fun w => w = pl (tbs ((plist p 60).take (comN (plist p 60) (plist q 60))))) [])
  refine dss_cons (S1 := [wlS p.ts p.rd o, wlS q.ts q.rd o', pl (tbs (plist p 60)), pl (tbs (plist q 60)), .no, .no]) (ds_asg (de_tupR (Rs := [lsR (tbs (plist p 60)), lsR (tbs (plist q 60))]) (da2 (we_call (c_law_prime_list Z) hr (da2 (de_var (i := 0) rfl) de_int) ⟨(p, o, 60), ⟨hp, (show 60 ≤ 4000 by decide)⟩, rfl, rfl, rfl⟩) (we_call (c_law_prime_list Z) hr (da2 (de_var (i := 1) rfl) de_int) ⟨(q, o', 60), ⟨hq, (show 60 ≤ 4000 by decide)⟩, rfl, rfl, rfl⟩)) (few2 (Nat.le_of_ble_eq_true rfl))) (dg_tup (dgs_cons (dg_name 2 sc_law_common.nd) (dgs_cons (dg_name 3 sc_law_common.nd) dgs_nil)) isT_r)) ?_
  generalize plist p 60 = A at *
  generalize plist q 60 = B at *
  have en : (if (((tbs B).length : Nat) : Int) < (((tbs A).length : Nat) : Int) then (((tbs B).length : Nat) : Int) else (((tbs A).length : Nat) : Int)) = ((min A.length B.length : Nat) : Int) := by
    rw [List.length_map, List.length_map]
    exact zmin
  have e1 : ∀ (l : List Tb) (k : Nat), cutG (tbs l) none (some (0 + (k : Int) + 1)) = tbs (l.take (k + 1)) := fun l k => by
    rw [show (0 : Int) + (k : Int) + 1 = ((k + 1 : Nat) : Int) by omega, cut_to]
    exact List.map_take.symm
  refine dss_setLcPIf (own := [("_law_k", 5)]) (xs := List.range ((min A.length B.length : Nat) : Int).toNat) (g := fun (k : Nat) => py (.int (0 + (k : Int)))) (ys := fun (k : Nat) => .int (k : Nat)) 4 5 (fun k => decide (A.take (k + 1) = B.take (k + 1))) sc_law_common.nd
    (show BlkOk ["_law_one", "_law_other", "_law_first", "_law_second", "_law_alike", "_law_k"] (defScope s_law_common) _ _ from ⟨rfl, by decide +kernel, by decide +kernel, by decide +kernel, by decide +kernel⟩)
    (di_range1 Z.n_range (DE.to (de_min Z.n_min (de_len Z.n_len (de_var (i := 2) rfl)) (de_len Z.n_len (de_var (i := 3) rfl))) (congrArg pi en)) (by omega)) (few (by rw [List.length_range]; omega)) (by decide) (no1 rfl)
    (fun k hk s H C cl fp => dt_eqD (d := .list (tbs (A.take (k + 1)))) (d' := .list (tbs (B.take (k + 1)))) hr (DE.conv (DE.to (de_sl (de_var (i := 2) rfl) dp_no (dp_int (de_add (de_var (i := 5) rfl) de_int))) (congrArg pl (e1 A k))) lst_py) (DE.conv (DE.to (de_sl (de_var (i := 3) rfl) dp_no (dp_int (de_add (de_var (i := 5) rfl) de_int))) (congrArg pl (e1 B k))) lst_py)
      (lL_nice (gL_take gA)).shaped (lL_nice (gL_take gB)).shaped (ls_eqv _ _)) (fun k hk ht s H C cl fp => DE.to (de_var (i := 5) rfl) (by rw [Int.zero_add])) ?_ (Nat.zero_le _)
  refine dss_one (ds_ret 0 (DE.to (de_sl (de_var (i := 2) rfl) dp_no (dp_int (DE.to (de_len Z.n_len (de_var (i := 4) rfl)) (w' := pi (comN A B : Nat)) (by rw [List.length_map]; rfl)))) ?_))
  rw [cut_to]
  show pl (List.take _ (List.map tbD A)) = _
  rw [← List.map_take]
/-- what the law's rests takes -/
structure lrP (p q p' q' : Pl) : Prop where
  hp : sP p
  hq : sP q
  lp : LPq p p'
  lq : LPq q q'
  gp : gP p'.ts p'.rd ∧ p'.rd.length ≤ 10000
  gq : gP q'.ts q'.rd ∧ q'.rd.length ≤ 10000
theorem sc_law_rests : FnScope ["_law_one", "_law_other", "_law_some", "_law_found", "_law_prime"] ["_law_one", "_law_other"] (defScope s_law_rests) := ⟨rfl, rfl, rfl, by decide +kernel, rfl, by decide +kernel, by decide +kernel⟩
theorem c_law_rests (Z : Pg K mg) : FnC P w K mg base 77 "_law_rests" (PreD (fun i : (Pl × Option Rel) × (Pl × Option Rel) × Pl × Pl => lrP i.1.1 i.2.1.1 i.2.2.1 i.2.2.2) (fun i => [wlS i.1.1.ts i.1.1.rd i.1.2, wlS i.2.1.1.ts i.2.1.1.rd i.2.1.2])
    (fun i => .dat (tupR [py (.int (prodG ((plist i.1.1 60).take (comN (plist i.1.1 60) (plist i.2.1.1 60))) ((plist i.1.1 60).take (comN (plist i.1.1 60) (plist i.2.1.1 60))).length : Nat)), wlRp (lbh i.2.2.1 ((plist i.1.1 60).take (comN (plist i.1.1 60) (plist i.2.1.1 60))).length), wlRp (lbh i.2.2.2 ((plist i.1.1 60).take (comN (plist i.1.1 60) (plist i.2.1.1 60))).length)]))) := by
  refine FnC.ofD Z.f_law_rests sc_law_rests (fun _ _ _ _ _ _ us hl => match us, hl with | [_, _], _ => rfl) (fun _ => rfl) (fun cdv A outer s H E hr i hi => ?_)
  obtain ⟨⟨p, o⟩, ⟨q, o'⟩, p', q'⟩ := i
  obtain ⟨h1, h2, h3, h4, h5, h6⟩ : lrP p q p' q' := hi
  have gA := gL_plist h1.1 60
  have lA : (plist p 60).length ≤ 60 := by unfold plist; rw [List.length_take]; omega
  show DSs _ _ [wlS p.ts p.rd o, wlS q.ts q.rd o', .no, .no, .no] (.rt (fun w => w = .dat (tupR [py (.int (prodG ((plist p 60).take (comN (plist p 60) (plist q 60))) ((plist p 60).take (comN (plist p 60) (plist q 60))).length : Nat)), wlRp (lbh p' ((plist p 60).take (comN (plist p 60) (plist q 60))).length), wlRp (lbh q' ((plist p 60).take (comN (plist p 60) (plist q 60))).length)])) [])
  refine dss_cons (S1 := [wlS p.ts p.rd o, wlS q.ts q.rd o', pl (tbs ((plist p 60).take (comN (plist p 60) (plist q 60)))), pi (prodG ((plist p 60).take (comN (plist p 60) (plist q 60))) 0 : Nat), .no]) (ds_par 2 3 (da2 (we_call (c_law_common Z) (hr.mono (by omega)) (da2 (de_var (i := 0) rfl) (de_var (i := 1) rfl)) ⟨((p, o), (q, o')), ⟨h1, h2⟩, rfl, rfl, rfl⟩) de_int) sc_law_rests.nd) ?_
  have hgl : gL ((plist p 60).take (comN (plist p 60) (plist q 60))) := gL_take gA
  generalize (plist p 60).take (comN (plist p 60) (plist q 60)) = L at hgl ⊢
  refine dss_cons (S1 := [wlS p.ts p.rd o, wlS q.ts q.rd o', pl (tbs L), pi (prodG L L.length : Nat), .no]) (ds_forS (Rs := tbR L) (fun i => [wlS p.ts p.rd o, wlS q.ts q.rd o', pl (tbs L), pi (prodG L i : Nat), .no]) (di_lst (de_var (i := 2) rfl) isQ_l) (fun i R hR => ?_) (by rw [List.length_map, List.length_map])) ?_
  · have hR : ((L.map tbD).map py)[i]? = some R := hR
    rw [List.map_map] at hR
    obtain ⟨hi, rfl⟩ := getTs hR
    have hgt := hgl _ (List.getElem_mem hi)
    have := hgt.2
    have eg : L.getD i [] = L[i] := by rw [List.getD_eq_getElem?_getD, List.getElem?_eq_getElem hi]; rfl
    refine ⟨_, dg_name 4 sc_law_rests.nd, .inl (dss_forget 4 (S' := [wlS p.ts p.rd o, wlS q.ts q.rd o', pl (tbs L), pi (prodG L (i + 1) : Nat), pd (tbD L[i])]) (dss_one ?_))⟩
    refine ds_set 3 (DE.to (de_mul (de_var (i := 3) rfl) (DE.to (de_add (de_lent (ds := shs L[i]) Z.n_len (de_var (i := 4) rfl)) de_int) (w' := pi (L[i].length + 1 : Nat)) (by rw [List.length_map]; rfl)) (.inr (by omega))) ?_) sc_law_rests.nd
    rw [← Int.natCast_mul]
    show _ = pi (prodG L i * ((L.getD i []).length + 1) : Nat)
    rw [eg]
  · exact dss_one (ds_ret 0 (de_tupR (Rs := [py (.int (prodG L L.length : Nat)), wlRp (lbh p' L.length), wlRp (lbh q' L.length)]) (da3 (de_var (i := 3) rfl)
      (we_call (c_law_behind_primes Z) hr (da2 (de_var (i := 0) rfl) (DE.to (de_len Z.n_len (de_var (i := 2) rfl)) (by rw [List.length_map]))) ⟨(p, o, p', L.length), ⟨h1, h3, h5.1, h5.2⟩, rfl, rfl, rfl⟩)
      (we_call (c_law_behind_primes Z) hr (da2 (de_var (i := 1) rfl) (DE.to (de_len Z.n_len (de_var (i := 2) rfl)) (by rw [List.length_map]))) ⟨(q, o', q', L.length), ⟨h2, h4, h6.1, h6.2⟩, rfl, rfl, rfl⟩)) (few2 (Nat.le_of_ble_eq_true rfl))))
theorem sc_law_unlike_at : FnScope ["_law_one", "_law_other", "_law_m"] ["_law_one", "_law_other"] (defScope s_law_unlike_at) := ⟨rfl, rfl, rfl, by decide +kernel, rfl, by decide +kernel, by decide +kernel⟩
theorem c_law_unlike_at (Z : Pg K mg) : FnC P w K mg base 16 "_law_unlike_at" (PreD (fun i : Pl × Pl × Nat => gP i.1.ts i.1.rd ∧ gP i.2.1.ts i.2.1.rd ∧ Unl i.1 i.2.1 i.2.2) (fun i => [.dat (wlRp i.1), .dat (wlRp i.2.1)]) (fun i => pi (i.2.2 : Nat))) := by
  refine FnC.ofD Z.f_law_unlike_at sc_law_unlike_at (fun _ _ _ _ _ _ us hl => match us, hl with | [_, _], _ => rfl) (fun _ => rfl) (fun cdv A outer s H E hr i hi => ?_)
  obtain ⟨p, q, m⟩ := i
  obtain ⟨gp, gq, hu⟩ : gP p.ts p.rd ∧ gP q.ts q.rd ∧ Unl p q m := hi
  have hlo := hu.lo
  have hhi := hu.hi
  have hn : ∀ k, 1 ≤ k → k ≤ 50 → SeqAt.shaped (shD (shp p.st k)) = true ∧ SeqAt.shaped (shD (shp q.st k)) = true := fun k h1 h2 => ⟨nh (n := 50) (by have := shp_ht (gP_st gp) h1; omega), nh (n := 50) (by have := shp_ht (gP_st gq) h1; omega)⟩
  have em : m - 2 + 2 = m := by omega
  show DSs _ _ [wlS p.ts p.rd none, wlS q.ts q.rd none, .no] (.rt (fun w => w = pi (m : Nat)) [])
  refine dss_cons (S1 := [wlS p.ts p.rd none, wlS q.ts q.rd none, pi ((0 + 2 : Nat) : Int)]) (ds_set 2 de_int sc_law_unlike_at.nd) ?_
  refine dss_cons (S1 := [wlS p.ts p.rd none, wlS q.ts q.rd none, pi ((m - 2 + 2 : Nat) : Int)]) (ds_while (Sf := [wlS p.ts p.rd none, wlS q.ts q.rd none, pi ((m - 2 + 2 : Nat) : Int)]) (m - 2) (fun i => [wlS p.ts p.rd none, wlS q.ts q.rd none, pi ((i + 2 : Nat) : Int)]) (fun i hi => ?_) ?_) ?_
  · refine ⟨_, DW.t (dw_andT (DT.t (dt_lt (de_var (i := 2) rfl) de_int) (decide_eq_true (by omega))) (dw_and1 (DT.t (dt_eqD hr (we_call (c_law_told Z) (hr.mono (by omega)) (da2 (de_var (i := 0) rfl) (de_var (i := 2) rfl)) ⟨(p, none, i + 2), ⟨gp, by show 1 ≤ i + 2; omega, by show i + 2 ≤ 1000; omega⟩, rfl, rfl, rfl⟩) (we_call (c_law_told Z) (hr.mono (by omega)) (da2 (de_var (i := 1) rfl) (de_var (i := 2) rfl)) ⟨(q, none, i + 2), ⟨gq, by show 1 ≤ i + 2; omega, by show i + 2 ≤ 1000; omega⟩, rfl, rfl, rfl⟩)
      (hn (i + 2) (by omega) (by omega)).1 (hn (i + 2) (by omega) (by omega)).2 (sh_eqv _ _)) (decide_eq_true (hu.eq (i + 2) (by omega) (by omega)))))), ?_⟩
    exact dss_one (ds_set 2 (DE.to (de_add (de_var (i := 2) rfl) de_int) rfl) sc_law_unlike_at.nd)
  · exact DW.t (dw_andT (DT.t (dt_lt (de_var (i := 2) rfl) de_int) (decide_eq_true (by omega))) (dw_and1 (DT.f (dt_eqD hr (we_call (c_law_told Z) (hr.mono (by omega)) (da2 (de_var (i := 0) rfl) (de_var (i := 2) rfl)) ⟨(p, none, m - 2 + 2), ⟨gp, by show 1 ≤ m - 2 + 2; omega, by show m - 2 + 2 ≤ 1000; omega⟩, rfl, rfl, rfl⟩) (we_call (c_law_told Z) (hr.mono (by omega)) (da2 (de_var (i := 1) rfl) (de_var (i := 2) rfl)) ⟨(q, none, m - 2 + 2), ⟨gq, by show 1 ≤ m - 2 + 2; omega, by show m - 2 + 2 ≤ 1000; omega⟩, rfl, rfl, rfl⟩)
      (hn (m - 2 + 2) (by omega) (by omega)).1 (hn (m - 2 + 2) (by omega) (by omega)).2 (sh_eqv _ _)) (decide_eq_false (by rw [em]; exact hu.ne)))))
  · rw [em]
    exact dss_one (ds_ret 0 (de_var (i := 2) rfl))
end
end Lh
end
section
set_option Elab.async false
set_option linter.all false
set_option maxRecDepth 100000
set_option maxHeartbeats 4000000
/-! calls that are given a name's own object, which the other arguments use too -/
namespace Lh
open PySem PySem.Spec PyProof.Rows L2
section
variable {X : Cx} {S S1 S2 S3 : List Slot} {a b c e : Expr} {es : List Expr} {pos p : Pos} {k : Slot → Prop} {x : Str} {pre : Pre} {as as' : List Slot} {kk : Nat}
theorem de_pin {i : Nat} {y : Str} {O : Own} {v0 : V} (hS : S[i]? = some (.own O)) (hpin : Pin O v0) (hN : X.N[i]? = some y := by rfl) (hv : Vis X.env.scope y := by first | exact Or.inl rfl | exact Or.inr (Or.inl rfl) | exact Or.inr (Or.inr rfl)) (hd : (y == ("__debug__" : Str)) = false := by decide)
    (hcd : (y == ("__classdict__" : Str)) = false := by decide) : DE X (.Name y pos) S (.dat (at_ v0)) S := by
  refine ⟨rfl, fun Fr F σ H Q hl sat c => ?_⟩
  obtain ⟨v, f, h1, h2, h3⟩ := sat.owned hl hS
  have ev := hpin h2
  subst ev
  exact (pe_var hN hv hd hcd).w ⟨v, h1, c _ v F H rfl (Exr F) (sat.dat rfl)⟩
theorem zc_swap {K : PySem.W.Frag} {F H : Hp} {vs : List V} {as S : List Slot} {σ : L2.St} {Fr : List Cell} {i j : Nat} {O : Own} {v0 : V} (hv : vs.length = as.length) (hl : σ.length = S.length) (hj : as[j]? = some (.dat (at_ v0))) (hS : S[i]? = some (.own O)) (hpin : Pin O v0)
    (s : Sat K F H (zc (vs.map some) as ++ (zc σ S ++ Fr))) : Sat K F H (zc (vs.map some) (as.set j (.own O)) ++ (zc σ (S.set i (.dat (at_ v0))) ++ Fr)) := by
  have hl1 : (vs.map some).length = as.length := by rw [List.length_map]; exact hv
  have s1 : Sat K F H (zc σ S ++ Fr) := s.sub (List.sublist_append_right _ _)
  obtain ⟨v, f, h1, h2, h3⟩ := s1.owned hl hS
  have ev := hpin h2
  subst ev
  obtain ⟨ov, g1, g2⟩ := zc_get hl1 hj
  have s2 : Sat K F H (zc (vs.map some) as ++ []) := by
    rw [List.append_nil]
    exact s.sub (List.sublist_append_left _ _)
  obtain ⟨u, g3, g4⟩ := s2.var hl1 hj
  have g4' : u = v := g4
  subst g4'
  have p1 := zc_out (zc σ S ++ Fr) hl1 hj g3
  have p2 := zc_out Fr hl hS h1
  have hi : i < S.length := (List.getElem?_eq_some_iff.mp hS).1
  have hji : j < as.length := (List.getElem?_eq_some_iff.mp hj).1
  have q1 := zc_in (.own O) (some u) (zc σ (S.set i (.dat (at_ u))) ++ Fr) hl1 hji
  have q2 := zc_in (.dat (at_ u)) (some u) Fr hl hi
  have e1 : (vs.map some).set j (some u) = vs.map some := by
    refine List.ext_getElem? fun m => ?_
    by_cases hm : j = m
    · subst hm
      rw [List.getElem?_set_self (by omega), g3]
    · rw [List.getElem?_set_ne hm]
  have e2 : σ.set i (some u) = σ := by
    refine List.ext_getElem? fun m => ?_
    by_cases hm : i = m
    · subst hm
      rw [List.getElem?_set_self (by omega), h1]
    · rw [List.getElem?_set_ne hm]
  rw [e1] at q1
  rw [e2] at q2
  refine s.perm (p1.trans ?_)
  refine List.Perm.trans ?_ q1
  -- the two change their places
  refine List.Perm.trans (List.Perm.cons _ (p2.append_left _)) ?_
  refine List.Perm.trans ?_ (List.Perm.cons _ (q2.append_left _))
  refine List.Perm.trans (List.Perm.cons _ List.perm_middle) ?_
  refine List.Perm.trans (List.Perm.swap _ _ _) ?_
  exact List.Perm.cons _ List.perm_middle.symm
theorem we_callP {O O' : Own} {v0 : V} {as0 : List Slot} (i j0 j : Nat) (F : FnC X.prog X.w X.K X.mg X.base kk x pre) (hr : Room kk X.A) (ha : DA X (e :: es) S as0 S1) (h0 : as0[j0]? = some (.dat (at_ v0))) (hS : S1[i]? = some (.own O)) (hpin : Pin O v0) (hp : pre (as0.set j0 (.own O)) k as') (hj : as'[j]? = some (.own O')) (hpin' : Pin O' v0)
    (hg : Gl X x := by rfl) (hdb : (x == ("__debug__" : Str)) = false := by decide)
    (he : starEach (e :: es) X.env = (false, eval e X.env) :: starEach es X.env := by rfl) (hpl : (backTo pos (starEach es X.env)).any (·.1) = false := by rfl) : WE X (.Call (.Name x p) (e :: es) [] pos) S k (S1.set i (.own O')) := by
  obtain ⟨f, fd, ps, hm, hk, hb, hF⟩ := F.ex
  refine ⟨by rw [List.length_set]; exact ha.1, fun Fr F σ H Q hl sat c => (pe_call hF hr hg hm hk hb .nil pass0 pA hdb he hpl).w ?_⟩
  refine ha.2 Fr F σ H _ hl sat fun vs F2 H2 hv e2 s2 => ?_
  show spD X.K pre (vs ++ []) H2 Q E0
  rw [List.append_nil]
  have hl1 : σ.length = S1.length := hl.trans ha.1.symm
  have s3 := zc_swap hv hl1 h0 hS hpin s2
  have hi : i < S1.length := (List.getElem?_eq_some_iff.mp hS).1
  obtain ⟨v, f', h1, h2, h3⟩ := (s2.sub (List.sublist_append_right _ _)).owned hl1 hS
  have ev := hpin h2
  subst ev
  refine ⟨as0.set j0 (.own O), k, as', zc σ (S1.set i (.dat (at_ v))) ++ Fr, F2, hp, by rw [List.length_set]; exact hv, s3, fun w u σ' F3 H3 kw hl3 e3 s4 => c w u F3 H3 kw (Ext e2 e3) ?_⟩
  have hj' : j < as'.length := (List.getElem?_eq_some_iff.mp hj).1
  have hz : (zc σ' as')[j]? = some (σ'[j]'(by omega), .own O') := by
    have h0 : j < (List.zip σ' as').length := by
      rw [List.length_zip]
      omega
    show (List.zip σ' as')[j]? = _
    rw [List.getElem?_eq_getElem h0, List.getElem_zip]
    have := (List.getElem?_eq_some_iff.mp hj).2
    rw [this]
  have s5 : Sat X.K F3 H3 ((some u, w) :: ((σ'[j]'(by omega), .own O') :: (zc σ (S1.set i (.dat (at_ v))) ++ Fr))) := by
    refine s4.sub (.cons_cons _ ?_)
    have h5 : [(σ'[j]'(by omega), Slot.own O')].Sublist (zc σ' as') := List.singleton_sublist.mpr (List.mem_of_getElem? hz)
    exact h5.append_right _
  have s6 : Sat X.K F3 H3 ((σ'[j]'(by omega), .own O') :: ((some u, w) :: (zc σ (S1.set i (.dat (at_ v))) ++ Fr))) := s5.perm (List.Perm.swap _ _ _)
  obtain ⟨g, ⟨v2, hv2, hO⟩, _⟩ := s6.upd
  have ev := hpin' hO
  rw [hv2, ev] at s6
  have s7 : Sat X.K F3 H3 ((some v, .own O') :: (zc σ (S1.set i (.dat (at_ v))) ++ ((some u, w) :: Fr))) := s6.perm (List.Perm.cons _ List.perm_middle.symm)
  have s8 := s7.store (i := i) (by rw [List.length_set]; exact hl1) (by rw [List.length_set]; exact hi)
  have e0 : σ.set i (some v) = σ := by
    refine List.ext_getElem? fun m => ?_
    by_cases hm' : i = m
    · subst hm'
      rw [List.getElem?_set_self (by omega), h1]
    · rw [List.getElem?_set_ne hm']
  rw [e0, List.set_set] at s8
  exact s8.frame1'
/-- != of bools -/
theorem dt_neB {z1 z2 : Bool} (ha : DE X a S (pb z1) S1) (hb : DE X b S1 (pb z2) S2) : DT X (.Compare a [.NotEq] [b] pos) S (!decide (z1 = z2)) S2 :=
  dt_cmp op_ne (fun F H L x y Q sat hx hy c => by
    cases hx
    cases hy
    have e : decide (V.bl z1 = V.bl z2) = decide (z1 = z2) := by cases z1 <;> cases z2 <;> decide
    refine ⟨rfl, ?_⟩
    rw [e]
    exact c _ _ F H rfl (Exr F) (sat.dat (.bl _))) ha hb (nomark _)
end
end Lh
end
section
set_option Elab.async false
set_option linter.all false
set_option maxRecDepth 100000
set_option maxHeartbeats 4000000
namespace Lh
open PySem PySem.Spec PyProof.Rows L2
/-! the source, as a function -/
def drS (s : Src) : Src := match s.cs with
  | [] => s
  | c :: cs => { s with cs := cs, left := c }
def drI (s : Src) : Nat → Src
  | 0 => s
  | k + 1 => drS (drI s k)
def drC (s : Src) : Bool := decide (s.left < 2 ∧ s.cs ≠ [])
def drF : Nat → Src → Src
  | 0, s => s
  | k + 1, s => if drC s then drF k (drS s) else s
theorem drI_succ (s : Src) : ∀ k, drI (drS s) k = drI s (k + 1)
  | 0 => rfl
  | k + 1 => by
    show drS (drI (drS s) k) = drS (drI s (k + 1))
    rw [drI_succ s k]
theorem dr_steps : ∀ (k : Nat) (s : Src), s.cs.length ≤ k → ∃ J, drF k s = drI s J ∧ (∀ i, i < J → drC (drI s i) = true) ∧ drC (drI s J) = false
  | 0, s, h => ⟨0, rfl, fun i hi => by omega, decide_eq_false (fun z => z.2 (List.length_eq_zero_iff.mp (Nat.le_zero.mp h)))⟩
  | k + 1, s, h => by
    unfold drF
    cases hc : drC s with
    | false =>
      rw [if_neg (by decide)]
      exact ⟨0, rfl, fun i hi => by omega, hc⟩
    | true =>
      rw [if_pos rfl]
      have h2 : (drS s).cs.length ≤ k := by
        have := (of_decide_eq_true hc).2
        unfold drS
        cases q : s.cs with
        | nil => exact absurd q this
        | cons c cs =>
          rw [q, List.length_cons] at h
          show cs.length ≤ k
          omega
      obtain ⟨J, e1, e2, e3⟩ := dr_steps k (drS s) h2
      refine ⟨J + 1, by rw [e1, drI_succ], fun i hi => ?_, by rw [← drI_succ]; exact e3⟩
      cases i with
      | zero => exact hc
      | succ i =>
        rw [← drI_succ]
        exact e2 i (by omega)
def dr (n : Nat) (s : Src) : Src := if 1 < n then drF s.cs.length s else s
def mxN (n : Nat) : Nat := max 1 n
def pkM (s : Src) : Int := (s.mixed + (s.turn + 1) * 104729) % 998244353
def pkN (s : Src) : Int := (pkM s * pkM s + (s.turn + 1) * 17) % 2147483647
/-- what is picked, the source behind it -/
def pk (n : Nat) (s : Src) : Nat := if n < 2 ∨ (dr n s).left > 1 then ((dr n s).left % (mxN n : Nat)).toNat else (pkN (dr n s) / 16 % (n : Nat)).toNat
def nx (n : Nat) (s : Src) : Src := if n < 2 ∨ (dr n s).left > 1 then { dr n s with left := (dr n s).left / (mxN n : Nat) } else { dr n s with turn := (dr n s).turn + 1, mixed := pkN (dr n s) }
theorem pk_lt (n : Nat) (s : Src) : pk n s < mxN n := by
  unfold pk mxN
  by_cases h : n < 2 ∨ (dr n s).left > 1
  · rw [if_pos h]
    have h1 := Int.emod_lt_of_pos (dr n s).left (show (0 : Int) < ((max 1 n : Nat) : Int) by omega)
    have h2 := Int.emod_nonneg (dr n s).left (show ((max 1 n : Nat) : Int) ≠ 0 by omega)
    omega
  · rw [if_neg h]
    have hn : 2 ≤ n := by omega
    have h1 := Int.emod_lt_of_pos (pkN (dr n s) / 16) (show (0 : Int) < ((n : Nat) : Int) by omega)
    have h2 := Int.emod_nonneg (pkN (dr n s) / 16) (show ((n : Nat) : Int) ≠ 0 by omega)
    omega
section
variable {P : Program} {w : World} {K : PySem.W.Frag} {mg : Str → Option Value} {base : Heap}
theorem sc_law_pick : FnScope ["_law_source_here", "_law_many", "_law_left", "_law_mixed"] ["_law_source_here", "_law_many"] (defScope s_law_pick) := ⟨rfl, rfl, rfl, by decide +kernel, rfl, by decide +kernel, by decide +kernel⟩
abbrev prePick : Pre := fun as k as' => ∃ (p q : Addr) (s : Src) (n : Nat), n ≤ 1000 ∧ as = [.own (srcO p q s), pi (n : Nat)] ∧ k = (fun w => w = pi (pk n s : Nat)) ∧ as' = [.own (srcO p q (nx n s)), pi (n : Nat)]
theorem c_law_pick (Z : Pg K mg) : FnC P w K mg base 1 "_law_pick" prePick := by
  obtain ⟨fd, F, hm⟩ := Z.f_law_pick
  refine FnC.ofBody F sc_law_pick hm (fun _ _ _ _ _ _ us hl => match us, hl with | [_, _], _ => rfl) (by rintro as k as' ⟨p, q, s, n, _, rfl, _⟩; rfl) (fun cdv A outer s0 H E hr as k as' h => ?_)
  obtain ⟨p, q, s, n, hn, rfl, rfl, rfl⟩ := h
  show DSs _ _ [.own (srcO p q s), pi (n : Nat), .no, .no] _
  -- the cells that are spent
  have hloop : ∃ J, dr n s = drI s J ∧ (∀ i, i < J → 1 < n ∧ drC (drI s i) = true) ∧ (¬ 1 < n ∨ drC (drI s J) = false) := by
    unfold dr
    by_cases h1 : 1 < n
    · rw [if_pos h1]
      obtain ⟨J, e1, e2, e3⟩ := dr_steps s.cs.length s (Nat.le_refl _)
      exact ⟨J, e1, fun i hi => ⟨h1, e2 i hi⟩, .inr e3⟩
    · rw [if_neg h1]
      exact ⟨0, rfl, fun i hi => by omega, .inl h1⟩
  obtain ⟨J, e1, e2, e3⟩ := hloop
  refine dss_cons (S1 := [.own (srcO p q (drI s J)), pi (n : Nat), .no, .no]) (ds_while (Sf := [.own (srcO p q (drI s J)), pi (n : Nat), .no, .no]) J (fun i => [.own (srcO p q (drI s i)), pi (n : Nat), .no, .no]) (fun i hi => ?_) ?_) ?_
  · obtain ⟨h1, h2⟩ := e2 i hi
    have h3 := of_decide_eq_true h2
    have es : drI s (i + 1) = drS (drI s i) := rfl
    rw [es]
    generalize drI s i = u at h3
    obtain ⟨cs, l, m, t⟩ := u
    dsimp only at h3
    cases cs with
    | nil => exact absurd rfl h3.2
    | cons c cs =>
      refine ⟨_, DW.t (dw_andT (DT.t (dt_gt (de_var (i := 1) rfl) de_int) (decide_eq_true (by omega))) (dw_andT (DT.t (dt_lt (de_src (i := 0) 0 hr rfl) de_int) (decide_eq_true h3.1)) (dw_and1 (DT.t (dt_gt (de_srcLen (i := 0) hr Z.n_len rfl) de_int) (decide_eq_true (by show 0 < ((((c :: cs).length : Nat)) : Int); rw [List.length_cons]; omega)))))), ?_⟩
      exact dss_one (ds_src (s := ⟨cs, l, m, t⟩) 0 0 hr (de_srcPop (i := 0) (s := ⟨cs, l, m, t⟩) hr rfl) rfl)
  · rcases e3 with e3 | e3
    · exact DW.t (dw_andF (DT.f (dt_gt (de_var (i := 1) rfl) de_int) (decide_eq_false (by omega))))
    · have h3 := of_decide_eq_false e3
      by_cases h1 : 1 < n
      · generalize drI s J = u at h3
        obtain ⟨cs, l, m, t⟩ := u
        dsimp only at h3
        by_cases h4 : l < 2
        · have h5 : cs = [] := Classical.byContradiction fun z => h3 ⟨h4, z⟩
          subst h5
          exact DW.t (dw_andT (DT.t (dt_gt (de_var (i := 1) rfl) de_int) (decide_eq_true (by omega))) (dw_andT (DT.t (dt_lt (de_src (i := 0) 0 hr rfl) de_int) (decide_eq_true h4)) (dw_and1 (DT.f (dt_gt (de_srcLen (i := 0) hr Z.n_len rfl) de_int) (decide_eq_false (by show ¬ (0 : Int) < ((0 : Nat) : Int); omega))))))
        · exact DW.t (dw_andT (DT.t (dt_gt (de_var (i := 1) rfl) de_int) (decide_eq_true (by omega))) (dw_andF (DT.f (dt_lt (de_src (i := 0) 0 hr rfl) de_int) (decide_eq_false h4))))
      · exact DW.t (dw_andF (DT.f (dt_gt (de_var (i := 1) rfl) de_int) (decide_eq_false (by omega))))
  · unfold pk nx
    rw [e1]
    generalize drI s J = u
    have emx : (if ((n : Nat) : Int) > 1 then ((n : Nat) : Int) else 1) = ((mxN n : Nat) : Int) := by
      unfold mxN
      split <;> omega
    have hmx : 1 ≤ mxN n ∧ mxN n ≤ 1000 := by unfold mxN; omega
    have hlf : sfI u 0 = u.left := rfl
    refine dss_cons (S1 := [.own (srcO p q u), pi (n : Nat), pi u.left, .no]) (ds_set 2 (de_src (i := 0) 0 hr rfl) sc_law_pick.nd) ?_
    by_cases hc : n < 2 ∨ u.left > 1
    · rw [if_pos hc, if_pos hc]
      have h2 : 0 ≤ u.left % ((mxN n : Nat) : Int) := Int.emod_nonneg _ (by omega)
      have efin : ((u.left % ((mxN n : Nat) : Int)).toNat : Int) = u.left % ((mxN n : Nat) : Int) := by omega
      rw [efin]
      refine dss_rt (ds_ifT ?_ (dss_cons (S1 := [.own (srcO p q { u with left := u.left / (mxN n : Nat) }), pi (n : Nat), pi u.left, .no]) (ds_src (s := u) (z := u.left / (mxN n : Nat)) (S1 := [.own (srcO p q u), pi (n : Nat), pi u.left, .no]) 0 0 hr (de_fdiv (de_var (i := 2) rfl) (DE.to (de_max Z.n_max de_int (de_var (i := 1) rfl)) (w' := pi (mxN n : Nat)) (by rw [emx])) (by constructor <;> omega)) rfl)
        (dss_one (ds_ret 2 (de_mod (de_int1 Z.n_int (de_var (i := 2) rfl)) (DE.to (de_max Z.n_max de_int (de_var (i := 1) rfl)) (w' := pi (mxN n : Nat)) (by rw [emx])) (by omega))))))
      by_cases h3 : n < 2
      · exact DW.t (dw_orT (DT.t (dt_lt (de_var (i := 1) rfl) de_int) (decide_eq_true (by omega))))
      · exact DW.t (dw_orF (DT.f (dt_lt (de_var (i := 1) rfl) de_int) (decide_eq_false (by omega))) (dw_or1 (DT.t (dt_gt (de_var (i := 2) rfl) de_int) (decide_eq_true (by omega)))))
    · rw [if_neg hc, if_neg hc]
      have hn2 : 2 ≤ n := by omega
      have h2 : 0 ≤ pkN u / 16 % ((n : Nat) : Int) := Int.emod_nonneg _ (by omega)
      have efin : ((pkN u / 16 % ((n : Nat) : Int)).toNat : Int) = pkN u / 16 % ((n : Nat) : Int) := by omega
      have hpm1 : 0 ≤ pkM u := Int.emod_nonneg _ (by decide)
      have hpm2 : pkM u < 998244353 := Int.emod_lt_of_pos _ (by decide)
      rw [efin]
      refine dss_cons (S1 := [.own (srcO p q u), pi (n : Nat), pi u.left, .no]) (ds_ifF (DW.t (dw_orF (DT.f (dt_lt (de_var (i := 1) rfl) de_int) (decide_eq_false (by omega))) (dw_or1 (DT.f (dt_gt (de_var (i := 2) rfl) de_int) (decide_eq_false (by omega)))))) dss_nil) ?_
      refine dss_cons (S1 := [.own (srcO p q { u with turn := u.turn + 1 }), pi (n : Nat), pi u.left, .no]) (ds_src 0 2 hr (de_add (de_src (i := 0) 2 hr rfl) de_int) rfl) ?_
      refine dss_cons (S1 := [.own (srcO p q { u with turn := u.turn + 1 }), pi (n : Nat), pi u.left, pi (pkM u)]) (ds_set 3 (de_mod (de_int1 Z.n_int (de_add (de_src (i := 0) 1 hr rfl) (de_mul (de_src (i := 0) 2 hr rfl) de_int (.inr (by decide))))) de_int (by decide)) sc_law_pick.nd) ?_
      refine dss_cons (S1 := [.own (srcO p q { u with turn := u.turn + 1 }), pi (n : Nat), pi u.left, pi (pkN u)]) (ds_set 3 (de_mod (de_int1 Z.n_int (de_add (de_mul (de_var (i := 3) rfl) (de_var (i := 3) rfl) (.inr (by omega))) (de_mul (de_src (i := 0) 2 hr rfl) de_int (.inr (by decide))))) de_int (by decide)) sc_law_pick.nd) ?_
      refine dss_cons (S1 := [.own (srcO p q { u with turn := u.turn + 1, mixed := pkN u }), pi (n : Nat), pi u.left, pi (pkN u)]) (ds_src 0 1 hr (de_var (i := 3) rfl) rfl) ?_
      exact dss_one (ds_ret 2 (de_mod (de_int1 Z.n_int (de_fdiv (de_var (i := 3) rfl) de_int (by constructor <;> decide))) (de_var (i := 1) rfl) (by omega)))
end
end Lh
end
section
set_option Elab.async false
set_option linter.all false
set_option maxRecDepth 100000
set_option maxHeartbeats 4000000
namespace Lh
open PySem PySem.Spec PyProof.Rows L2
/-! what is made of the source, as functions -/
def wayS (w n : Nat) : Sh := if w = 0 then combL (n - 1) else if w = 1 then combR (n - 1) else halvesF 12 n
def shF : Nat → Nat → Src → Sh × Src
  | 0, _, s => (.o, s)
  | k + 1, n, s => if n < 2 ∨ pk 6 s < 3 then (wayS (if pk 6 s < 3 then pk 6 s else 0) n, nx 6 s)
    else
      let at_ := 1 + pk (n - 1) (nx 6 s)
      let a := shF k at_ (nx (n - 1) (nx 6 s))
      let b := shF k (n - at_) a.2
      (.n a.1 b.1, b.2)
theorem way_size {w n : Nat} (h1 : 1 ≤ n) (h2 : n ≤ 12) : (wayS w n).size = n := by
  unfold wayS
  by_cases h : w = 0
  · rw [if_pos h, combL_size]; omega
  · rw [if_neg h]
    by_cases h' : w = 1
    · rw [if_pos h', combR_size]; omega
    · rw [if_neg h']
      exact halves_size 12 n h1 h2
theorem shF_size : ∀ (k n : Nat) (s : Src), 1 ≤ n → n ≤ k → n ≤ 12 → (shF k n s).1.size = n
  | 0, n, s, h1, h2, _ => by omega
  | k + 1, n, s, h1, h2, h3 => by
    unfold shF
    by_cases h : n < 2 ∨ pk 6 s < 3
    · rw [if_pos h]
      exact way_size h1 h3
    · rw [if_neg h]
      have hp := pk_lt (n - 1) (nx 6 s)
      unfold mxN at hp
      simp only [Sh.size]
      rw [shF_size k _ _ (by omega) (by omega) (by omega), shF_size k _ _ (by omega) (by omega) (by omega)]
      omega
/-- a table's entries, one after another -/
def stt (s : Src) : Nat → Src
  | 0 => s
  | i + 1 => (shF 12 (i + 2) (stt s i)).2
def anyT (sz : Nat) (s : Src) : Tb := (List.range (sz - 1)).map fun i => (shF 12 (i + 2) (stt s i)).1
def anyS (sz : Nat) (s : Src) : Src := stt s (sz - 1)
theorem any_len (sz : Nat) (s : Src) : (anyT sz s).length = sz - 1 := by unfold anyT; rw [List.length_map, List.length_range]
theorem any_gT {sz : Nat} (s : Src) (h1 : 2 ≤ sz) (h2 : sz ≤ 12) : gT (anyT sz s) := by
  refine ⟨⟨fun z => ?_, fun k u hu => ?_⟩, by rw [any_len]; omega⟩
  · have := congrArg List.length z
    rw [any_len] at this
    simp only [List.length_nil] at this
    omega
  · have hk := (List.getElem?_eq_some_iff.mp hu).1
    rw [any_len] at hk
    unfold anyT at hu
    rw [List.getElem?_map, List.getElem?_range hk] at hu
    rw [← Option.some.inj hu]
    exact shF_size 12 (k + 2) _ (by omega) (by omega) (by omega)
section
variable {P : Program} {w : World} {K : PySem.W.Frag} {mg : Str → Option Value} {base : Heap}
theorem sc_law_source : FnScope ["_law_script", "_law_mixed", "_law_cell"] ["_law_script"] (defScope s_law_source) := ⟨rfl, rfl, rfl, by decide +kernel, rfl, by decide +kernel, by decide +kernel⟩
def mixS : List Int → Int → Int
  | [], m => m
  | c :: cs, m => mixS cs ((m * 69069 + c * 31 + 5) % 2147483629)
def mixI (ns : List Int) (i : Nat) : Int := mixS (ns.take i) 11
theorem mixS_app : ∀ (a : List Int) (c : Int) (m : Int), mixS (a ++ [c]) m = (mixS a m * 69069 + c * 31 + 5) % 2147483629
  | [], c, m => rfl
  | x :: a, c, m => mixS_app a c _
def absI (i : Int) : Int := if i < 0 then -i else i
def src0 (ns : List Int) : Src := ⟨ns.map absI, 1, mixS ns 11, 0⟩
abbrev inR (ns : List Int) : Rel := sqR (ns.map fun n => py (.int n))
theorem c_law_source (Z : Pg K mg) : FnC P w K mg base 1 "_law_source" (fun as k as' => ∃ ns : List Int, ns.length ≤ 1000 ∧ as = [.dat (inR ns)] ∧ k = (fun w => ∃ p q, w = .own (srcO p q (src0 ns))) ∧ as' = []) := by
  obtain ⟨fd, F, hm⟩ := Z.f_law_source
  refine FnC.ofBody F sc_law_source hm (fun _ _ _ _ _ _ us hl => match us, hl with | [_], _ => rfl) (by rintro as k as' ⟨ns, _, rfl, _⟩; rfl) (fun cdv A outer s0 H E hr as k as' h => ?_)
  obtain ⟨ns, hn, rfl, rfl, rfl⟩ := h
  refine dss_cons (S1 := [.dat (inR ns), pi (mixI ns 0), .no]) (ds_set 1 de_int sc_law_source.nd) ?_
  refine dss_cons (S1 := [.dat (inR ns), pi (mixS ns 11), .no]) (ds_forS (Rs := ns.map fun n => py (.int n)) (fun i => [.dat (inR ns), pi (mixI ns i), .no]) (di_lst (de_var (i := 0) rfl) isQ_r) (fun i R hR => ?_) (by rw [List.length_map]; unfold mixI; rw [List.take_length])) ?_
  · have hi : i < ns.length := by
      have := (List.getElem?_eq_some_iff.mp hR).1
      rw [List.length_map] at this
      exact this
    rw [List.getElem?_map, List.getElem?_eq_getElem hi] at hR
    have e : py (.int ns[i]) = R := Option.some.inj hR
    subst e
    have em : mixI ns (i + 1) = (mixI ns i * 69069 + ns[i] * 31 + 5) % 2147483629 := by
      unfold mixI
      rw [List.take_succ, List.getElem?_eq_getElem hi]
      exact mixS_app _ _ _
    rw [em]
    refine ⟨_, dg_name 2 sc_law_source.nd, .inl (dss_forget 2 (S' := [.dat (inR ns), pi ((mixI ns i * 69069 + ns[i] * 31 + 5) % 2147483629), pi ns[i]]) (dss_one ?_))⟩
    exact ds_set 1 (de_mod (de_int1 Z.n_int (de_add (de_add (de_mul (de_var (i := 1) rfl) de_int (.inr (by decide))) (de_mul (de_var (i := 2) rfl) de_int (.inr (by decide)))) de_int)) de_int (by decide)) sc_law_source.nd
  · have eabs : (ns.map absI).map PyData.int = ns.map fun i => PyData.int (if i < 0 then -i else i) := by rw [List.map_map]; rfl
    refine dss_one (ds_ret 0 (we_src (ns := ns.map absI) (dps_cons (we_revO (R := lsR (ns.map fun i => PyData.int (if i < 0 then -i else i))) (Rs := (ns.map absI).map fun n => py (.int n)) (de_lcP (own := [("_law_cell", 2)]) (xs := ns) (g := fun n => py (.int n)) (ys := fun i => .int (if i < 0 then -i else i)) 2 sc_law_source.nd
      (show BlkOk ["_law_script", "_law_mixed", "_law_cell"] (defScope s_law_source) _ _ from ⟨rfl, by decide +kernel, by decide +kernel, by decide +kernel, by decide +kernel⟩)
      (di_lst (de_var (i := 0) rfl) isQ_r) (few (by omega)) (by decide) (no1 rfl)
      (fun n hn s H C cl fp => de_abs Z.n_abs (de_var (i := 2) rfl))) (fun h => by
        have q := isQ_l h
        rw [← eabs, List.map_map] at q
        exact q)) (dps_cons de_int (dps_cons (de_var (i := 1) rfl) (dps_cons de_int dps_nil))))))
theorem sc_law_of : FnScope ["_law_source_here", "_law_some"] ["_law_source_here", "_law_some"] (defScope s_law_of) := ⟨rfl, rfl, rfl, by decide +kernel, rfl, by decide +kernel, by decide +kernel⟩
theorem c_law_of (Z : Pg K mg) : FnC P w K mg base 2 "_law_of" (fun as k as' => ∃ (p q : Addr) (s : Src) (ds : List PyData), (0 < ds.length ∧ ds.length ≤ 1000) ∧ as = [.own (srcO p q s), pl ds] ∧ k = (fun w => w = pd (ds.getD (pk ds.length s) .none)) ∧ as' = [.own (srcO p q (nx ds.length s)), pl ds]) := by
  obtain ⟨fd, F, hm⟩ := Z.f_law_of
  refine FnC.ofBody F sc_law_of hm (fun _ _ _ _ _ _ us hl => match us, hl with | [_, _], _ => rfl) (by rintro as k as' ⟨p, q, s, ds, _, rfl, _⟩; rfl) (fun cdv A outer s0 H E hr as k as' h => ?_)
  obtain ⟨p, q, s, ds, ⟨h1, h2⟩, rfl, rfl, rfl⟩ := h
  have hp := pk_lt ds.length s
  unfold mxN at hp
  have hp : pk ds.length s < ds.length := by omega
  refine dss_one (ds_ret 2 (de_ix (S1 := [.own (srcO p q s), pl ds]) (de_var (i := 1) rfl) (we_callB (i := 0) (c_law_pick Z) hr (da2 (de_own (i := 0) rfl pin_src) (de_len Z.n_len (de_var (i := 1) rfl))) ⟨p, q, s, ds.length, h2, rfl, rfl, rfl⟩ 0 rfl pin_src rfl) (atI_get ?_)))
  rw [List.getD_eq_getElem?_getD, List.getElem?_eq_getElem hp]
  rfl
theorem sc_law_shape : FnScope ["_law_source_here", "_law_n", "_law_way", "_law_at"] ["_law_source_here", "_law_n"] (defScope s_law_shape) := ⟨rfl, rfl, rfl, by decide +kernel, rfl, by decide +kernel, by decide +kernel⟩
abbrev preShp (h : Nat) : Pre := fun as k as' => ∃ (p q : Addr) (s : Src) (n : Nat), (1 ≤ n ∧ n ≤ h ∧ n ≤ 12) ∧ as = [.own (srcO p q s), pi (n : Nat)] ∧ k = (fun w => w = pd (shD (shF h n s).1)) ∧ as' = [.own (srcO p q (shF h n s).2), pi (n : Nat)]
theorem c_law_shape (Z : Pg K mg) : ∀ h, FnC P w K mg base (h + 14) "_law_shape" (preShp h) := by
  intro h
  induction h with
  | zero =>
    obtain ⟨fd, F, hm⟩ := Z.f_law_shape
    refine FnC.ofBody F sc_law_shape hm (fun _ _ _ _ _ _ us hl => match us, hl with | [_, _], _ => rfl) (by rintro as k as' ⟨p, q, s, n, _, rfl, _⟩; rfl) (fun cdv A outer s0 H E hr as k as' h => ?_)
    obtain ⟨p, q, s, n, ⟨h1, h2, h3⟩, _⟩ := h
    omega
  | succ h ih =>
    obtain ⟨fd, F, hm⟩ := Z.f_law_shape
    refine FnC.ofBody F sc_law_shape hm (fun _ _ _ _ _ _ us hl => match us, hl with | [_, _], _ => rfl) (by rintro as k as' ⟨p, q, s, n, _, rfl, _⟩; rfl) (fun cdv A outer s0 H E hr as k as' h => ?_)
    obtain ⟨p, q, s, n, ⟨h1, h2, h3⟩, rfl, rfl, rfl⟩ := h
    show DSs _ _ [.own (srcO p q s), pi (n : Nat), .no, .no] _
    refine dss_cons (S1 := [.own (srcO p q (nx 6 s)), pi (n : Nat), pi (pk 6 s : Nat), .no]) (ds_set 2 (we_callB (i := 0) (c_law_pick Z) (hr.mono (by omega)) (da2 (de_own (i := 0) rfl pin_src) de_int) ⟨p, q, s, 6, by omega, rfl, rfl, rfl⟩ 0 rfl pin_src rfl) sc_law_shape.nd) ?_
    unfold shF
    by_cases hc : n < 2 ∨ pk 6 s < 3
    · rw [if_pos hc]
      have hidx : ∃ w0, (if pk 6 s < 3 then pk 6 s else 0) = w0 ∧ w0 < 3 := ⟨_, rfl, by split <;> omega⟩
      obtain ⟨w0, ew, hw⟩ := hidx
      rw [ew]
      have hL : combS true (n - 1) = combL (n - 1) := rfl
      refine dss_rt (ds_ifT ?_ (dss_one (ds_ret (S1 := [.own (srcO p q (nx 6 s)), pi (n : Nat), pi (pk 6 s : Nat), .no]) 2 (de_ix (ds := [shD (combL (n - 1)), shD (combR (n - 1)), shD (halvesF 12 n)]) (i := ((w0 : Nat) : Int)) (de_lst3 (S1 := [.own (srcO p q (nx 6 s)), pi (n : Nat), pi (pk 6 s : Nat), .no]) (S2 := [.own (srcO p q (nx 6 s)), pi (n : Nat), pi (pk 6 s : Nat), .no]) (S3 := [.own (srcO p q (nx 6 s)), pi (n : Nat), pi (pk 6 s : Nat), .no]) (we_call (c_law_comb Z) (hr.mono (by omega)) (da2 (de_var (i := 1) rfl) de_str) ⟨(n, true), ⟨h1, by show n ≤ 60; omega⟩, rfl, rfl, rfl⟩) (we_call (c_law_comb Z) (hr.mono (by omega)) (da2 (de_var (i := 1) rfl) de_str) ⟨(n, false), ⟨h1, by show n ≤ 60; omega⟩, rfl, rfl, rfl⟩) (we_call (c_law_halves Z 12) (hr.mono (by omega)) (da1 (de_var (i := 1) rfl)) ⟨n, h3, rfl, rfl, rfl⟩)) ?_ ?_))))
      · by_cases h4 : n < 2
        · exact DW.t (dw_orT (DT.t (dt_lt (de_var (i := 1) rfl) de_int) (decide_eq_true (by omega))))
        · exact DW.t (dw_orF (DT.f (dt_lt (de_var (i := 1) rfl) de_int) (decide_eq_false (by omega))) (dw_or1 (DT.t (dt_lt (de_var (i := 2) rfl) de_int) (decide_eq_true (by omega)))))
      · by_cases h4 : pk 6 s < 3
        · rw [if_pos h4] at ew
          rw [← ew]
          exact de_ifT (DT.t (dt_lt (de_var (i := 2) rfl) de_int) (decide_eq_true (by omega))) (de_var (i := 2) rfl)
        · rw [if_neg h4] at ew
          rw [← ew]
          exact de_ifF (DT.f (dt_lt (de_var (i := 2) rfl) de_int) (decide_eq_false (by omega))) de_int
      · refine atI_get ?_
        match w0, hw with
        | 0, _ => rfl
        | 1, _ => rfl
        | 2, _ => rfl
    · rw [if_neg hc]
      have hp := pk_lt (n - 1) (nx 6 s)
      unfold mxN at hp
      have e1 : ((n : Nat) : Int) - 1 = ((n - 1 : Nat) : Int) := by omega
      have e2 : (1 : Int) + ((pk (n - 1) (nx 6 s) : Nat) : Int) = ((1 + pk (n - 1) (nx 6 s) : Nat) : Int) := by omega
      refine dss_cons (S1 := [.own (srcO p q (nx 6 s)), pi (n : Nat), pi (pk 6 s : Nat), .no]) (ds_ifF (DW.t (dw_orF (DT.f (dt_lt (de_var (i := 1) rfl) de_int) (decide_eq_false (by omega))) (dw_or1 (DT.f (dt_lt (de_var (i := 2) rfl) de_int) (decide_eq_false (by omega)))))) dss_nil) ?_
      refine dss_cons (S1 := [.own (srcO p q (nx (n - 1) (nx 6 s))), pi (n : Nat), pi (pk 6 s : Nat), pi (1 + pk (n - 1) (nx 6 s) : Nat)]) (ds_set 3 (DE.to (de_add de_int (we_callB (i := 0) (c_law_pick Z) (hr.mono (by omega)) (da2 (de_own (i := 0) rfl pin_src) (DE.to (de_sub (de_var (i := 1) rfl) de_int) (congrArg pi e1))) ⟨p, q, nx 6 s, n - 1, by omega, rfl, rfl, rfl⟩ 0 rfl pin_src rfl)) (congrArg pi e2)) sc_law_shape.nd) ?_
      dsimp only
      generalize hs2 : nx (n - 1) (nx 6 s) = s2
      generalize hat : 1 + pk (n - 1) (nx 6 s) = at_0
      have ha1 : 1 ≤ at_0 := by omega
      have ha2 : at_0 < n := by omega
      have e3 : ((n : Nat) : Int) - ((at_0 : Nat) : Int) = ((n - at_0 : Nat) : Int) := by omega
      exact dss_one (ds_ret 2 (de_tup2 (we_callB (i := 0) ih hr (da2 (de_own (i := 0) rfl pin_src) (de_var (i := 3) rfl)) ⟨p, q, s2, at_0, ⟨ha1, by omega, by omega⟩, rfl, rfl, rfl⟩ 0 rfl pin_src rfl)
        (we_callB (i := 0) ih hr (da2 (de_own (i := 0) rfl pin_src) (DE.to (de_sub (de_var (i := 1) rfl) (de_var (i := 3) rfl)) (congrArg pi e3))) ⟨p, q, _, n - at_0, ⟨by omega, by omega, by omega⟩, rfl, rfl, rfl⟩ 0 rfl pin_src rfl)))
end
end Lh
end
section
set_option Elab.async false
set_option linter.all false
set_option maxRecDepth 100000
set_option maxHeartbeats 4000000
namespace Lh
open PySem PySem.Spec PyProof.Rows L2
section
variable {X : Cx} {S S1 S2 S3 : List Slot} {a b c e : Expr} {es : List Expr} {pos p0 : Pos}
variable {α : Type} {xs : List α} {g f : α → Rel} {it elt : Expr} {scope : Scope} {own : List (Str × Nat)} {cpos tpos : Pos} {cx : Str}
theorem de_lcS {ds : List PyData} {S' : List Slot} (St : Nat → List Slot) (j : Nat) (hN : X.N.Nodup) (ok : BlkOk X.N X.env.scope scope own) (hi : DI X (.Name cx tpos) it S (xs.map g) (St 0)) (hz : xs.length < sizeLine) (hj : j ∈ own.map (·.2)) (hlen : ∀ i, i ≤ xs.length → (St i).length = S.length) (hno : ∀ i, i ≤ xs.length → ∀ m ∈ own.map (·.2), (St i)[m]? = some .no)
    (hE : ∀ i x, xs[i]? = some x → ∀ (s : Shared) (H : Hp) (C : Addr) (cl : List (Str × Addr)) (fp : List Addr), DE (bk X scope s H C cl fp) elt ((St i).set j (.dat (g x))) (.dat (f x)) ((St (i + 1)).set j (.dat (g x))))
    (hd : xs.map f = ds.map py) (hS' : St xs.length = S')
    (hc : X.calm = true := by rfl) (hjN : X.N[j]? = some cx := by rfl) (hjL : Loc (relS scope X.env.scope) cx := by exact Or.inl rfl) (hjf : (scope.names.lookup cx == some .cell) = true ∨ (relS scope X.env.scope).names.lookup cx = some .local := by first | exact .inl rfl | exact .inr rfl)
    (hs : ∀ x, foldedSetIterable it X.env x = pure x := by intro _; rfl) :
    DE X (.ListComp elt [⟨.Name cx tpos, it, [], 0⟩] scope cpos) S (pl ds) S' := by
  subst hS'
  have h := (we_lc (cpos := cpos) St j hN ok hi hz hj hlen hno hE hc hjN hjL hjf hs).frz
  rw [hd] at h
  exact h
end
theorem glue_len (s t : Tb) : (lglue s t).length = (s.length + 1) * (t.length + 1) - 1 := by
  unfold lglue from2
  rw [List.length_map, List.length_map, List.length_range]
theorem glue_get {s t : Tb} {k : Nat} (h : k < (s.length + 1) * (t.length + 1) - 1) : (lglue s t)[k]? = some (fill (ent t (press s (List.replicate (k + 2) .o)).length) (press s (List.replicate (k + 2) .o))) := by
  unfold lglue from2
  rw [List.getElem?_map, List.getElem?_map, List.getElem?_range h]
  rfl
theorem glue_row {s t : Tb} (hs : gT s) {m : Nat} (h1 : 1 ≤ m) (h2 : m ≤ (s.length + 1) * (t.length + 1)) : 1 ≤ (press s (List.replicate m .o)).length ∧ (press s (List.replicate m .o)).length ≤ t.length + 1 := by
  rw [press_len, List.length_replicate]
  refine ⟨cl_pos (by omega) h1, ?_⟩
  have : cl m (s.length + 1) ≤ cl ((t.length + 1) * (s.length + 1)) (s.length + 1) := cl_mono (by rw [Nat.mul_comm]; exact h2)
  rw [cl_mul (by omega)] at this
  exact this
theorem glue_size {s t : Tb} (hs : gT s) (ht : gT t) {m : Nat} (h1 : 1 ≤ m) (h2 : m ≤ (s.length + 1) * (t.length + 1)) : (fill (ent t (press s (List.replicate m .o)).length) (press s (List.replicate m .o))).size = m := by
  obtain ⟨g1, g2⟩ := glue_row (t := t) hs h1 h2
  rw [fill_size _ _ (by rw [gT_ent ht g1 g2]; exact Nat.le_refl _), gT_ent ht g1 g2, List.take_length, press_size hs, sizeL_rep]
theorem gT_glue {s t : Tb} (hs : gT s) (ht : gT t) (h : (s.length + 1) * (t.length + 1) ≤ 12) : gT (lglue s t) := by
  have h1 := gT_pos hs
  have h2 := gT_pos ht
  have h3 : 2 * 2 ≤ (s.length + 1) * (t.length + 1) := Nat.mul_le_mul (by omega) (by omega)
  refine ⟨⟨fun z => ?_, fun k u hu => ?_⟩, by rw [glue_len]; omega⟩
  · have e := congrArg List.length z
    rw [glue_len] at e
    simp only [List.length_nil] at e
    omega
  · have hk := (List.getElem?_eq_some_iff.mp hu).1
    rw [glue_len] at hk
    rw [glue_get hk] at hu
    rw [← Option.some.inj hu]
    exact glue_size hs ht (by omega) (by omega)
def szL : List Nat := [2, 2, 3, 3, 4, 4, 5, 6]
def tblF (s : Src) : Tb × Src :=
  if pk 4 s = 0 then
    (lglue (anyT (2 + pk 2 (nx 4 s)) (nx 2 (nx 4 s))) (anyT (2 + pk 2 (anyS (2 + pk 2 (nx 4 s)) (nx 2 (nx 4 s)))) (nx 2 (anyS (2 + pk 2 (nx 4 s)) (nx 2 (nx 4 s))))), anyS (2 + pk 2 (anyS (2 + pk 2 (nx 4 s)) (nx 2 (nx 4 s)))) (nx 2 (anyS (2 + pk 2 (nx 4 s)) (nx 2 (nx 4 s)))))
  else (anyT (szL.getD (pk 8 (nx 4 s)) 2) (nx 8 (nx 4 s)), anyS (szL.getD (pk 8 (nx 4 s)) 2) (nx 8 (nx 4 s)))
theorem szL_b (k : Nat) : 2 ≤ szL.getD k 2 ∧ szL.getD k 2 ≤ 6 := by
  match k with
  | 0 | 1 | 2 | 3 | 4 | 5 | 6 | 7 => decide
  | k + 8 =>
    have e : szL.getD (k + 8) 2 = 2 := by
      rw [List.getD_eq_getElem?_getD, List.getElem?_eq_none (show szL.length ≤ k + 8 by show 8 ≤ k + 8; omega)]
      rfl
    rw [e]
    decide
def szDs : List PyData := [.int 2, .int 2, .int 3, .int 3, .int 4, .int 4, .int 5, .int 6]
theorem szD {k : Nat} (h : k < 8) : szDs.getD k .none = .int (szL.getD k 2 : Nat) := by
  match k, h with
  | 0, _ => rfl
  | 1, _ => rfl
  | 2, _ => rfl
  | 3, _ => rfl
  | 4, _ => rfl
  | 5, _ => rfl
  | 6, _ => rfl
  | 7, _ => rfl
theorem pk2 (s : Src) : pk 2 s ≤ 1 := by
  have := pk_lt 2 s
  unfold mxN at this
  omega
theorem tbl_gT (s : Src) : gT (tblF s).1 := by
  unfold tblF
  by_cases h : pk 4 s = 0
  · rw [if_pos h]
    have h1 := pk2 (nx 4 s)
    have h2 := pk2 (anyS (2 + pk 2 (nx 4 s)) (nx 2 (nx 4 s)))
    refine gT_glue (any_gT _ (by omega) (by omega)) (any_gT _ (by omega) (by omega)) ?_
    rw [any_len, any_len]
    have : (2 + pk 2 (nx 4 s) - 1 + 1) * (2 + pk 2 (anyS (2 + pk 2 (nx 4 s)) (nx 2 (nx 4 s))) - 1 + 1) ≤ 3 * 3 := Nat.mul_le_mul (by omega) (by omega)
    omega
  · rw [if_neg h]
    have := szL_b (pk 8 (nx 4 s))
    exact any_gT _ this.1 (by omega)
section
variable {P : Program} {w : World} {K : PySem.W.Frag} {mg : Str → Option Value} {base : Heap}
theorem sc_law_any_table : FnScope ["_law_source_here", "_law_size_here", "_law_m"] ["_law_source_here", "_law_size_here"] (defScope s_law_any_table) := ⟨rfl, rfl, rfl, by decide +kernel, rfl, by decide +kernel, by decide +kernel⟩
abbrev preAny : Pre := fun as k as' => ∃ (p q : Addr) (s : Src) (sz : Nat), (2 ≤ sz ∧ sz ≤ 12) ∧ as = [.own (srcO p q s), pi (sz : Nat)] ∧ k = (fun w => w = pd (tbD (anyT sz s))) ∧ as' = [.own (srcO p q (anyS sz s)), pi (sz : Nat)]
theorem c_law_any_table (Z : Pg K mg) : FnC P w K mg base 27 "_law_any_table" preAny := by
  obtain ⟨fd, F, hm⟩ := Z.f_law_any_table
  refine FnC.ofBody F sc_law_any_table hm (fun _ _ _ _ _ _ us hl => match us, hl with | [_, _], _ => rfl) (by rintro as k as' ⟨p, q, s, n, _, rfl, _⟩; rfl) (fun cdv A outer s0 H E hr as k as' h => ?_)
  obtain ⟨p, q, s, sz, ⟨h1, h2⟩, rfl, rfl, rfl⟩ := h
  show DSs _ _ [.own (srcO p q s), pi (sz : Nat), .no] _
  have en : (((sz : Nat) : Int) + 1 - 2).toNat = sz - 1 := by omega
  have hL : (List.range (((sz : Nat) : Int) + 1 - 2).toNat).length = sz - 1 := by rw [List.length_range, en]
  have eR : ((List.range (((sz : Nat) : Int) + 1 - 2).toNat).map fun k => py (shD (shF 12 (k + 2) (stt s k)).1)) = (shs (anyT sz s)).map py := by
    rw [en]
    show _ = (((List.range (sz - 1)).map fun i => (shF 12 (i + 2) (stt s i)).1).map shD).map py
    rw [List.map_map, List.map_map]
    rfl
  have hS : ([.own (srcO p q (stt s (List.range (((sz : Nat) : Int) + 1 - 2).toNat).length)), pi (sz : Nat), .no] : List Slot) = [.own (srcO p q (anyS sz s)), pi (sz : Nat), .no] := by rw [hL]; rfl
  refine dss_one (ds_ret (S1 := [.own (srcO p q (anyS sz s)), pi (sz : Nat), .no]) 2 (de_tupleL (ds := shs (anyT sz s)) Z.n_tuple (de_lcS (own := [("_law_m", 2)]) (xs := List.range (((sz : Nat) : Int) + 1 - 2).toNat) (g := fun (k : Nat) => py (.int (2 + (k : Int)))) (f := fun k => py (shD (shF 12 (k + 2) (stt s k)).1)) (fun i => [.own (srcO p q (stt s i)), pi (sz : Nat), .no]) 2 sc_law_any_table.nd
    (show BlkOk ["_law_source_here", "_law_size_here", "_law_m"] (defScope s_law_any_table) _ _ from ⟨rfl, by decide +kernel, by decide +kernel, by decide +kernel, by decide +kernel⟩)
    (di_range2 Z.n_range de_int (de_add (de_var (i := 1) rfl) de_int) (by omega) (by omega)) (few (by rw [hL]; omega)) (by decide) (fun _ _ => rfl) (fun _ _ => no1 rfl) (fun i x hx s1 H1 C cl fp => ?_) eR hS)))
  have hi : i < sz - 1 := by
    have := (List.getElem?_eq_some_iff.mp hx).1
    rw [hL] at this
    exact this
  have ex : x = i := by
    rw [List.getElem?_range (by omega)] at hx
    exact (Option.some.inj hx).symm
  subst ex
  exact we_callB (i := 0) (c_law_shape Z 12) hr (da2 (de_own (i := 0) rfl pin_src) (DE.to (de_var (i := 2) rfl) (by rw [show (2 : Int) + (x : Int) = ((x + 2 : Nat) : Int) by omega]))) ⟨p, q, stt s x, x + 2, ⟨by omega, by omega, by omega⟩, rfl, rfl, rfl⟩ 0 rfl pin_src rfl
theorem sc_law_table : FnScope ["_law_source_here", "_law_one", "_law_other"] ["_law_source_here"] (defScope s_law_table) := ⟨rfl, rfl, rfl, by decide +kernel, rfl, by decide +kernel, by decide +kernel⟩
theorem c_law_table (Z : Pg K mg) : FnC P w K mg base 28 "_law_table" (fun as k as' => ∃ (p q : Addr) (s : Src), as = [.own (srcO p q s)] ∧ k = (fun w => w = pd (tbD (tblF s).1)) ∧ as' = [.own (srcO p q (tblF s).2)]) := by
  obtain ⟨fd, F, hm⟩ := Z.f_law_table
  refine FnC.ofBody F sc_law_table hm (fun _ _ _ _ _ _ us hl => match us, hl with | [_], _ => rfl) (by rintro as k as' ⟨p, q, s, rfl, _⟩; rfl) (fun cdv A outer s0 H E hr as k as' h => ?_)
  obtain ⟨p, q, s, rfl, rfl, rfl⟩ := h
  show DSs _ _ [.own (srcO p q s), .no, .no] _
  unfold tblF
  have e2 : ∀ n : Nat, (2 : Int) + ((n : Nat) : Int) = ((2 + n : Nat) : Int) := fun n => by omega
  by_cases h : pk 4 s = 0
  · rw [if_pos h]
    have h1 := pk2 (nx 4 s)
    have h2 := pk2 (anyS (2 + pk 2 (nx 4 s)) (nx 2 (nx 4 s)))
    refine dss_rt (ds_ifT (S1 := [.own (srcO p q (nx 4 s)), .no, .no]) (DT.t (dt_eqI (we_callB (i := 0) (c_law_pick Z) (hr.mono (by omega)) (da2 (de_own (i := 0) rfl pin_src) de_int) ⟨p, q, s, 4, by omega, rfl, rfl, rfl⟩ 0 rfl pin_src rfl) de_int) (decide_eq_true (by omega))) ?_)
    generalize nx 4 s = s1 at *
    refine dss_cons (S1 := [.own (srcO p q (anyS (2 + pk 2 (anyS (2 + pk 2 s1) (nx 2 s1))) (nx 2 (anyS (2 + pk 2 s1) (nx 2 s1))))), pd (tbD (anyT (2 + pk 2 s1) (nx 2 s1))), pd (tbD (anyT (2 + pk 2 (anyS (2 + pk 2 s1) (nx 2 s1))) (nx 2 (anyS (2 + pk 2 s1) (nx 2 s1)))))]) (ds_par 1 2 (da2
      (we_callP (as0 := [.dat (at_ (.ref p)), pi ((2 + pk 2 s1) : Nat)]) (S1 := [.own (srcO p q (nx 2 s1)), .no, .no]) 0 0 0 (c_law_any_table Z) (hr.mono (by omega)) (da2 (de_pin (i := 0) rfl pin_src) (DE.to (de_add de_int (we_callB (i := 0) (c_law_pick Z) (hr.mono (by omega)) (da2 (de_own (i := 0) rfl pin_src) de_int) ⟨p, q, s1, 2, by omega, rfl, rfl, rfl⟩ 0 rfl pin_src rfl)) (by rw [e2]))) rfl rfl pin_src ⟨p, q, (nx 2 s1), (2 + pk 2 s1), ⟨by omega, by omega⟩, rfl, rfl, rfl⟩ rfl pin_src)
      (we_callP (as0 := [.dat (at_ (.ref p)), pi ((2 + pk 2 (anyS (2 + pk 2 s1) (nx 2 s1))) : Nat)]) (S1 := [.own (srcO p q (nx 2 (anyS (2 + pk 2 s1) (nx 2 s1)))), .no, .no]) 0 0 0 (c_law_any_table Z) (hr.mono (by omega)) (da2 (de_pin (i := 0) rfl pin_src) (DE.to (de_add de_int (we_callB (i := 0) (c_law_pick Z) (hr.mono (by omega)) (da2 (de_own (i := 0) rfl pin_src) de_int) ⟨p, q, (anyS (2 + pk 2 s1) (nx 2 s1)), 2, by omega, rfl, rfl, rfl⟩ 0 rfl pin_src rfl)) (by rw [e2]))) rfl rfl pin_src ⟨p, q, (nx 2 (anyS (2 + pk 2 s1) (nx 2 s1))), (2 + pk 2 (anyS (2 + pk 2 s1) (nx 2 s1))), ⟨by omega, by omega⟩, rfl, rfl, rfl⟩ rfl pin_src)) sc_law_table.nd) ?_
    exact dss_one (ds_ret (S1 := [.own (srcO p q (anyS (2 + pk 2 (anyS (2 + pk 2 s1) (nx 2 s1))) (nx 2 (anyS (2 + pk 2 s1) (nx 2 s1))))), pd (tbD (anyT (2 + pk 2 s1) (nx 2 s1))), pd (tbD (anyT (2 + pk 2 (anyS (2 + pk 2 s1) (nx 2 s1))) (nx 2 (anyS (2 + pk 2 s1) (nx 2 s1)))))]) 1 (we_call (c_law_glue Z) (hr.mono (by omega)) (da2 (de_var (i := 1) rfl) (de_var (i := 2) rfl)) ⟨(anyT (2 + pk 2 s1) (nx 2 s1), anyT (2 + pk 2 (anyS (2 + pk 2 s1) (nx 2 s1))) (nx 2 (anyS (2 + pk 2 s1) (nx 2 s1)))), ⟨any_gT _ (by omega) (by omega), any_gT _ (by omega) (by omega)⟩, rfl, rfl, rfl⟩))
  · rw [if_neg h]
    have hb := szL_b (pk 8 (nx 4 s))
    refine dss_cons (S1 := [.own (srcO p q (nx 4 s)), .no, .no]) (ds_ifF (DT.f (dt_eqI (we_callB (i := 0) (c_law_pick Z) (hr.mono (by omega)) (da2 (de_own (i := 0) rfl pin_src) de_int) ⟨p, q, s, 4, by omega, rfl, rfl, rfl⟩ 0 rfl pin_src rfl) de_int) (decide_eq_false (by omega))) dss_nil) ?_
    generalize nx 4 s = s1 at *
    have h8 : pk 8 s1 < 8 := pk_lt 8 s1
    have hv := szD h8
    exact dss_one (ds_ret (S1 := [.own (srcO p q (anyS (szL.getD (pk 8 s1) 2) (nx 8 s1))), .no, .no]) 1 (we_callP (as0 := [.dat (at_ (.ref p)), pi (szL.getD (pk 8 s1) 2 : Nat)]) (S1 := [.own (srcO p q (nx 8 s1)), .no, .no]) 0 0 0 (c_law_any_table Z) (hr.mono (by omega)) (da2 (de_pin (i := 0) rfl pin_src) (DE.to (we_callB (i := 0) (c_law_of Z) (hr.mono (by omega)) (da2 (de_own (i := 0) rfl pin_src) (DE.to (de_lstR (Rs := szDs.map py) (da_cons de_int (da_cons de_int (da_cons de_int (da_cons de_int (da_cons de_int (da_cons de_int (da_cons de_int (da_cons de_int da_nil)))))))) (few2 (Nat.le_of_ble_eq_true rfl))) rfl)) ⟨p, q, s1, szDs, ⟨by decide, by decide⟩, rfl, rfl, rfl⟩ 0 rfl pin_src rfl) (congrArg pd hv))) rfl rfl pin_src ⟨p, q, nx 8 s1, szL.getD (pk 8 s1) 2, ⟨hb.1, by omega⟩, rfl, rfl, rfl⟩ rfl pin_src))
theorem sc_law_made : FnScope ["_law_tables", "_law_end"] ["_law_tables", "_law_end"] (defScope s_law_made) := ⟨rfl, rfl, rfl, by decide +kernel, rfl, by decide +kernel, by decide +kernel⟩
abbrev mdS (p : Pl) : Slot := wlS p.ts p.rd (some (plRp p))
theorem c_law_made (Z : Pg K mg) : FnC P w K mg base 18 "_law_made" (PreD (fun p : Pl => gP p.ts p.rd) (fun p => [pl (tbs p.ts), pd (tsD p.rd)]) (fun p => mdS p)) := by
  refine FnC.ofD Z.f_law_made sc_law_made (fun _ _ _ _ _ _ us hl => match us, hl with | [_, _], _ => rfl) (fun _ => rfl) (fun cdv A outer s H E hr p hi => ?_)
  exact dss_one (ds_ret 0 (de_wl3 (dps_cons (de_tupleL (ds := tbs p.ts) Z.n_tuple (de_var (i := 0) rfl)) (dps_cons (de_var (i := 1) rfl) (dps_cons (de_plan (R1 := py (tsD p.ts)) (R2 := py (tsD p.rd)) Z (c_init Z) (hr.mono (by omega)) (de_tupleL (ds := tbs p.ts) Z.n_tuple (de_var (i := 0) rfl)) (de_var (i := 1) rfl) ⟨p.ts, p.rd, hi, rfl, rfl⟩) dps_nil)))))
end
end Lh
end
section
set_option Elab.async false
set_option linter.all false
set_option maxRecDepth 100000
set_option maxHeartbeats 8000000
/-! the law -/
namespace Lh
open PySem PySem.Spec PyProof.Rows L2

section
variable {X : Cx} {S S1 S2 S3 : List Slot} {a b c e : Expr} {es : List Expr} {pos p0 : Pos} {k : Slot → Prop} {o : Out} {sts : List Stmt} {p : Addr}
variable {α : Type} {xs : List α} {g f : α → Rel} {it elt : Expr} {scope : Scope} {own : List (Str × Nat)} {cpos tpos : Pos} {cx : Str}
theorem dss_setLcS {ds : List PyData} {S' : List Slot} {y : Str} {py0 spos : Pos} (i : Nat) (St : Nat → List Slot) (j : Nat) (hN : X.N.Nodup) (ok : BlkOk X.N X.env.scope scope own) (hi : DI X (.Name cx tpos) it S (xs.map g) (St 0)) (hz : xs.length < sizeLine) (hj : j ∈ own.map (·.2)) (hlen : ∀ i, i ≤ xs.length → (St i).length = S.length) (hno : ∀ i, i ≤ xs.length → ∀ m ∈ own.map (·.2), (St i)[m]? = some .no)
    (hE : ∀ i x, xs[i]? = some x → ∀ (s : Shared) (H : Hp) (C : Addr) (cl : List (Str × Addr)) (fp : List Addr), DE (bk X scope s H C cl fp) elt ((St i).set j (.dat (g x))) (.dat (f x)) ((St (i + 1)).set j (.dat (g x))))
    (hd : xs.map f = ds.map py) (hS' : St xs.length = S') (h2 : DSs X sts (S'.set i (pl ds)) o) (hok : o.ok S.length) (hlt : i < S'.length := by exact Nat.le_of_ble_eq_true rfl) (hyN : X.N[i]? = some y := by rfl) (hyl : X.env.scope.names.lookup y = some .local := by rfl)
    (hsw : swapsWith (.ListComp elt [⟨.Name cx tpos, it, [], 0⟩] scope cpos) (some (.Name y py0)) spos.line X.env = pure true := by exact sw_true rfl rfl rfl (by decide +kernel))
    (hc : X.calm = true := by rfl) (hjN : X.N[j]? = some cx := by rfl) (hjL : Loc (relS scope X.env.scope) cx := by exact Or.inl rfl) (hjf : (scope.names.lookup cx == some .cell) = true ∨ (relS scope X.env.scope).names.lookup cx = some .local := by first | exact .inl rfl | exact .inr rfl)
    (hs : ∀ x, foldedSetIterable it X.env x = pure x := by intro _; rfl) :
    DSs X (.Assign [.Name y py0] (.ListComp elt [⟨.Name cx tpos, it, [], 0⟩] scope cpos) spos :: sts) S o := by
  subst hS'
  exact dss_setLc (f := f) i St j hN ok hi hz hj hlen hno hE (fun p => by
    refine dss_freeze (i := i) (List.getElem?_set_self hlt) ?_
    rw [List.set_set, hd]
    exact h2) hok hlt hyN hyl hsw hc hjN hjL hjf hs
end
section
variable {X : Cx} {S : List Slot} {o : Out} {sts : List Stmt}
/-- from here on a name is not asked for -/
theorem dss_drop (j : Nat) (h : DSs X sts (S.set j .no) o) : DSs X sts S o := by
  have hl2 : (S.set j Slot.no).length = S.length := List.length_set
  refine ⟨by have := h.1; rw [hl2] at this; exact this, fun Fr F σ H D hl sat q => ?_⟩
  by_cases hj : j < S.length
  · have e : σ[j]? = some (σ[j]'(by omega)) := List.getElem?_eq_getElem (by omega)
    have s3 := (sat.no (ov := σ[j]'(by omega))).store (i := j) hl hj
    have e0 : σ.set j (σ[j]'(by omega)) = σ := List.set_getElem_self (by omega)
    rw [e0] at s3
    refine h.2 Fr F σ H D (hl.trans hl2.symm) s3 ?_
    rw [hl2]
    exact q
  · have e0 : S.set j .no = S := List.set_eq_of_length_le (by omega)
    rw [e0] at h
    exact h.2 Fr F σ H D hl sat q
end
/-- the plans that the law makes -/
structure gQ (p : Pl) : Prop where
  gp : gP p.ts p.rd
  t1 : p.ts.length ≤ 1
  t8 : ∀ t ∈ p.ts, t.length ≤ 8
  r3 : p.rd.length ≤ 3
  r4 : ∀ t ∈ p.rd, t.length ≤ 4
def word1 (p : Pl) (a : Nat) : Pl := ⟨p.ts ++ p.rd.take a, p.rd.drop a ++ p.rd.take a⟩
def word2 (p : Pl) : Pl := ⟨p.ts, p.rd ++ p.rd⟩
def word3 (p : Pl) : Pl := ⟨p.ts ++ p.rd, p.rd⟩
def word4 (p : Pl) : Pl := ⟨p.ts, [lglue (p.rd.getD 0 []) (p.rd.getD 1 [])]⟩
/-- told otherwise -/
structure Wrd (p v : Pl) : Prop where
  sp : sP v
  pl : p.plain = v.plain
  sh : ∀ n, 1 ≤ n → shp p.st n = shp v.st n
/-- what the mathematics gives -/
structure MathOK : Prop where
  w1 : ∀ p a, gQ p → a ≤ p.rd.length → Wrd p (word1 p a)
  w2 : ∀ p, gQ p → Wrd p (word2 p)
  w3 : ∀ p, gQ p → Wrd p (word3 p)
  w4 : ∀ p, gQ p → p.rd.length = 2 → ((p.rd.getD 0 []).length + 1) * ((p.rd.getD 1 []).length + 1) < 13 → Wrd p (word4 p)
  lq : ∀ p, gQ p → LPq p p.plain
  dif : ∀ p q, gQ p → gQ q → p.plain ≠ q.plain → ∃ n m, rP p q n ∧ Unl (lbh p.plain n) (lbh q.plain n) m ∧ ((plist p 60).take (comN (plist p 60) (plist q 60))).length = n ∧ prodG ((plist p 60).take (comN (plist p 60) (plist q 60))) n = prodF p.plain.plain n
theorem gQ.sp {p : Pl} (h : gQ p) : sP p := ⟨h.gp, by have := h.t1; omega, by have := h.r3; omega⟩
/-- the rows of the law -/
def rwS (s : Src) : Nat → Src
  | 0 => s
  | i + 1 => anyS (2 + pk 4 (rwS s i)) (nx 4 (rwS s i))
def rwT (s : Src) (i : Nat) : Tb := anyT (2 + pk 4 (rwS s i)) (nx 4 (rwS s i))
def rwL (s : Src) (n : Nat) : List Tb := (List.range n).map (rwT s)
theorem pk4 (s : Src) : pk 4 s ≤ 3 := by
  have := pk_lt 4 s
  unfold mxN at this
  omega
theorem pk3 (s : Src) : pk 3 s ≤ 2 := by
  have := pk_lt 3 s
  unfold mxN at this
  omega
theorem rwT_ok (s : Src) (i : Nat) : gT (rwT s i) ∧ (rwT s i).length ≤ 4 := by
  have := pk4 (rwS s i)
  unfold rwT
  exact ⟨any_gT _ (by omega) (by omega), by rw [any_len]; omega⟩
theorem tbl_len (s : Src) : (tblF s).1.length ≤ 8 := by
  unfold tblF
  by_cases h : pk 4 s = 0
  · rw [if_pos h]
    have h1 := pk2 (nx 4 s)
    have h2 := pk2 (anyS (2 + pk 2 (nx 4 s)) (nx 2 (nx 4 s)))
    rw [glue_len, any_len, any_len]
    have : (2 + pk 2 (nx 4 s) - 1 + 1) * (2 + pk 2 (anyS (2 + pk 2 (nx 4 s)) (nx 2 (nx 4 s))) - 1 + 1) ≤ 3 * 3 := Nat.mul_le_mul (by omega) (by omega)
    omega
  · rw [if_neg h]
    have := szL_b (pk 8 (nx 4 s))
    rw [any_len]
    omega
theorem gQ_one (s s2 : Src) (n c : Nat) (h1 : 1 ≤ n) (h2 : n ≤ 3) : gQ ⟨[(tblF s2).1].take c, rwL s n⟩ := by
  have hr : ∀ t ∈ rwL s n, gT t ∧ t.length ≤ 4 := fun t ht => by
    unfold rwL at ht
    obtain ⟨i, _, rfl⟩ := List.mem_map.mp ht
    exact rwT_ok s i
  have hf : ∀ t ∈ [(tblF s2).1].take c, gT t ∧ t.length ≤ 8 := fun t ht => by
    have := List.mem_of_mem_take ht
    rw [List.mem_singleton.mp this]
    exact ⟨tbl_gT s2, tbl_len s2⟩
  have hl : (rwL s n).length = n := by unfold rwL; rw [List.length_map, List.length_range]
  refine ⟨⟨fun t ht => (hf t ht).1, fun t ht => (hr t ht).1, fun z => ?_⟩, by show ([(tblF s2).1].take c).length ≤ 1; rw [List.length_take]; exact Nat.min_le_right _ _, fun t ht => (hf t ht).2, by show (rwL s n).length ≤ 3; omega, fun t ht => (hr t ht).2⟩
  have := congrArg List.length z
  rw [hl] at this
  simp only [List.length_nil] at this
  omega
abbrev mdR (p : Pl) : Rel := wlR (py (tsD p.ts)) (py (tsD p.rd)) (some (plRp p))
theorem isQ_md {l : List Pl} : IsQ (lstR (l.map mdR)) (l.map mdR) := isQ_l

def lapB : List Stmt := match defBody s_law with
  | _ :: .For _ _ b _ _ :: _ => b
  | _ => []
def nxI (n : Nat) (s : Src) : Nat → Src
  | 0 => s
  | i + 1 => nx n (nxI n s i)
def glOK (p : Pl) : Bool := decide (p.rd.length = 2) && decide (((p.rd.getD 0 []).length + 1) * ((p.rd.getD 1 []).length + 1) < 13)
def wrdL (p : Pl) (a : Nat) : List Pl := [word1 p a, word2 p] ++ [word3 p] ++ (if glOK p then [word4 p] else [])
def endS (p : Pl) (s6 : Src) : Src := if pk (p.rd.getD 0 []).length (nx p.rd.length s6) < (p.rd.getD (pk p.rd.length s6) []).length then (shF 12 (pk (p.rd.getD 0 []).length (nx p.rd.length s6) + 2) (nx (p.rd.getD 0 []).length (nx p.rd.length s6))).2 else nx (p.rd.getD 0 []).length (nx p.rd.length s6)
def lap1 (p : Pl) (s4 : Src) : Src := endS p (nxI 40 (nx (p.rd.length + 1) s4) (wrdL p (pk (p.rd.length + 1) s4)).length)
def lapS (s : Src) : Src := lap1 ⟨[(tblF (rwS (nx 3 s) (1 + pk 3 s))).1].take (pk 2 (tblF (rwS (nx 3 s) (1 + pk 3 s))).2), rwL (nx 3 s) (1 + pk 3 s)⟩ (nx 2 (tblF (rwS (nx 3 s) (1 + pk 3 s))).2)
def itL (s : Src) : Nat → Src
  | 0 => s
  | i + 1 => lapS (itL s i)
theorem wrd_ok (M : MathOK) {p : Pl} (h : gQ p) {a : Nat} (ha : a ≤ p.rd.length) : ∀ v ∈ wrdL p a, Wrd p v := fun v hv => by
  unfold wrdL at hv
  rcases List.mem_append.mp hv with hv | hv
  · rcases List.mem_append.mp hv with hv | hv
    · rcases List.mem_cons.mp hv with rfl | hv
      · exact M.w1 p a h ha
      · rw [List.mem_singleton.mp hv]
        exact M.w2 p h
    · rw [List.mem_singleton.mp hv]
      exact M.w3 p h
  · by_cases hg : glOK p = true
    · rw [if_pos hg] at hv
      rw [List.mem_singleton.mp hv]
      obtain ⟨h1, h2⟩ := Bool.and_eq_true_iff.mp hg
      exact M.w4 p h (of_decide_eq_true h1) (of_decide_eq_true h2)
    · rw [if_neg hg] at hv
      cases hv

section
variable {P : Program} {w : World} {K : PySem.W.Frag} {mg : Str → Option Value} {base : Heap}
theorem sc_law : FnScope ["_law_script", "_law_source_here", "_law_lap", "_law_row", "_law_first", "_law_one", "_law_at", "_law_words", "_law_other", "_law_told_here", "_law_n", "_law_k", "_law_m", "_law_table_here", "_law_times", "_law_left", "_law_right", "_law_turn"] ["_law_script"] (defScope s_law) := ⟨rfl, rfl, rfl, by decide +kernel, rfl, by decide +kernel, by decide +kernel⟩
theorem okD {x : Str} {qual : Str} {pa : Arguments} {bd : List Stmt} {sc : Scope} {f : Addr} {fd : FuncData} {N ps : List Str} {kk : Nat} {I : Type} {c : I → Prop} {a : I → List Slot} {r : I → Slot} (F : FunD K x qual pa bd sc [] [] f fd) (S : FnScope N ps sc)
    (hlen : ∀ i, (a i).length = ps.length)
    (body : ∀ (cdv : Value) (A : Around) (outer : List Env) (s : Shared) (H : Hp) (E : XK), Room kk (A.deeper (envOfC qual sc s.heap.objs.size f cdv)) → ∀ i, c i →
      DSs (bx P w K mg base N qual sc f cdv A outer s H E) bd (a i ++ List.replicate (N.length - ps.length) .no) (.rt (fun w => w = r i) [])) : FnOk P w K mg base CX0 (kk + 1) f fd ps (spD K (PreD c a r)) := by
  refine F.ok S (fun vs H Q E h => ?_) (fun cdv A outer s H vs Q E hr h => ?_)
  · obtain ⟨as, k, as', Fr, F0, h1, h2, _⟩ := h
    rw [h2]
    exact lenD hlen as k as' h1
  · obtain ⟨as, k, as', Fr, F0, ⟨i, hi, rfl, rfl, rfl⟩, h2, h3, h4⟩ := h
    have b := body cdv A outer s H E hr i hi
    rw [← hlen i] at b
    have hN : ps.length ≤ N.length := by
      have := congrArg List.length S.pre
      rw [List.length_take] at this
      omega
    have hlai := hlen i
    have hl : (L2.start N vs).length = (a i ++ List.replicate (N.length - (a i).length) Slot.no).length := by
      unfold L2.start
      rw [List.length_append, List.length_append, List.length_map, List.length_replicate, List.length_replicate, h2]
    have hs : Sat K F0 H (zc (L2.start N vs) (a i ++ List.replicate (N.length - (a i).length) Slot.no) ++ Fr) := by
      unfold L2.start
      rw [h2]
      exact sat_start _ h2 h3
    exact ⟨wpSs _ bd, PSs.nox pSs, b.2 Fr F0 (L2.start N vs) H _ hl hs fun w v σ' F2 H2 kw hl2 e2 s2 => h4 w v σ' F2 H2 kw (Nat.zero_le _) e2 s2⟩
theorem c_law (Z : Pg K mg) (M : MathOK) {fd : FuncData} (F : FunD K "law" "law" (defArgs s_law) (defBody s_law) (defScope s_law) [] [] (He.ga K "law") fd) : FnOk P w K mg base CX0 78 (He.ga K "law") fd ["_law_script"] (spD K (PreD (fun ns : List Int => ns.length ≤ 1000) (fun ns => [.dat (inR ns)]) (fun _ => pb true))) := by
  refine okD F sc_law (fun _ => rfl) (fun cdv A outer s0 H E hr ns hn => ?_)
  have hn : ns.length ≤ 1000 := hn
  refine dss_new 1 (we_call (c_law_source Z) (hr.mono (by omega)) (da1 (de_var (i := 0) rfl)) ⟨ns, hn, rfl, rfl, rfl⟩) sc_law.nd (fun w hw => ?_) (Nat.zero_le _)
  obtain ⟨p, q, rfl⟩ := hw
  have lap : ∀ (s : Src) (R : Rel), DSs (bx P w K mg base ["_law_script", "_law_source_here", "_law_lap", "_law_row", "_law_first", "_law_one", "_law_at", "_law_words", "_law_other", "_law_told_here", "_law_n", "_law_k", "_law_m", "_law_table_here", "_law_times", "_law_left", "_law_right", "_law_turn"] "law" (defScope s_law) (He.ga K "law") cdv A outer s0 H E) lapB [.dat (inR ns), .own (srcO p q (s)), .dat R, .no, .no, .no, .no, .no, .no, .no, .no, .no, .no, .no, .no, .no, .no, .no] (.nx [.dat (inR ns), .own (srcO p q (lapS s)), .dat R, .no, .no, .no, .no, .no, .no, .no, .no, .no, .no, .no, .no, .no, .no, .no]) := fun s R => by
    have e2 : ∀ n : Nat, (2 : Int) + ((n : Nat) : Int) = ((2 + n : Nat) : Int) := fun n => by omega
    have hp3 := pk3 s
    unfold lapS
    have en : ((1 : Int) + ((pk 3 s : Nat) : Int)).toNat = 1 + pk 3 s := by omega
    have hL : (List.range ((1 : Int) + ((pk 3 s : Nat) : Int)).toNat).length = 1 + pk 3 s := by rw [List.length_range, en]
    refine dss_setLcS (own := [("_law_turn", 17)]) (xs := List.range ((1 : Int) + ((pk 3 s : Nat) : Int)).toNat) (g := fun (k : Nat) => py (.int (0 + (k : Int)))) (f := fun k => py (tbD (rwT (nx 3 s) k))) (ds := tbs (rwL (nx 3 s) (1 + pk 3 s))) (S' := [.dat (inR ns), .own (srcO p q (rwS (nx 3 s) (1 + pk 3 s))), .dat R, .no, .no, .no, .no, .no, .no, .no, .no, .no, .no, .no, .no, .no, .no, .no]) 3 (fun i => [.dat (inR ns), .own (srcO p q (rwS (nx 3 s) i)), .dat R, .no, .no, .no, .no, .no, .no, .no, .no, .no, .no, .no, .no, .no, .no, .no]) 17 sc_law.nd
      (show BlkOk ["_law_script", "_law_source_here", "_law_lap", "_law_row", "_law_first", "_law_one", "_law_at", "_law_words", "_law_other", "_law_told_here", "_law_n", "_law_k", "_law_m", "_law_table_here", "_law_times", "_law_left", "_law_right", "_law_turn"] (defScope s_law) _ _ from ⟨rfl, by decide +kernel, by decide +kernel, by decide +kernel, by decide +kernel⟩)
      (di_range1 Z.n_range (de_add de_int (we_callB (i := 1) (c_law_pick Z) (hr.mono (by omega)) (da2 (de_own (i := 1) rfl pin_src) de_int) ⟨p, q, s, 3, by omega, rfl, rfl, rfl⟩ 0 rfl pin_src rfl)) (by omega)) (few (by rw [hL]; omega)) (by decide) (fun _ _ => rfl) (fun _ _ => no1 rfl) (fun i x hx s1 H1 C cl fp => ?_) (by rw [en]; show _ = ((List.map (rwT (nx 3 s)) (List.range (1 + pk 3 s))).map tbD).map py; rw [List.map_map, List.map_map]; rfl) (by rw [hL]) ?_ rfl
    · have hi : i < 1 + pk 3 s := by
        have := (List.getElem?_eq_some_iff.mp hx).1
        rw [hL] at this
        exact this
      have ex : x = i := by
        rw [List.getElem?_range (by omega)] at hx
        exact (Option.some.inj hx).symm
      subst ex
      have h4 := pk4 (rwS (nx 3 s) x)
      exact we_callP (as0 := [.dat (at_ (.ref p)), pi (2 + pk 4 (rwS (nx 3 s) x) : Nat)]) (S1 := ([.dat (inR ns), .own (srcO p q (nx 4 (rwS (nx 3 s) x))), .dat R, .no, .no, .no, .no, .no, .no, .no, .no, .no, .no, .no, .no, .no, .no, .no]).set 17 (.dat (py (.int (0 + (x : Int)))))) 1 0 0 (c_law_any_table Z) (hr.mono (by omega)) (da2 (de_pin (i := 1) rfl pin_src) (DE.to (de_add de_int (we_callB (i := 1) (c_law_pick Z) (hr.mono (by omega)) (da2 (de_own (i := 1) rfl pin_src) de_int) ⟨p, q, rwS (nx 3 s) x, 4, by omega, rfl, rfl, rfl⟩ 0 rfl pin_src rfl)) (by rw [e2]))) rfl rfl pin_src ⟨p, q, nx 4 (rwS (nx 3 s) x), 2 + pk 4 (rwS (nx 3 s) x), ⟨by omega, by omega⟩, rfl, rfl, rfl⟩ rfl pin_src
    generalize hs2 : rwS (nx 3 s) (1 + pk 3 s) = s2
    have hone := gQ_one (nx 3 s) s2 (1 + pk 3 s) (pk 2 (tblF s2).2) (by omega) (by omega)
    have ecf : cutG (tbs [(tblF s2).1]) none (some ((pk 2 (tblF s2).2 : Nat) : Int)) = tbs ([(tblF s2).1].take (pk 2 (tblF s2).2)) := by rw [cut_to]; exact List.map_take.symm
    refine dss_cons (S1 := [.dat (inR ns), .own (srcO p q (nx 2 (tblF s2).2)), .dat R, pl (tbs (rwL (nx 3 s) (1 + pk 3 s))), pl (tbs ([(tblF s2).1].take (pk 2 (tblF s2).2))), .no, .no, .no, .no, .no, .no, .no, .no, .no, .no, .no, .no, .no]) (ds_set 4 (DE.to (de_sl (ds := tbs [(tblF s2).1]) (de_lst1 (we_callB (i := 1) (c_law_table Z) (hr.mono (by omega)) (da1 (de_own (i := 1) rfl pin_src)) ⟨p, q, s2, rfl, rfl, rfl⟩ 0 rfl pin_src rfl)) dp_no (dp_int (we_callB (i := 1) (c_law_pick Z) (hr.mono (by omega)) (da2 (de_own (i := 1) rfl pin_src) de_int) ⟨p, q, (tblF s2).2, 2, by omega, rfl, rfl, rfl⟩ 0 rfl pin_src rfl))) (congrArg pl ecf)) sc_law.nd) ?_
    generalize nx 2 (tblF s2).2 = s4
    generalize ho : (Pl.mk ([(tblF s2).1].take (pk 2 (tblF s2).2)) (rwL (nx 3 s) (1 + pk 3 s))) = pp at hone
    have ho1 : [(tblF s2).1].take (pk 2 (tblF s2).2) = pp.ts := by rw [← ho]
    have ho2 : rwL (nx 3 s) (1 + pk 3 s) = pp.rd := by rw [← ho]
    rw [ho1, ho2]
    clear ho1 ho2 ho ecf hs2 hL en hp3
    clear s2 s
    have hl3 := hone.r3
    have hsp := hone.sp
    have hrl : (tbs pp.rd).length = pp.rd.length := List.length_map _
    have ha : pk (pp.rd.length + 1) s4 ≤ pp.rd.length := by
      have := pk_lt (pp.rd.length + 1) s4
      unfold mxN at this
      omega
    have e1 : (((tbs pp.rd).length : Nat) : Int) + 1 = ((pp.rd.length + 1 : Nat) : Int) := by rw [hrl]; rfl
    refine dss_cons (S1 := [.dat (inR ns), .own (srcO p q (nx (pp.rd.length + 1) s4)), .dat R, pl (tbs pp.rd), pl (tbs pp.ts), mdS pp, pi (pk (pp.rd.length + 1) s4 : Nat), .no, .no, .no, .no, .no, .no, .no, .no, .no, .no, .no]) (ds_par 5 6 (da2 (we_call (c_law_made Z) (hr.mono (by omega)) (da2 (de_var (i := 4) rfl) (de_tupleL (ds := tbs pp.rd) Z.n_tuple (de_var (i := 3) rfl))) ⟨pp, hone.gp, rfl, rfl, rfl⟩) (we_callB (i := 1) (c_law_pick Z) (hr.mono (by omega)) (da2 (de_own (i := 1) rfl pin_src) (DE.to (de_add (de_len Z.n_len (de_var (i := 3) rfl)) de_int) (congrArg pi e1))) ⟨p, q, s4, pp.rd.length + 1, by omega, rfl, rfl, rfl⟩ 0 rfl pin_src rfl)) sc_law.nd) ?_
    unfold lap1
    have hwo := wrd_ok M hone ha
    generalize pk (pp.rd.length + 1) s4 = a at ha hwo ⊢
    generalize nx (pp.rd.length + 1) s4 = s5
    have ec1 : cutG (tbs pp.rd) none (some ((a : Nat) : Int)) = tbs (pp.rd.take a) := by rw [cut_to]; exact List.map_take.symm
    have ec2 : cutG (tbs pp.rd) (some ((a : Nat) : Int)) none = tbs (pp.rd.drop a) := by rw [cut_from]; exact List.map_drop.symm
    have eap : ∀ x y : List Tb, tbs x ++ tbs y = tbs (x ++ y) := fun x y => by show List.map tbD x ++ List.map tbD y = List.map tbD (x ++ y); rw [List.map_append]
    have w1 := hwo (word1 pp a) (List.mem_append_left _ (List.mem_append_left _ List.mem_cons_self))
    have w2 := hwo (word2 pp) (List.mem_append_left _ (List.mem_append_left _ (List.mem_cons_of_mem _ List.mem_cons_self)))
    have w3 := hwo (word3 pp) (List.mem_append_left _ (List.mem_append_right _ List.mem_cons_self))
    have hl1 := hone.t1
    have erep : (List.replicate (2 : Int).toNat (tbs pp.rd)).flatten = tbs (pp.rd ++ pp.rd) := by
      show (tbs pp.rd ++ (tbs pp.rd ++ [])) = _
      rw [List.append_nil, eap]
    refine dss_new 7 (we_lstO (Rs := [mdR (word1 pp a), mdR (word2 pp)]) (da2 (we_call (c_law_made Z) (hr.mono (by omega)) (da2 (DE.to (de_cat (de_var (i := 4) rfl) (DE.to (de_sl (de_var (i := 3) rfl) dp_no (dp_int (de_var (i := 6) rfl))) (congrArg pl ec1)) (few2 (by rw [List.length_map, List.length_map, List.length_take]; omega))) (congrArg pl (eap _ _))) (de_tupleL (ds := tbs (pp.rd.drop a ++ pp.rd.take a)) Z.n_tuple (DE.to (de_cat (DE.to (de_sl (de_var (i := 3) rfl) (dp_int (de_var (i := 6) rfl)) dp_no) (congrArg pl ec2)) (DE.to (de_sl (de_var (i := 3) rfl) dp_no (dp_int (de_var (i := 6) rfl))) (congrArg pl ec1)) (few2 (by rw [List.length_map, List.length_map, List.length_take, List.length_drop]; omega))) (congrArg pl (eap _ _))))) ⟨word1 pp a, w1.sp.1, rfl, rfl, rfl⟩) (we_call (c_law_made Z) (hr.mono (by omega)) (da2 (de_var (i := 4) rfl) (de_tupleL (ds := tbs (pp.rd ++ pp.rd)) Z.n_tuple (DE.to (de_rep (de_var (i := 3) rfl) de_int (by decide) (few2 (by rw [List.length_map]; show _ * 2 ≤ _; omega))) (congrArg pl erep)))) ⟨word2 pp, w2.sp.1, rfl, rfl, rfl⟩)) (few2 (Nat.le_of_ble_eq_true rfl))) sc_law.nd (fun w hw => ?_) rfl
    obtain ⟨l, rfl⟩ := hw
    refine dss_cons (S1 := [.dat (inR ns), .own (srcO p q (s5)), .dat R, pl (tbs pp.rd), pl (tbs pp.ts), mdS pp, pi (a : Nat), .own (lstO l (([word1 pp a, word2 pp] ++ [word3 pp]).map mdR)), .no, .no, .no, .no, .no, .no, .no, .no, .no, .no]) (ds_append (R := mdR (word3 pp)) 7 (we_call (c_law_made Z) (hr.mono (by omega)) (da2 (DE.to (de_cat (de_var (i := 4) rfl) (de_var (i := 3) rfl) (few2 (by rw [List.length_map, List.length_map]; omega))) (congrArg pl (eap _ _))) (de_tupleL (ds := tbs pp.rd) Z.n_tuple (de_var (i := 3) rfl))) ⟨word3 pp, w3.sp.1, rfl, rfl, rfl⟩) rfl rfl (few (Nat.le_of_ble_eq_true rfl))) ?_
    refine dss_cons (S1 := [.dat (inR ns), .own (srcO p q (s5)), .dat R, pl (tbs pp.rd), pl (tbs pp.ts), mdS pp, pi (a : Nat), .own (lstO l ((wrdL pp a).map mdR)), .no, .no, .no, .no, .no, .no, .no, .no, .no, .no]) ?_ ?_
    · by_cases h2 : pp.rd.length = 2
      · have eg0 : atI (tbs pp.rd) 0 = some (tbD (pp.rd.getD 0 [])) := by
          match hq : pp.rd, h2 with
          | [x, y], _ => rfl
        have eg1 : atI (tbs pp.rd) 1 = some (tbD (pp.rd.getD 1 [])) := by
          match hq : pp.rd, h2 with
          | [x, y], _ => rfl
        have hm0 : pp.rd.getD 0 [] ∈ pp.rd := by
          match hq : pp.rd, h2 with
          | [x, y], _ => exact List.mem_cons_self
        have hm1 : pp.rd.getD 1 [] ∈ pp.rd := by
          match hq : pp.rd, h2 with
          | [x, y], _ => exact List.mem_cons_of_mem _ List.mem_cons_self
        have em : ((((shs (pp.rd.getD 0 [])).length : Nat) : Int) + 1) * ((((shs (pp.rd.getD 1 [])).length : Nat) : Int) + 1) = ((((pp.rd.getD 0 []).length + 1) * ((pp.rd.getD 1 []).length + 1) : Nat) : Int) := by rw [List.length_map, List.length_map, Int.natCast_mul]; rfl
        have hl0 := (hone.r4 _ hm0)
        have tst : ∀ z, decide (((pp.rd.getD 0 []).length + 1) * ((pp.rd.getD 1 []).length + 1) < 13) = z → decide (((((pp.rd.getD 0 []).length + 1) * ((pp.rd.getD 1 []).length + 1) : Nat) : Int) < 13) = z := fun z hz => by
          rw [← hz]
          exact decide_eq_decide.mpr (by omega)
        cases h3 : decide (((pp.rd.getD 0 []).length + 1) * ((pp.rd.getD 1 []).length + 1) < 13) with
        | true =>
          have hgl : glOK pp = true := Bool.and_eq_true_iff.mpr ⟨decide_eq_true h2, h3⟩
          have w4 := hwo (word4 pp) (List.mem_append_right _ (by rw [if_pos hgl]; exact List.mem_cons_self))
          have ewl : wrdL pp a = [word1 pp a, word2 pp, word3 pp, word4 pp] := by unfold wrdL; rw [if_pos hgl]; rfl
          rw [ewl]
          exact ds_ifT (DW.t (dw_andT (DT.t (dt_eqI (de_len Z.n_len (de_var (i := 3) rfl)) de_int) (decide_eq_true (by rw [hrl, h2]; rfl))) (dw_and1 (DT.t (dt_lt (DE.to (de_mul (de_add (de_lent (ds := shs (pp.rd.getD 0 [])) Z.n_len (de_ix (ds := tbs pp.rd) (de_var (i := 3) rfl) de_int eg0)) de_int) (de_add (de_lent (ds := shs (pp.rd.getD 1 [])) Z.n_len (de_ix (ds := tbs pp.rd) (de_var (i := 3) rfl) de_int eg1)) de_int) (.inl (by rw [List.length_map]; omega))) (congrArg pi em)) de_int) (tst true h3)))))
            (dss_one (ds_append (R := mdR (word4 pp)) 7 (we_call (c_law_made Z) (hr.mono (by omega)) (da2 (de_var (i := 4) rfl) (de_tup1 (we_call (c_law_glue Z) (hr.mono (by omega)) (da2 (de_ix (ds := tbs pp.rd) (de_var (i := 3) rfl) de_int eg0) (de_ix (ds := tbs pp.rd) (de_var (i := 3) rfl) de_int eg1)) ⟨(pp.rd.getD 0 [], pp.rd.getD 1 []), ⟨hone.gp.2.1 _ hm0, hone.gp.2.1 _ hm1⟩, rfl, rfl, rfl⟩))) ⟨word4 pp, w4.sp.1, rfl, rfl, rfl⟩) rfl rfl (few (Nat.le_of_ble_eq_true rfl))))
        | false =>
          have hgl : glOK pp = false := by unfold glOK; rw [h3, Bool.and_false]
          have ewl : wrdL pp a = [word1 pp a, word2 pp, word3 pp] := by unfold wrdL; rw [if_neg (by rw [hgl]; decide)]; rfl
          rw [ewl]
          exact ds_ifF (DW.t (dw_andT (DT.t (dt_eqI (de_len Z.n_len (de_var (i := 3) rfl)) de_int) (decide_eq_true (by rw [hrl, h2]; rfl))) (dw_and1 (DT.f (dt_lt (DE.to (de_mul (de_add (de_lent (ds := shs (pp.rd.getD 0 [])) Z.n_len (de_ix (ds := tbs pp.rd) (de_var (i := 3) rfl) de_int eg0)) de_int) (de_add (de_lent (ds := shs (pp.rd.getD 1 [])) Z.n_len (de_ix (ds := tbs pp.rd) (de_var (i := 3) rfl) de_int eg1)) de_int) (.inl (by rw [List.length_map]; omega))) (congrArg pi em)) de_int) (tst false h3))))) dss_nil
      · have hgl : glOK pp = false := by unfold glOK; rw [decide_eq_false h2, Bool.false_and]
        have ewl : wrdL pp a = [word1 pp a, word2 pp, word3 pp] := by unfold wrdL; rw [if_neg (by rw [hgl]; decide)]; rfl
        rw [ewl]
        exact ds_ifF (DW.t (dw_andF (DT.f (dt_eqI (de_len Z.n_len (de_var (i := 3) rfl)) de_int) (decide_eq_false (by rw [hrl]; omega))))) dss_nil
    refine dss_freeze (i := 7) rfl ?_
    show DSs _ _ [.dat (inR ns), .own (srcO p q (s5)), .dat R, pl (tbs pp.rd), pl (tbs pp.ts), mdS pp, pi (a : Nat), .dat (lstR ((wrdL pp a).map mdR)), .no, .no, .no, .no, .no, .no, .no, .no, .no, .no] _
    refine dss_cons (S1 := [.dat (inR ns), .own (srcO p q (nxI 40 s5 (wrdL pp a).length)), .dat R, pl (tbs pp.rd), pl (tbs pp.ts), mdS pp, pi (a : Nat), .dat (lstR ((wrdL pp a).map mdR)), .no, .no, .no, .no, .no, .no, .no, .no, .no, .no]) (ds_forS (Rs := (wrdL pp a).map mdR) (fun i => [.dat (inR ns), .own (srcO p q (nxI 40 s5 i)), .dat R, pl (tbs pp.rd), pl (tbs pp.ts), mdS pp, pi (a : Nat), .dat (lstR ((wrdL pp a).map mdR)), .no, .no, .no, .no, .no, .no, .no, .no, .no, .no]) (di_lst (de_var (i := 7) rfl) isQ_l) (fun i R' hR => ?_) (by rw [List.length_map])) ?_
    · have hi : i < (wrdL pp a).length := by
        have := (List.getElem?_eq_some_iff.mp hR).1
        rw [List.length_map] at this
        exact this
      rw [List.getElem?_map, List.getElem?_eq_getElem hi] at hR
      have hR : mdR (wrdL pp a)[i] = R' := Option.some.inj hR
      subst hR
      have hw := hwo _ (List.getElem_mem hi)
      generalize (wrdL pp a)[i] = v at hw
      show ∃ S1, _ ∧ (DSs _ _ S1 (.nx [.dat (inR ns), .own (srcO p q (nxI 40 s5 (i + 1))), .dat R, pl (tbs pp.rd), pl (tbs pp.ts), mdS pp, pi (a : Nat), .dat (lstR ((wrdL pp a).map mdR)), .no, .no, .no, .no, .no, .no, .no, .no, .no, .no]) ∨ _)
      have es : nxI 40 s5 (i + 1) = nx 40 (nxI 40 s5 i) := rfl
      rw [es]
      generalize nxI 40 s5 i = u
      have hgv := gP_plain hw.sp.1
      have hgo := gP_plain hone.gp
      have h40 : pk 40 u ≤ 39 := by
        have := pk_lt 40 u
        unfold mxN at this
        omega
      have eN : (2 : Int) + ((pk 40 u : Nat) : Int) = ((2 + pk 40 u : Nat) : Int) := by omega
      have hsh := hw.sh (2 + pk 40 u) (by omega)
      refine ⟨_, dg_name 8 sc_law.nd, .inl ?_⟩
      refine dss_cons (S1 := [.dat (inR ns), .own (srcO p q (u)), .dat R, pl (tbs pp.rd), pl (tbs pp.ts), mdS pp, pi (a : Nat), .dat (lstR ((wrdL pp a).map mdR)), .dat (mdR v), .no, .no, .no, .no, .no, .no, .no, .no, .no]) (ds_ifF (DW.t (dw_orF (DT.to (dt_notTrue (we_call (c_are_alike Z) (hr.mono (by omega)) (da2 (de_wget hr (de_var (i := 5) rfl) (.inr (.inr ⟨rfl, rfl⟩))) (de_wget hr (de_var (i := 8) rfl) (.inr (.inr ⟨rfl, rfl⟩)))) ⟨(pp, v), ⟨hsp, hw.sp⟩, rfl, rfl, rfl⟩)) (by rw [decide_eq_true hw.pl]; rfl)) (dw_or1 (DT.f (dt_neP Z (c_eq Z) (hr.mono (by omega)) (we_call (c_plain Z) (hr.mono (by omega)) (da1 (de_wget hr (de_var (i := 5) rfl) (.inr (.inr ⟨rfl, rfl⟩)))) ⟨pp, hsp, rfl, rfl, rfl⟩) (we_call (c_plain Z) (hr.mono (by omega)) (da1 (de_wget hr (de_var (i := 8) rfl) (.inr (.inr ⟨rfl, rfl⟩)))) ⟨v, hw.sp, rfl, rfl, rfl⟩) (ccE_pl hgo hgv)) (by rw [decide_eq_true hw.pl]; rfl))))) dss_nil) ?_
      refine dss_cons (S1 := [.dat (inR ns), .own (srcO p q (u)), .dat R, pl (tbs pp.rd), pl (tbs pp.ts), mdS pp, pi (a : Nat), .dat (lstR ((wrdL pp a).map mdR)), .dat (mdR v), pl [.none, .none], .no, .no, .no, .no, .no, .no, .no, .no]) (ds_set 9 (de_lst2 (we_call (c_least_parting Z) (hr.mono (by omega)) (da2 (de_wget hr (de_var (i := 5) rfl) (.inr (.inr ⟨rfl, rfl⟩))) (de_wget hr (de_var (i := 8) rfl) (.inr (.inr ⟨rfl, rfl⟩)))) ⟨(pp, v, .none), ⟨⟨hsp, hw.sp⟩, .inl ⟨hw.pl, rfl⟩⟩, rfl, rfl, rfl⟩) (we_call (c_parting Z) (hr.mono (by omega)) (da2 (de_wget hr (de_var (i := 8) rfl) (.inr (.inr ⟨rfl, rfl⟩))) (de_wget hr (de_var (i := 5) rfl) (.inr (.inr ⟨rfl, rfl⟩)))) ⟨(v, pp), ⟨hw.sp, hsp, hw.pl.symm⟩, rfl, rfl, rfl⟩)) sc_law.nd) ?_
      refine dss_cons (S1 := [.dat (inR ns), .own (srcO p q (nx 40 u)), .dat R, pl (tbs pp.rd), pl (tbs pp.ts), mdS pp, pi (a : Nat), .dat (lstR ((wrdL pp a).map mdR)), .dat (mdR v), pl [.none, .none], pi (2 + pk 40 u : Nat), .no, .no, .no, .no, .no, .no, .no]) (ds_set 10 (DE.to (de_add de_int (we_callB (i := 1) (c_law_pick Z) (hr.mono (by omega)) (da2 (de_own (i := 1) rfl pin_src) de_int) ⟨p, q, u, 40, by omega, rfl, rfl, rfl⟩ 0 rfl pin_src rfl)) (congrArg pi eN)) sc_law.nd) ?_
      have hgN := gP_st hone.gp
      have hgM := gP_st hw.sp.1
      refine dss_cons (S1 := [.dat (inR ns), .own (srcO p q (nx 40 u)), .dat R, pl (tbs pp.rd), pl (tbs pp.ts), mdS pp, pi (a : Nat), .dat (lstR ((wrdL pp a).map mdR)), .dat (mdR v), pl [.none, .none], pi (2 + pk 40 u : Nat), .no, .no, .no, .no, .no, .no, .no]) (ds_ifF (DW.t (dw_orF (DT.f (dt_neD (d := .list [.none, .none]) (d' := .list [.none, .none]) hr (DE.conv (de_var (i := 9) rfl) lst_py) (DE.conv (de_lst2 de_non de_non) lst_py) (by decide +kernel) (by decide +kernel) rfl) (by decide +kernel))
        (dw_or1 (DT.f (dt_neD hr (we_call (c_shape Z) (hr.mono (by omega)) (da2 (de_wget hr (de_var (i := 5) rfl) (.inr (.inr ⟨rfl, rfl⟩))) (de_var (i := 10) rfl)) ⟨(pp, 2 + pk 40 u), ⟨hone.gp, by show 1 ≤ 2 + pk 40 u; omega, by show 2 + pk 40 u ≤ 1000; omega⟩, rfl, rfl, rfl⟩) (we_call (c_shape Z) (hr.mono (by omega)) (da2 (de_wget hr (de_var (i := 8) rfl) (.inr (.inr ⟨rfl, rfl⟩))) (de_var (i := 10) rfl)) ⟨(v, 2 + pk 40 u), ⟨hw.sp.1, by show 1 ≤ 2 + pk 40 u; omega, by show 2 + pk 40 u ≤ 1000; omega⟩, rfl, rfl, rfl⟩)
          (nh (s := shp pp.st (2 + pk 40 u)) (n := 50) (by have := shp_ht hgN (n := 2 + pk 40 u) (by omega); omega)) (nh (s := shp v.st (2 + pk 40 u)) (n := 50) (by have := shp_ht hgM (n := 2 + pk 40 u) (by omega); omega)) rfl) (by rw [sh_eqv, decide_eq_true hsh]; rfl))))) dss_nil) ?_
      exact dss_drop 8 (dss_drop 9 (dss_drop 10 dss_nil))
    unfold endS
    generalize nxI 40 s5 (wrdL pp a).length = s6
    generalize wrdL pp a = ws
    have hrd : 0 < pp.rd.length := List.length_pos_iff.mpr hone.gp.2.2
    have hk : pk pp.rd.length s6 < pp.rd.length := by
      have := pk_lt pp.rd.length s6
      unfold mxN at this
      omega
    have eg0 : atI (tbs pp.rd) 0 = some (tbD (pp.rd.getD 0 [])) := by
      match hq : pp.rd, hrd with
      | x :: l, _ => exact at_0
    have hm0 : pp.rd.getD 0 [] ∈ pp.rd := by
      match hq : pp.rd, hrd with
      | x :: l, _ => exact List.mem_cons_self
    have hg0 := hone.gp.2.1 _ hm0
    have h04 := hone.r4 _ hm0
    have h01 := gT_pos hg0
    have hm : pk (pp.rd.getD 0 []).length (nx pp.rd.length s6) < (pp.rd.getD 0 []).length := by
      have := pk_lt (pp.rd.getD 0 []).length (nx pp.rd.length s6)
      unfold mxN at this
      omega
    have erl : (((tbs pp.rd).length : Nat) : Int) = ((pp.rd.length : Nat) : Int) := by rw [hrl]
    have er0 : (((shs (pp.rd.getD 0 [])).length : Nat) : Int) = (((pp.rd.getD 0 []).length : Nat) : Int) := by rw [List.length_map]
    have ekk : atI (tbs pp.rd) ((pk pp.rd.length s6 : Nat) : Int) = some (tbD (pp.rd.getD (pk pp.rd.length s6) [])) := by
      refine atI_get ?_
      rw [List.getElem?_map, List.getD_eq_getElem?_getD, List.getElem?_eq_getElem hk]
      rfl
    have hmk : pp.rd.getD (pk pp.rd.length s6) [] ∈ pp.rd := by
      rw [List.getD_eq_getElem?_getD, List.getElem?_eq_getElem hk]
      exact List.getElem_mem hk
    have hgk := hone.gp.2.1 _ hmk
    have hk4 := hone.r4 _ hmk
    have hk1 := gT_pos hgk
    refine dss_cons (S1 := [.dat (inR ns), .own (srcO p q (nx (pp.rd.getD 0 []).length (nx pp.rd.length s6))), .dat R, pl (tbs pp.rd), pl (tbs pp.ts), mdS pp, pi (a : Nat), .dat (lstR (ws.map mdR)), .no, .no, .no, pi (pk pp.rd.length s6 : Nat), pi (pk (pp.rd.getD 0 []).length (nx pp.rd.length s6) : Nat), .no, .no, .no, .no, .no]) (ds_par 11 12 (da2 (we_callB (i := 1) (c_law_pick Z) (hr.mono (by omega)) (da2 (de_own (i := 1) rfl pin_src) (DE.to (de_len Z.n_len (de_var (i := 3) rfl)) (congrArg pi erl))) ⟨p, q, s6, pp.rd.length, by omega, rfl, rfl, rfl⟩ 0 rfl pin_src rfl) (we_callB (i := 1) (c_law_pick Z) (hr.mono (by omega)) (da2 (de_own (i := 1) rfl pin_src) (DE.to (de_lent (ds := shs (pp.rd.getD 0 [])) Z.n_len (de_ix (ds := tbs pp.rd) (de_var (i := 3) rfl) de_int eg0)) (congrArg pi er0))) ⟨p, q, nx pp.rd.length s6, (pp.rd.getD 0 []).length, by omega, rfl, rfl, rfl⟩ 0 rfl pin_src rfl)) sc_law.nd) ?_
    generalize nx (pp.rd.getD 0 []).length (nx pp.rd.length s6) = s8
    generalize pk (pp.rd.getD 0 []).length (nx pp.rd.length s6) = m at hm ⊢
    generalize pk pp.rd.length s6 = k at hk ekk hmk hgk hk4 hk1 ⊢
    generalize hT : pp.rd.getD k [] = T at ekk hmk hgk hk4 hk1 ⊢
    have hTs : (shs T).length = T.length := List.length_map _
    have hthe : ∃ (U : Tb) (s9 : Src), (if m < T.length then (shF 12 (m + 2) s8).2 else s8) = s9 ∧ (gT U ∧ U.length ≤ 4) ∧ DS (bx P w K mg base ["_law_script", "_law_source_here", "_law_lap", "_law_row", "_law_first", "_law_one", "_law_at", "_law_words", "_law_other", "_law_told_here", "_law_n", "_law_k", "_law_m", "_law_table_here", "_law_times", "_law_left", "_law_right", "_law_turn"] "law" (defScope s_law) (He.ga K "law") cdv A outer s0 H E) (lapB.getD 8 (.Pass ⟨0, 0, 0, 0⟩)) [.dat (inR ns), .own (srcO p q (s8)), .dat R, pl (tbs pp.rd), pl (tbs pp.ts), mdS pp, pi (a : Nat), .dat (lstR (ws.map mdR)), .no, .no, .no, pi (k : Nat), pi (m : Nat), .no, .no, .no, .no, .no] (.nx [.dat (inR ns), .own (srcO p q (s9)), .dat R, pl (tbs pp.rd), pl (tbs pp.ts), mdS pp, pi (a : Nat), .dat (lstR (ws.map mdR)), .no, .no, .no, pi (k : Nat), pi (m : Nat), pd (tbD U), .no, .no, .no, .no]) := by
      by_cases hc : m < T.length
      · rw [if_pos hc]
        have hsz := shF_size 12 (m + 2) s8 (by omega) (by omega) (by omega)
        have ecm : cutG (shs T) none (some ((m : Nat) : Int)) = shs (T.take m) := by rw [cut_to]; exact List.map_take.symm
        have ecd : cutG (shs T) (some (((m : Nat) : Int) + 1)) none = shs (T.drop (m + 1)) := by
          rw [show ((m : Nat) : Int) + 1 = ((m + 1 : Nat) : Int) by omega, cut_from]
          exact List.map_drop.symm
        have ecat : shs (T.take m) ++ [shD (shF 12 (m + 2) s8).1] ++ shs (T.drop (m + 1)) = shs (T.take m ++ [(shF 12 (m + 2) s8).1] ++ T.drop (m + 1)) := by
          show List.map shD _ ++ [_] ++ List.map shD _ = List.map shD _
          rw [List.map_append, List.map_append]
          rfl
        refine ⟨T.take m ++ [(shF 12 (m + 2) s8).1] ++ T.drop (m + 1), _, rfl, ⟨⟨⟨by simp, fun j u hu => ?_⟩, by simp; omega⟩, by simp; omega⟩, ?_⟩
        · by_cases hj : j = m
          · subst hj
            rw [List.append_assoc, List.getElem?_append_right (by rw [List.length_take]; omega), List.length_take, Nat.min_eq_left (by omega), Nat.sub_self] at hu
            rw [← Option.some.inj hu]
            exact hsz
          · refine hgk.1.2 j u ?_
            rw [← hu]
            by_cases hj2 : j < m
            · rw [List.append_assoc, List.getElem?_append_left (by rw [List.length_take]; omega), List.getElem?_take, if_pos hj2]
            · rw [List.getElem?_append_right (by rw [List.length_append, List.length_take, List.length_singleton]; omega), List.getElem?_drop, List.length_append, List.length_take, List.length_singleton]
              congr 1
              omega
        · exact ds_set 13 (de_ifT (DT.t (dt_lt (de_var (i := 12) rfl) (de_lent (ds := shs T) Z.n_len (de_ix (ds := tbs pp.rd) (de_var (i := 3) rfl) (de_var (i := 11) rfl) ekk))) (decide_eq_true (by rw [hTs]; omega)))
            (DE.to (de_catt (de_catt (DE.to (de_slt (ds := shs T) (de_ix (ds := tbs pp.rd) (de_var (i := 3) rfl) (de_var (i := 11) rfl) ekk) dp_no (dp_int (de_var (i := 12) rfl))) (congrArg (fun z => pd (.tuple z)) ecm)) (de_tup1 (we_callB (i := 1) (c_law_shape Z 12) (hr.mono (by omega)) (da2 (de_own (i := 1) rfl pin_src) (DE.to (de_add (de_var (i := 12) rfl) de_int) (w' := pi (m + 2 : Nat)) rfl)) ⟨p, q, s8, m + 2, ⟨by omega, by omega, by omega⟩, rfl, rfl, rfl⟩ 0 rfl pin_src rfl)) (few2 (by rw [List.length_map, List.length_take]; show _ + 1 ≤ _; omega)))
              (DE.to (de_slt (ds := shs T) (de_ix (ds := tbs pp.rd) (de_var (i := 3) rfl) (de_var (i := 11) rfl) ekk) (dp_int (de_add (de_var (i := 12) rfl) de_int)) dp_no) (congrArg (fun z => pd (.tuple z)) ecd)) (few2 (by rw [List.length_append, List.length_map, List.length_map, List.length_take, List.length_drop]; show _ + 1 + _ ≤ _; omega))) (congrArg (fun z => pd (.tuple z)) ecat))) sc_law.nd
      · rw [if_neg hc]
        refine ⟨T, s8, rfl, ⟨hgk, hk4⟩, ?_⟩
        exact ds_set 13 (de_ifF (DT.f (dt_lt (de_var (i := 12) rfl) (de_lent (ds := shs T) Z.n_len (de_ix (ds := tbs pp.rd) (de_var (i := 3) rfl) (de_var (i := 11) rfl) ekk))) (decide_eq_false (by rw [hTs]; omega))) (de_ix (ds := tbs pp.rd) (de_var (i := 3) rfl) (de_var (i := 11) rfl) ekk)) sc_law.nd
    obtain ⟨U, s9, e9, ⟨hU, hU4⟩, hds⟩ := hthe
    rw [e9]
    refine dss_cons hds ?_
    have eck : cutG (tbs pp.rd) none (some ((k : Nat) : Int)) = tbs (pp.rd.take k) := by rw [cut_to]; exact List.map_take.symm
    have eck2 : cutG (tbs pp.rd) (some (((k : Nat) : Int) + 1)) none = tbs (pp.rd.drop (k + 1)) := by
      rw [show ((k : Nat) : Int) + 1 = ((k + 1 : Nat) : Int) by omega, cut_from]
      exact List.map_drop.symm
    have ecr : tbs (pp.rd.take k) ++ [tbD U] ++ tbs (pp.rd.drop (k + 1)) = tbs (pp.rd.take k ++ [U] ++ pp.rd.drop (k + 1)) := by
      show List.map tbD _ ++ [_] ++ List.map tbD _ = List.map tbD _
      rw [List.map_append, List.map_append]
      rfl
    have hmem : ∀ t ∈ pp.rd.take k ++ [U] ++ pp.rd.drop (k + 1), t = U ∨ t ∈ pp.rd := fun t ht => by
      rcases List.mem_append.mp ht with ht | ht
      · rcases List.mem_append.mp ht with ht | ht
        · exact .inr (List.mem_of_mem_take ht)
        · exact .inl (List.mem_singleton.mp ht)
      · exact .inr (List.mem_of_mem_drop ht)
    have hqq : gQ ⟨pp.ts, pp.rd.take k ++ [U] ++ pp.rd.drop (k + 1)⟩ := ⟨⟨hone.gp.1, fun t ht => (hmem t ht).elim (fun z => z ▸ hU) (fun z => hone.gp.2.1 t z), by simp⟩, hone.t1, hone.t8, by simp; omega, fun t ht => (hmem t ht).elim (fun z => z ▸ hU4) (fun z => hone.r4 t z)⟩
    have hrq : (Pl.mk pp.ts (pp.rd.take k ++ [U] ++ pp.rd.drop (k + 1))).rd = pp.rd.take k ++ [U] ++ pp.rd.drop (k + 1) := rfl
    have htq : (Pl.mk pp.ts (pp.rd.take k ++ [U] ++ pp.rd.drop (k + 1))).ts = pp.ts := rfl
    generalize hqe : Pl.mk pp.ts (pp.rd.take k ++ [U] ++ pp.rd.drop (k + 1)) = qq at hqq hrq htq
    refine dss_cons (S1 := [.dat (inR ns), .own (srcO p q (s9)), .dat R, pl (tbs pp.rd), pl (tbs pp.ts), mdS pp, pi (a : Nat), .dat (lstR (ws.map mdR)), .dat (mdR qq), .no, .no, pi (k : Nat), pi (m : Nat), pd (tbD U), .no, .no, .no, .no]) (ds_set 8 (we_call (c_law_made Z) (hr.mono (by omega)) (da2 (DE.to (de_var (i := 4) rfl) (w' := pl (tbs qq.ts)) (by rw [htq])) (DE.to (de_tupleL (ds := tbs (pp.rd.take k ++ [U] ++ pp.rd.drop (k + 1))) Z.n_tuple (DE.to (de_cat (de_cat (DE.to (de_sl (de_var (i := 3) rfl) dp_no (dp_int (de_var (i := 11) rfl))) (congrArg pl eck)) (de_lst1 (de_var (i := 13) rfl)) (few2 (by rw [List.length_map, List.length_take]; show _ + 1 ≤ _; omega))) (DE.to (de_sl (de_var (i := 3) rfl) (dp_int (de_add (de_var (i := 11) rfl) de_int)) dp_no) (congrArg pl eck2)) (few2 (by rw [List.length_append, List.length_map, List.length_map, List.length_take, List.length_drop]; show _ + 1 + _ ≤ _; omega))) (congrArg pl ecr))) (w' := pd (tsD qq.rd)) (by rw [hrq]; rfl))) ⟨qq, hqq.gp, rfl, rfl, rfl⟩) sc_law.nd) ?_
    have hlp := M.lq pp hone
    have hlq := M.lq qq hqq
    have hgo := gP_plain hone.gp
    have hgq := gP_plain hqq.gp
    have nn : ∀ {a b : List Tb}, gL a → gL b → SeqAt.shaped (.tuple [tsD a, tsD b]) = true := fun ha hb => (nice_tuple (n := 14) (fun d hd => by
      rcases List.mem_cons.mp hd with rfl | hd
      · exact gL_nice ha
      · rw [List.mem_singleton.mp hd]
        exact gL_nice hb)).shaped
    have epl : PyData.eqv (.tuple [tsD pp.plain.ts, tsD pp.plain.rd]) (.tuple [tsD qq.plain.ts, tsD qq.plain.rd]) = decide (pp.plain = qq.plain) := by
      rw [pl_eqv]
      refine decide_eq_decide.mpr ?_
      generalize pp.plain = x
      generalize qq.plain = y
      obtain ⟨x1, x2⟩ := x
      obtain ⟨y1, y2⟩ := y
      simp only [Pl.mk.injEq]
    refine dss_cons (S1 := [.dat (inR ns), .own (srcO p q (s9)), .dat R, pl (tbs pp.rd), pl (tbs pp.ts), mdS pp, pi (a : Nat), .dat (lstR (ws.map mdR)), .dat (mdR qq), .no, .no, pi (k : Nat), pi (m : Nat), pd (tbD U), .no, .no, .no, .no]) (ds_ifF (DT.to (dt_neB (we_call (c_are_alike Z) (hr.mono (by omega)) (da2 (de_wget hr (de_var (i := 5) rfl) (.inr (.inr ⟨rfl, rfl⟩))) (de_wget hr (de_var (i := 8) rfl) (.inr (.inr ⟨rfl, rfl⟩)))) ⟨(pp, qq), ⟨hsp, hqq.sp⟩, rfl, rfl, rfl⟩) (de_eqD hr (we_call (c_law_plain Z) (hr.mono (by omega)) (da1 (de_var (i := 5) rfl)) ⟨(pp, some (plRp pp), pp.plain), ⟨hsp, M.lq pp hone⟩, rfl, rfl, rfl⟩) (we_call (c_law_plain Z) (hr.mono (by omega)) (da1 (de_var (i := 8) rfl)) ⟨(qq, some (plRp qq), qq.plain), ⟨hqq.sp, M.lq qq hqq⟩, rfl, rfl, rfl⟩) (nn hgo.1 hgo.2.1) (nn hgq.1 hgq.2.1) epl)) (by rw [decide_eq_true rfl]; rfl)) dss_nil) ?_
    have fin : DSs (bx P w K mg base ["_law_script", "_law_source_here", "_law_lap", "_law_row", "_law_first", "_law_one", "_law_at", "_law_words", "_law_other", "_law_told_here", "_law_n", "_law_k", "_law_m", "_law_table_here", "_law_times", "_law_left", "_law_right", "_law_turn"] "law" (defScope s_law) (He.ga K "law") cdv A outer s0 H E) [] [.dat (inR ns), .own (srcO p q (s9)), .dat R, pl (tbs pp.rd), pl (tbs pp.ts), mdS pp, pi (a : Nat), .dat (lstR (ws.map mdR)), .dat (mdR qq), .no, .no, pi (k : Nat), pi (m : Nat), pd (tbD U), .no, .no, .no, .no] (.nx [.dat (inR ns), .own (srcO p q (s9)), .dat R, .no, .no, .no, .no, .no, .no, .no, .no, .no, .no, .no, .no, .no, .no, .no]) := dss_drop 3 (dss_drop 4 (dss_drop 5 (dss_drop 6 (dss_drop 7 (dss_drop 8 (dss_drop 11 (dss_drop 12 (dss_drop 13 dss_nil))))))))
    have fin2 : ∀ x y z, DSs (bx P w K mg base ["_law_script", "_law_source_here", "_law_lap", "_law_row", "_law_first", "_law_one", "_law_at", "_law_words", "_law_other", "_law_told_here", "_law_n", "_law_k", "_law_m", "_law_table_here", "_law_times", "_law_left", "_law_right", "_law_turn"] "law" (defScope s_law) (He.ga K "law") cdv A outer s0 H E) [] [.dat (inR ns), .own (srcO p q (s9)), .dat R, pl (tbs pp.rd), pl (tbs pp.ts), mdS pp, pi (a : Nat), .dat (lstR (ws.map mdR)), .dat (mdR qq), .no, .no, pi (k : Nat), pi (m : Nat), pd (tbD U), x, y, z, .no] (.nx [.dat (inR ns), .own (srcO p q (s9)), .dat R, .no, .no, .no, .no, .no, .no, .no, .no, .no, .no, .no, .no, .no, .no, .no]) := fun x y z => dss_drop 3 (dss_drop 4 (dss_drop 5 (dss_drop 6 (dss_drop 7 (dss_drop 8 (dss_drop 11 (dss_drop 12 (dss_drop 13 (dss_drop 14 (dss_drop 15 (dss_drop 16 dss_nil)))))))))))
    by_cases hne : pp.plain = qq.plain
    · exact dss_cons (ds_ifF (DT.f (dt_neD hr (we_call (c_law_plain Z) (hr.mono (by omega)) (da1 (de_var (i := 5) rfl)) ⟨(pp, some (plRp pp), pp.plain), ⟨hsp, M.lq pp hone⟩, rfl, rfl, rfl⟩) (we_call (c_law_plain Z) (hr.mono (by omega)) (da1 (de_var (i := 8) rfl)) ⟨(qq, some (plRp qq), qq.plain), ⟨hqq.sp, M.lq qq hqq⟩, rfl, rfl, rfl⟩) (nn hgo.1 hgo.2.1) (nn hgq.1 hgq.2.1) rfl) (by rw [epl, decide_eq_true hne]; rfl)) dss_nil) fin
    · obtain ⟨n, mm, hrp, hun, hL, hpr⟩ := M.dif pp qq hone hqq hne
      refine dss_cons (S1 := [.dat (inR ns), .own (srcO p q (s9)), .dat R, pl (tbs pp.rd), pl (tbs pp.ts), mdS pp, pi (a : Nat), .dat (lstR (ws.map mdR)), .dat (mdR qq), .no, .no, pi (k : Nat), pi (m : Nat), pd (tbD U), pi (prodF pp.plain.plain n : Nat), .dat (wlRp (lbh pp.plain n)), .dat (wlRp (lbh qq.plain n)), .no]) (ds_ifT (DT.t (dt_neD hr (we_call (c_law_plain Z) (hr.mono (by omega)) (da1 (de_var (i := 5) rfl)) ⟨(pp, some (plRp pp), pp.plain), ⟨hsp, M.lq pp hone⟩, rfl, rfl, rfl⟩) (we_call (c_law_plain Z) (hr.mono (by omega)) (da1 (de_var (i := 8) rfl)) ⟨(qq, some (plRp qq), qq.plain), ⟨hqq.sp, M.lq qq hqq⟩, rfl, rfl, rfl⟩) (nn hgo.1 hgo.2.1) (nn hgq.1 hgq.2.1) rfl) (by rw [epl, decide_eq_false hne]; rfl)) ?_) (fin2 _ _ _)
      have hlo := hun.lo
      have hhi := hun.hi
      refine dss_cons (S1 := [.dat (inR ns), .own (srcO p q (s9)), .dat R, pl (tbs pp.rd), pl (tbs pp.ts), mdS pp, pi (a : Nat), .dat (lstR (ws.map mdR)), .dat (mdR qq), .no, .no, pi (k : Nat), pi (m : Nat), pd (tbD U), pi (prodF pp.plain.plain n : Nat), .dat (wlRp (lbh pp.plain n)), .dat (wlRp (lbh qq.plain n)), .no]) (ds_asg (DE.to (we_call (c_law_rests Z) (hr.mono (by omega)) (da2 (de_var (i := 5) rfl) (de_var (i := 8) rfl)) ⟨((pp, some (plRp pp)), (qq, some (plRp qq)), pp.plain, qq.plain), ⟨hsp, hqq.sp, hlp, hlq, ⟨hgo, (show pp.plain.rd.length ≤ 10000 by have := hrp.pp.2.2; omega)⟩, ⟨hgq, (show qq.plain.rd.length ≤ 10000 by have := hrp.qq.2.2; omega)⟩⟩, rfl, rfl, rfl⟩) (w' := .dat (tupR [py (.int (prodF pp.plain.plain n : Nat)), wlRp (lbh pp.plain n), wlRp (lbh qq.plain n)])) (by
        show Slot.dat (tupR [py (.int (prodG ((plist pp 60).take (comN (plist pp 60) (plist qq 60))) ((plist pp 60).take (comN (plist pp 60) (plist qq 60))).length : Nat)), wlRp (lbh pp.plain ((plist pp 60).take (comN (plist pp 60) (plist qq 60))).length), wlRp (lbh qq.plain ((plist pp 60).take (comN (plist pp 60) (plist qq 60))).length)]) = _
        rw [hL, hpr])) (dg_tup (dgs_cons (dg_name 14 sc_law.nd) (dgs_cons (dg_name 15 sc_law.nd) (dgs_cons (dg_name 16 sc_law.nd) dgs_nil))) isT_r)) ?_
      refine dss_one (ds_ifF (DT.f (dt_neI (i := ((prodF pp.plain.plain n * (mm - 1) + 1 : Nat) : Int)) (we_call (c_least_parting Z) (hr.mono (by omega)) (da2 (de_wget hr (de_var (i := 5) rfl) (.inr (.inr ⟨rfl, rfl⟩))) (de_wget hr (de_var (i := 8) rfl) (.inr (.inr ⟨rfl, rfl⟩)))) ⟨(pp, qq, .int ((prodF pp.plain.plain n * (mm - 1) + 1 : Nat) : Int)), ⟨⟨hsp, hqq.sp⟩, .inr ⟨hne, n, mm, hrp, hun, rfl⟩⟩, rfl, rfl, rfl⟩)
        (DE.to (de_add (de_mul (de_var (i := 14) rfl) (de_sub (we_call (c_law_unlike_at Z) (hr.mono (by omega)) (da2 (de_var (i := 15) rfl) (de_var (i := 16) rfl)) ⟨(lbh pp.plain n, lbh qq.plain n, mm), ⟨gP_lbh hgo n, gP_lbh hgq n, hun⟩, rfl, rfl, rfl⟩) de_int) (.inr (by show -(2 ^ 64) < ((mm : Nat) : Int) - 1 ∧ ((mm : Nat) : Int) - 1 < 2 ^ 64; omega))) de_int) (w' := pi ((prodF pp.plain.plain n * (mm - 1) + 1 : Nat) : Int)) (by
          show pi (((prodF pp.plain.plain n : Nat) : Int) * (((mm : Nat) : Int) - 1) + 1) = _
          rw [show ((mm : Nat) : Int) - 1 = ((mm - 1 : Nat) : Int) by omega, ← Int.natCast_mul]
          rfl))) (by rw [decide_eq_true rfl]; rfl)) dss_nil)
    
  refine dss_cons (S1 := [.dat (inR ns), .own (srcO p q (itL (src0 ns) 4)), .no, .no, .no, .no, .no, .no, .no, .no, .no, .no, .no, .no, .no, .no, .no, .no]) (ds_forS (fun i => [.dat (inR ns), .own (srcO p q (itL (src0 ns) i)), .no, .no, .no, .no, .no, .no, .no, .no, .no, .no, .no, .no, .no, .no, .no, .no]) (di_range1 Z.n_range de_int (by decide)) (fun i R hR => ⟨_, dg_name 2 sc_law.nd, .inl (dss_forget 2 (S' := [.dat (inR ns), .own (srcO p q (lapS (itL (src0 ns) i))), .dat R, .no, .no, .no, .no, .no, .no, .no, .no, .no, .no, .no, .no, .no, .no, .no]) (lap _ R))⟩) rfl) (dss_one (ds_ret 0 de_bl))
end
end Lh
end
section
set_option Elab.async false
set_option linter.all false
set_option maxRecDepth 100000
set_option maxHeartbeats 0
namespace Lh
open PySem PySem.Spec PyProof.Rows L2
theorem rels_of_ints {K : PySem.W.Frag} {H : Hp} : ∀ ns : List Int, Rels K H (ns.map V.int) (ns.map fun n => py (.int n))
  | [] => trivial
  | n :: ns => ⟨.int n, rels_of_ints ns⟩
/-- what the law's function is asked for -/
theorem facts (M : MathOK) {P : Program} {w : World} {K : PySem.W.Frag} {h : Heap} {mg : Str → Option Value} {f : Addr} (X : K.In h) (G : h.Ns mainGlobals mg) (hfa : mg ("law" : Str) = some (.ref f)) (c : He.SaysD fas fns K) (m : ex K = true) :
    ∃ fd : FuncData, (∀ (s : Shared) (v : Value), BindsTo s fd ⟨[v], []⟩ [("_law_script", v)]) ∧ ∀ base : Heap, K.In base → base.Ns mainGlobals mg → FnOk P w K mg base CX0 78 f fd ["_law_script"] (spD K (PreD (fun ns : List Int => ns.length ≤ 1000) (fun ns => [.dat (inR ns)]) (fun _ => pb true))) := by
  have Z : Pg K mg := ⟨c, m, h, X, G⟩
  obtain ⟨fd, F, hm⟩ := Z.f_law
  have e := hfa.symm.trans hm
  cases e
  have b := FunD.bindsA (ps := ["_law_script"]) F fun _ _ _ _ _ _ us hl => match us, hl with | [_], _ => rfl
  exact ⟨fd, fun s v => b s [v] rfl, fun base _ _ => c_law Z M F⟩
theorem sp_ok {K : PySem.W.Frag} {H : Hp} {a : Addr} {ns : List Int} (hl : ns.length ≤ 63) (ho : Only H) (hS : SqL K H a (ns.map V.int)) : spD K (PreD (fun ns : List Int => ns.length ≤ 1000) (fun ns => [.dat (inR ns)]) (fun _ => pb true)) [.ref a] H (fun v _ => v = .bl true) fun _ _ _ => False := by
  refine ⟨[.dat (inR ns)], _, [], [], H, ⟨ns, Nat.le_trans hl (by decide), rfl, rfl, rfl⟩, rfl, ?_, fun w v σ' F2 H2 kw _ e2 s2 => ?_⟩
  · have s0 : Sat K H H [] := ⟨Exr H, fun _ => False, fun _ q => q, fun _ q => q.elim⟩
    exact s0.dat ⟨a, _, rfl, hS, rels_of_ints ns⟩
  · subst kw
    have hd := s2.hd
    cases hd
    rfl
end Lh
open PySem PySem.W PySem.Calls PyProof.Rows
theorem Lh.holds (M : Lh.MathOK) : PySem.Challenge.rw_lumpplans_k38_whole_rounds_told_otherwis.Holds := by
  w_on; o_law
  refine HandSHeadRun.head_any (r := Lh.R) (q := view (Lh.R).prog [81]) (H := Lh.hk) (ob := Lh.ob) (M := 4000) (loose := Lh.nms) (d := HandSHeadRun.topDef (Lh.R).prog 81) (kwd := []) Lh.ob_eq
    (by kernel_rfl) (fun s => by kernel_rfl) Lh.run (by kernel_rfl) (by kernel_rfl) (by kernel_rfl) (by rfl) (by first | assumption | decide +kernel) (by decide +kernel) ⟨rfl, rfl, rfl, rfl, rfl, by decide +kernel⟩ ?hw ?hc
  case hw => w_witness2
  case hc =>
    refine L2.walk_ofE (l := PySem.Challenge.rw_lumpplans_k38_whole_rounds_told_otherwis) (n := 63) (k := 78) (x := "_law_script") (CX := L2.CX0) rfl (by decide) (by kernel_rfl) ⟨rfl, by decide, by decide⟩ ?F (fun _ _ _ _ z => z)
    intro w mg fa h Y G hmg0
    obtain ⟨K, KX, c, m⟩ := Y
    have atLaw : mg ("law" : PySem.Str) = some (.ref fa) := by
      have e : (HandSHeadRun.topDef (Lh.R).prog 81).name = ("law" : PySem.Str) := by kernel_rfl
      rw [← e]
      exact hmg0
    obtain ⟨fd, hb, hF⟩ := Lh.facts (P := (PySem.Challenge.rw_lumpplans_k38_whole_rounds_told_otherwis).prog) (w := w) M KX G atLaw c m
    exact ⟨K, fd, _, KX, hb, fun H a ns hl ho hS => Lh.sp_ok hl ho hS, hF⟩
end
section
set_option Elab.async false
set_option linter.all false
/-! rows put into rows; gluing -/
namespace Lh
/-- pieces of ws put into the leaves of vs, one after another -/
def sub : List Sh → List Sh → List Sh
  | [], _ => []
  | v :: vs, ws => fill v ws :: sub vs (ws.drop v.size)
theorem sub_len : ∀ (vs ws : List Sh), (sub vs ws).length = vs.length
  | [], _ => rfl
  | v :: vs, ws => by
    show (sub vs _).length + 1 = vs.length + 1
    rw [sub_len]
theorem sub_drop : ∀ (vs ws : List Sh) (k : Nat), (sub vs ws).drop k = sub (vs.drop k) (ws.drop (sizeL (vs.take k)))
  | vs, ws, 0 => by simp [sizeL]
  | [], ws, k + 1 => by simp [sub]
  | v :: vs, ws, k + 1 => by
    show (sub vs (ws.drop v.size)).drop k = _
    rw [sub_drop vs _ k, List.drop_drop]
    have e : sizeL ((v :: vs).take (k + 1)) = v.size + sizeL (vs.take k) := by
      unfold sizeL
      rw [List.take_succ_cons, List.map_cons, List.sum_cons]
    rw [e, List.drop_succ_cons]
theorem sub_take : ∀ (vs ws : List Sh) (k : Nat), (sub vs ws).take k = sub (vs.take k) ws
  | vs, ws, 0 => by simp [sub]
  | [], ws, k + 1 => by simp [sub]
  | v :: vs, ws, k + 1 => by
    show fill v ws :: (sub vs (ws.drop v.size)).take k = fill v ws :: sub (vs.take k) (ws.drop v.size)
    rw [sub_take vs _ k]
theorem sub_get : ∀ (vs ws : List Sh) (k : Nat), (sub vs ws)[k]? = (vs[k]?).map fun v => fill v (ws.drop (sizeL (vs.take k)))
  | [], ws, k => by simp [sub]
  | v :: vs, ws, 0 => by simp [sub, sizeL]
  | v :: vs, ws, k + 1 => by
    show (sub vs (ws.drop v.size))[k]? = _
    rw [sub_get vs _ k, List.getElem?_cons_succ]
    have e : sizeL ((v :: vs).take (k + 1)) = v.size + sizeL (vs.take k) := by
      unfold sizeL
      rw [List.take_succ_cons, List.map_cons, List.sum_cons]
    rw [e, List.drop_drop]
theorem sub_o : ∀ (n : Nat) (ws : List Sh), ws.length = n → sub (List.replicate n .o) ws = ws
  | 0, ws, h => by rw [List.length_eq_zero_iff.mp h]; rfl
  | n + 1, w :: ws, h => by
    show fill .o (w :: ws) :: sub (List.replicate n .o) ((w :: ws).drop 1) = _
    rw [List.drop_one]
    show w :: sub (List.replicate n .o) ws = _
    rw [sub_o n ws (by simpa using h)]
  | n + 1, [], h => by simp at h
theorem fill_fill : ∀ (u : Sh) (vs ws : List Sh), u.size ≤ vs.length → fill (fill u vs) ws = fill u (sub vs ws)
  | .o, vs, ws, h => by
    match vs, h with
    | v :: vs, _ => rfl
  | .n a b, vs, ws, h => by
    simp only [Sh.size] at h
    rw [fill_n, fill_n, fill_n, fill_fill a vs ws (by omega), fill_fill b (vs.drop a.size) _ (by rw [List.length_drop]; omega), sub_drop, fill_size a vs (by omega)]
/-- an entry is chosen and filled -/
def chk (t : Tb) (row : List Sh) : Sh := fill (ent t row.length) row
theorem press_get {t : Tb} {row : List Sh} {k : Nat} (h : k < cl row.length (t.length + 1)) : (press t row)[k]? = some (chk t ((row.drop (k * (t.length + 1))).take (t.length + 1))) := by
  unfold press chk
  rw [List.getElem?_map, List.getElem?_range h, List.length_take, List.length_drop]
  rfl
theorem chk_size {t : Tb} (hg : gT t) {row : List Sh} (h1 : 1 ≤ row.length) (h2 : row.length ≤ t.length + 1) : (chk t row).size = sizeL row := by
  unfold chk
  have he := gT_ent hg h1 h2
  rw [fill_size _ _ (by omega), he, List.take_length]
theorem press_take {t : Tb} (row : List Sh) (j : Nat) : (press t row).take j = press t (row.take (j * (t.length + 1))) := by
  refine List.ext_getElem? fun k => ?_
  have hb : 1 ≤ t.length + 1 := by omega
  by_cases hk : k < cl (row.take (j * (t.length + 1))).length (t.length + 1)
  · have hk2 := cl_lt hb hk
    rw [List.length_take] at hk2
    have hkj : k < j := by
      rcases Nat.lt_or_ge k j with z | z
      · exact z
      · have : j * (t.length + 1) ≤ k * (t.length + 1) := Nat.mul_le_mul_right _ z
        omega
    have hk3 : k < cl row.length (t.length + 1) := by
      rcases Nat.lt_or_ge k (cl row.length (t.length + 1)) with z | z
      · exact z
      · have := cl_ge hb z
        omega
    rw [List.getElem?_take, if_pos hkj, press_get hk3, press_get hk]
    congr 2
    have h5 : (k + 1) * (t.length + 1) ≤ j * (t.length + 1) := Nat.mul_le_mul_right _ hkj
    rw [Nat.add_mul, Nat.one_mul] at h5
    rw [List.drop_take, List.take_take, Nat.min_eq_left (by omega)]
  · have h0 : (press t (row.take (j * (t.length + 1))))[k]? = none := List.getElem?_eq_none (by rw [press_len]; omega)
    rw [h0, List.getElem?_take]
    by_cases hkj : k < j
    · rw [if_pos hkj]
      refine List.getElem?_eq_none ?_
      rw [press_len]
      rcases Nat.lt_or_ge k (cl row.length (t.length + 1)) with z | z
      · exfalso
        have h2 := cl_lt hb z
        have h3 := cl_ge hb (Nat.le_of_not_lt hk)
        rw [List.length_take] at h3
        have h5 : (k + 1) * (t.length + 1) ≤ j * (t.length + 1) := Nat.mul_le_mul_right _ hkj
        rw [Nat.add_mul, Nat.one_mul] at h5
        omega
      · exact z
    · rw [if_neg hkj]
theorem press_drop {t : Tb} (row : List Sh) (j : Nat) : (press t row).drop j = press t (row.drop (j * (t.length + 1))) := by
  refine List.ext_getElem? fun k => ?_
  have hb : 1 ≤ t.length + 1 := by omega
  have hm : (j + k) * (t.length + 1) = j * (t.length + 1) + k * (t.length + 1) := Nat.add_mul _ _ _
  rw [List.getElem?_drop]
  by_cases hk : j + k < cl row.length (t.length + 1)
  · have h1 := cl_lt hb hk
    have hk2 : k < cl (row.drop (j * (t.length + 1))).length (t.length + 1) := by
      rcases Nat.lt_or_ge k (cl (row.drop (j * (t.length + 1))).length (t.length + 1)) with z | z
      · exact z
      · have := cl_ge hb z
        rw [List.length_drop] at this
        omega
    rw [press_get hk, press_get hk2, List.drop_drop, hm]
  · rw [List.getElem?_eq_none (by rw [press_len]; omega), List.getElem?_eq_none]
    rw [press_len]
    rcases Nat.lt_or_ge k (cl (row.drop (j * (t.length + 1))).length (t.length + 1)) with z | z
    · exfalso
      have h2 := cl_lt hb z
      have h3 := cl_ge hb (Nat.le_of_not_lt hk)
      rw [List.length_drop] at h2
      omega
    · exact z
/-- press is natural -/
theorem press_sub {t : Tb} (hg : gT t) (vs ws : List Sh) : press t (sub vs ws) = sub (press t vs) ws := by
  refine List.ext_getElem? fun k => ?_
  have hb : 1 ≤ t.length + 1 := by omega
  rw [sub_get]
  by_cases hk : k < cl vs.length (t.length + 1)
  · have hk1 : k < cl (sub vs ws).length (t.length + 1) := by rw [sub_len]; exact hk
    have h1 := cl_lt hb hk
    rw [press_get hk1, press_get hk, press_take, press_size hg, sub_drop, sub_take]
    show some _ = some _
    congr 1
    unfold chk
    have hl : ((vs.drop (k * (t.length + 1))).take (t.length + 1)).length = min (t.length + 1) (vs.length - k * (t.length + 1)) := by rw [List.length_take, List.length_drop]
    rw [sub_len]
    exact (fill_fill _ _ _ (by rw [gT_ent hg (by omega) (by omega)]; exact Nat.le_refl _)).symm
  · rw [List.getElem?_eq_none (by rw [press_len, sub_len]; omega), List.getElem?_eq_none (by rw [press_len]; omega)]
    rfl
theorem press_nat {t : Tb} (hg : gT t) (row : List Sh) : press t row = sub (press t (List.replicate row.length .o)) row := by
  rw [← press_sub hg, sub_o _ _ rfl]
theorem ent_glue {s t : Tb} (hs : gT s) {m : Nat} (h1 : 1 ≤ m) (h2 : m ≤ (s.length + 1) * (t.length + 1)) : ent (lglue s t) m = chk t (press s (List.replicate m .o)) := by
  by_cases hm : m = 1
  · subst hm
    have e : press s (List.replicate 1 .o) = [.o] := press_one (gT_pos hs) .o
    rw [e]
    rfl
  · unfold ent
    rw [if_neg hm, List.getD_eq_getElem?_getD, glue_get (by omega), show m - 2 + 2 = m by omega]
    rfl
theorem glue_n (s t : Tb) : (lglue s t).length + 1 = (s.length + 1) * (t.length + 1) := by
  rw [glue_len]
  have : 1 * 1 ≤ (s.length + 1) * (t.length + 1) := Nat.mul_le_mul (by omega) (by omega)
  omega
theorem cl_cl {n b c : Nat} (hb : 1 ≤ b) (hc : 1 ≤ c) : cl (cl n b) c = cl n (b * c) := by
  rcases Nat.eq_zero_or_pos n with h | h
  · subst h
    have e : ∀ b, 1 ≤ b → cl 0 b = 0 := fun b hb => by unfold cl; rw [Nat.div_eq_of_lt (by omega)]
    have : 1 * 1 ≤ b * c := Nat.mul_le_mul hb hc
    rw [e b hb, e c hc, e (b * c) (by omega)]
  · have hq := cl_pos hb h
    have hr := cl_pos hc hq
    have hbc : 1 ≤ b * c := Nat.mul_le_mul hb hc
    have h1 := cl_lt (m := cl n b) hc (k := cl (cl n b) c - 1) (by omega)
    have h2 := cl_ge (m := cl n b) hc (k := cl (cl n b) c) (Nat.le_refl _)
    generalize cl (cl n b) c = r at h1 h2 hr ⊢
    symm
    refine cl_eq hbc ?_ ?_ hr
    · have := cl_lt hb (m := n) (k := (r - 1) * c) h1
      rw [Nat.mul_comm b c, ← Nat.mul_assoc]
      exact this
    · have := cl_ge hb h2
      rw [Nat.mul_comm b c, ← Nat.mul_assoc]
      exact this
theorem chk_glue {s t : Tb} (hs : gT s) (ht : gT t) {row : List Sh} (h1 : 1 ≤ row.length) (h2 : row.length ≤ (s.length + 1) * (t.length + 1)) : chk (lglue s t) row = chk t (press s row) := by
  obtain ⟨g1, g2⟩ := glue_row (t := t) hs h1 h2
  have e : (press s row).length = (press s (List.replicate row.length .o)).length := by rw [press_len, press_len, List.length_replicate]
  show fill (ent (lglue s t) row.length) row = fill (ent t (press s row).length) (press s row)
  rw [ent_glue hs h1 h2]
  show fill (fill (ent t _) _) row = _
  rw [fill_fill _ _ _ (by rw [gT_ent ht g1 g2]; exact Nat.le_refl _), ← press_nat hs, ← e]
theorem glue_press {s t : Tb} (hs : gT s) (ht : gT t) (row : List Sh) : press (lglue s t) row = press t (press s row) := by
  refine List.ext_getElem? fun k => ?_
  have hb : 1 ≤ s.length + 1 := by omega
  have hc : 1 ≤ t.length + 1 := by omega
  have hB : 1 ≤ (s.length + 1) * (t.length + 1) := Nat.mul_le_mul hb hc
  have hn := glue_n s t
  have hcl : cl (press s row).length (t.length + 1) = cl row.length ((lglue s t).length + 1) := by rw [press_len, cl_cl hb hc, hn]
  by_cases hk : k < cl row.length ((lglue s t).length + 1)
  · have h1 := cl_lt (by omega) hk
    rw [press_get hk, press_get (by rw [hcl]; exact hk), hn, press_drop, press_take]
    rw [hn] at h1
    congr 1
    have e1 : k * (t.length + 1) * (s.length + 1) = k * ((s.length + 1) * (t.length + 1)) := by rw [Nat.mul_assoc, Nat.mul_comm (t.length + 1)]
    have e2 : (t.length + 1) * (s.length + 1) = (s.length + 1) * (t.length + 1) := Nat.mul_comm _ _
    rw [e1, e2]
    refine chk_glue hs ht ?_ ?_
    · rw [List.length_take, List.length_drop]
      omega
    · rw [List.length_take]
      exact Nat.min_le_left _ _
  · rw [List.getElem?_eq_none (by rw [press_len]; omega), List.getElem?_eq_none (by rw [press_len, hcl]; omega)]
end Lh
end
section
set_option Elab.async false
set_option linter.all false
/-! stages of the words, their shapes -/
namespace Lh
theorem st_lt {f r : List Tb} {i : Nat} (h : i < f.length) : (Pl.mk f r).st i = f[i] := by
  unfold Pl.st
  rw [if_pos h, List.getD_eq_getElem?_getD, List.getElem?_eq_getElem h]
  rfl
theorem st_ge {f r : List Tb} {i : Nat} (h : f.length ≤ i) : (Pl.mk f r).st i = r.getD ((i - f.length) % r.length) [] := by
  unfold Pl.st
  rw [if_neg (Nat.not_lt.mpr h)]
theorem st_nil {r : List Tb} (i : Nat) : (Pl.mk [] r).st i = r.getD (i % r.length) [] := st_ge (f := []) (Nat.zero_le _)
theorem st_app (f g r : List Tb) (i : Nat) (h : f.length ≤ i) : (Pl.mk (f ++ g) r).st i = (Pl.mk g r).st (i - f.length) := by
  by_cases h2 : i < f.length + g.length
  · rw [st_lt (by rw [List.length_append]; exact h2), st_lt (by omega), List.getElem_append_right h]
  · rw [st_ge (by rw [List.length_append]; omega), st_ge (by omega), List.length_append, Nat.sub_sub]
theorem st_app0 (f g r : List Tb) (i : Nat) (h : i < f.length) : (Pl.mk (f ++ g) r).st i = f[i] := by
  rw [st_lt (by rw [List.length_append]; omega), List.getElem_append_left h]
theorem st_congr {f g r g' r' : List Tb} (h : ∀ i, (Pl.mk g r).st i = (Pl.mk g' r').st i) (i : Nat) : (Pl.mk (f ++ g) r).st i = (Pl.mk (f ++ g') r').st i := by
  by_cases h2 : i < f.length
  · rw [st_app0 f g r i h2, st_app0 f g' r' i h2]
  · rw [st_app f g r i (by omega), st_app f g' r' i (by omega), h]
theorem getD_app0 (a b : List Tb) {i : Nat} (h : i < a.length) : (a ++ b).getD i [] = a.getD i [] := by
  rw [List.getD_eq_getElem?_getD, List.getD_eq_getElem?_getD, List.getElem?_append_left h]
theorem getD_app1 (a b : List Tb) {i : Nat} (h : a.length ≤ i) : (a ++ b).getD i [] = b.getD (i - a.length) [] := by
  rw [List.getD_eq_getElem?_getD, List.getD_eq_getElem?_getD, List.getElem?_append_right h]
theorem st_rot (A B : List Tb) (hn : A ++ B ≠ []) (i : Nat) : (Pl.mk A (B ++ A)).st i = (Pl.mk [] (A ++ B)).st i := by
  have hl : 0 < (A ++ B).length := List.length_pos_iff.mpr hn
  rw [List.length_append] at hl
  rw [st_nil, List.length_append]
  by_cases h : i < A.length
  · rw [st_lt h, Nat.mod_eq_of_lt (by omega), getD_app0 A B h, List.getD_eq_getElem?_getD, List.getElem?_eq_getElem h]
    rfl
  · rw [st_ge (by omega), List.length_append]
    have e : i % (A.length + B.length) = ((i - A.length) % (B.length + A.length) + A.length) % (A.length + B.length) := by
      rw [Nat.add_comm B.length, Nat.mod_add_mod, Nat.sub_add_cancel (by omega)]
    rw [e]
    have hk := Nat.mod_lt (i - A.length) (show 0 < B.length + A.length by omega)
    generalize (i - A.length) % (B.length + A.length) = k at hk ⊢
    by_cases h2 : k < B.length
    · rw [Nat.mod_eq_of_lt (by omega), getD_app0 B A h2, getD_app1 A B (by omega), Nat.add_sub_cancel]
    · have e2 : (k + A.length) % (A.length + B.length) = k - B.length := by
        rw [show k + A.length = (k - B.length) + (A.length + B.length) by omega, Nat.add_mod_right, Nat.mod_eq_of_lt (by omega)]
      rw [e2, getD_app1 B A (by omega), getD_app0 A B (by omega)]
theorem st_dbl (r : List Tb) (hn : r ≠ []) (i : Nat) : (Pl.mk [] (r ++ r)).st i = (Pl.mk [] r).st i := by
  have hl : 0 < r.length := List.length_pos_iff.mpr hn
  rw [st_nil, st_nil, List.length_append]
  have e : i % r.length = (i % (r.length + r.length)) % r.length := (Nat.mod_mod_of_dvd i ⟨2, by omega⟩).symm
  have hk := Nat.mod_lt i (show 0 < r.length + r.length by omega)
  rw [e]
  generalize i % (r.length + r.length) = k at hk ⊢
  by_cases h : k < r.length
  · rw [getD_app0 r r h, Nat.mod_eq_of_lt h]
  · have e2 : k % r.length = k - r.length := by
      conv => lhs; rw [show k = (k - r.length) + r.length by omega]
      rw [Nat.add_mod_right, Nat.mod_eq_of_lt (by omega)]
    rw [getD_app1 r r (by omega), e2]
/-- the words' stages, as tables or as primes -/
theorem st_w1 (f r : List Tb) (a : Nat) (hn : r ≠ []) (i : Nat) : (Pl.mk (f ++ r.take a) (r.drop a ++ r.take a)).st i = (Pl.mk f r).st i := by
  have h : ∀ i, (Pl.mk (r.take a) (r.drop a ++ r.take a)).st i = (Pl.mk [] r).st i := fun i => by
    have h1 := st_rot (r.take a) (r.drop a) (by rw [List.take_append_drop]; exact hn) i
    rw [List.take_append_drop] at h1
    exact h1
  have h2 := st_congr (f := f) h i
  rw [List.append_nil] at h2
  exact h2
theorem st_w1' (f A B : List Tb) (hn : A ++ B ≠ []) (i : Nat) : (Pl.mk (f ++ A) (B ++ A)).st i = (Pl.mk f (A ++ B)).st i := by
  have h2 := st_congr (f := f) (st_rot A B hn) i
  rw [List.append_nil] at h2
  exact h2
theorem st_w2 (f r : List Tb) (hn : r ≠ []) (i : Nat) : (Pl.mk f (r ++ r)).st i = (Pl.mk f r).st i := by
  have h2 := st_congr (f := f) (st_dbl r hn) i
  rw [List.append_nil] at h2
  exact h2
theorem st_w3 (f r : List Tb) (hn : r ≠ []) (i : Nat) : (Pl.mk (f ++ r) r).st i = (Pl.mk f r).st i := by
  have h := st_w1' f r [] (by rw [List.append_nil]; exact hn) i
  rw [List.append_nil] at h
  exact h
theorem shp_congr {s t : Nat → Tb} (h : ∀ i, s i = t i) (n : Nat) : shp s n = shp t n := by rw [funext h]
/-- where all has come together -/
theorem rows_last {st : Nat → Tb} (h : ∀ k, gT (st k)) {n k : Nat} (hn : 1 ≤ n) (hk : n ≤ k) : rows st (List.replicate n .o) k = [shp st n] := by
  obtain ⟨j, h1, h2, _, h4⟩ := rows_end h hn
  have h5 := rows_stay h h2 (k - j)
  rw [show j + (k - j) = k by omega] at h5
  rw [h5, h4]
theorem rows_congr {s t : Nat → Tb} {row : List Sh} : ∀ k, (∀ i, i < k → s i = t i) → rows s row k = rows t row k
  | 0, _ => rfl
  | k + 1, h => by
    show press (s k) (rows s row k) = press (t k) (rows t row k)
    rw [h k (by omega), rows_congr k fun i hi => h i (by omega)]
theorem shp_w4 {f : List Tb} {a b : Tb} (hf : gL f) (ha : gT a) (hb : gT b) (hg : gT (lglue a b)) {n : Nat} (hn : 1 ≤ n) : shp (Pl.mk f [a, b]).st n = shp (Pl.mk f [lglue a b]).st n := by
  have gp : gP f [a, b] := ⟨hf, fun t ht => by
    rcases List.mem_cons.mp ht with rfl | ht
    · exact ha
    · rw [List.mem_singleton.mp ht]; exact hb, fun z => nomatch z⟩
  have gq : gP f [lglue a b] := ⟨hf, fun t ht => by rw [List.mem_singleton.mp ht]; exact hg, fun z => nomatch z⟩
  have sa : ∀ j, (Pl.mk f [a, b]).st (f.length + 2 * j) = a := fun j => by
    rw [st_ge (by omega), Nat.add_sub_cancel_left]
    show [a, b].getD (2 * j % 2) [] = a
    rw [Nat.mul_mod_right]
    rfl
  have sb : ∀ j, (Pl.mk f [a, b]).st (f.length + 2 * j + 1) = b := fun j => by
    rw [st_ge (by omega), Nat.add_assoc, Nat.add_sub_cancel_left]
    show [a, b].getD ((2 * j + 1) % 2) [] = b
    rw [Nat.mul_add_mod]
    rfl
  have sg : ∀ j, (Pl.mk f [lglue a b]).st (f.length + j) = lglue a b := fun j => by
    rw [st_ge (by omega)]
    show [lglue a b].getD (_ % 1) [] = _
    rw [Nat.mod_one]
    rfl
  have key : ∀ j, rows (Pl.mk f [a, b]).st (List.replicate n .o) (f.length + 2 * j) = rows (Pl.mk f [lglue a b]).st (List.replicate n .o) (f.length + j) := by
    intro j
    induction j with
    | zero => exact rows_congr _ fun i hi => by rw [st_lt (by omega), st_lt (by omega)]
    | succ j ih =>
      show press ((Pl.mk f [a, b]).st (f.length + 2 * j + 1)) (press ((Pl.mk f [a, b]).st (f.length + 2 * j)) (rows (Pl.mk f [a, b]).st (List.replicate n .o) (f.length + 2 * j))) = press ((Pl.mk f [lglue a b]).st (f.length + j)) (rows (Pl.mk f [lglue a b]).st (List.replicate n .o) (f.length + j))
      rw [sa, sb, sg, ih, glue_press ha hb]
  have h1 := key n
  rw [rows_last (gP_st (p := ⟨f, [a, b]⟩) gp) hn (by omega), rows_last (gP_st (p := ⟨f, [lglue a b]⟩) gq) hn (by omega)] at h1
  injection h1
end Lh
end
section
set_option Elab.async false
set_option linter.all false
/-! plain forms: the least beginning, the least round -/
namespace Lh
/-- from s on it comes again after r -/
def per (x : Nat → Tb) (s r : Nat) : Prop := ∀ i, s ≤ i → x (i + r) = x i
theorem per_mul {x : Nat → Tb} {s r : Nat} (h : per x s r) : ∀ k i, s ≤ i → x (i + r * k) = x i
  | 0, i, _ => rfl
  | k + 1, i, hi => by
    rw [Nat.mul_add, Nat.mul_one, ← Nat.add_assoc, h _ (by omega), per_mul h k i hi]
theorem per_gcd {x : Nat → Tb} {s : Nat} (a b : Nat) : per x s a → per x s b → per x s (Nat.gcd a b) := by
  induction a, b using Nat.gcd.induction with
  | H0 n => intro _ h; rw [Nat.gcd_zero_left]; exact h
  | H1 m n hm ih =>
    intro h1 h2
    rw [Nat.gcd_rec]
    refine ih (fun i hi => ?_) h1
    have h3 := per_mul h1 (n / m) (i + n % m) (by omega)
    rw [Nat.add_assoc, Nat.mod_add_div, h2 i hi] at h3
    exact h3.symm
theorem per_st {f r : List Tb} : per (Pl.mk f r).st f.length r.length := fun i hi => by
  rw [st_ge (by omega), st_ge hi, Nat.sub_add_comm hi, Nat.add_mod_right]
theorem getD_flat (l : List Tb) : ∀ (k i : Nat), i < k * l.length → ((List.replicate k l).flatten).getD i [] = l.getD (i % l.length) []
  | 0, i, h => by omega
  | k + 1, i, h => by
    rw [List.replicate_succ, List.flatten_cons]
    rw [Nat.add_mul, Nat.one_mul] at h
    by_cases h2 : i < l.length
    · rw [getD_app0 _ _ h2, Nat.mod_eq_of_lt h2]
    · rw [getD_app1 _ _ (by omega), getD_flat l k _ (by omega)]
      congr 1
      conv => rhs; rw [show i = (i - l.length) + l.length by omega, Nat.add_mod_right]
theorem flat_len (l : List Tb) (k : Nat) : ((List.replicate k l).flatten).length = k * l.length := by
  rw [List.length_flatten, List.map_replicate, List.sum_replicate_nat]
theorem ext_getD {a b : List Tb} (hl : a.length = b.length) (h : ∀ i, i < a.length → a.getD i [] = b.getD i []) : a = b := by
  refine List.ext_getElem hl fun i h1 h2 => ?_
  have h3 := h i h1
  rw [List.getD_eq_getElem?_getD, List.getD_eq_getElem?_getD, List.getElem?_eq_getElem h1, List.getElem?_eq_getElem h2] at h3
  exact h3
theorem getD_take (l : List Tb) {i n : Nat} (h : i < n) : (l.take n).getD i [] = l.getD i [] := by
  rw [List.getD_eq_getElem?_getD, List.getD_eq_getElem?_getD, List.getElem?_take, if_pos h]
theorem round_iff {row : List Tb} {s : Nat} (h1 : 1 ≤ s) (h2 : s ≤ row.length) : isRound row s = true ↔ row.length % s = 0 ∧ per (Pl.mk [] row).st 0 s := by
  have hts : (row.take s).length = s := by rw [List.length_take]; omega
  unfold isRound
  rw [Bool.and_eq_true, decide_eq_true_iff, decide_eq_true_iff]
  refine and_congr_right fun hd => ?_
  have hk : row.length / s * s = row.length := by
    have := Nat.div_add_mod row.length s
    rw [hd, Nat.add_zero, Nat.mul_comm] at this
    exact this
  have hdvd : s ∣ row.length := Nat.dvd_of_mod_eq_zero hd
  constructor
  · intro h
    have hg : ∀ i, i < row.length → row.getD i [] = (row.take s).getD (i % s) [] := fun i hi => by
      conv => lhs; rw [h]
      rw [getD_flat _ _ _ (by rw [hts, hk]; exact hi), hts]
    have hs : ∀ i, (Pl.mk [] row).st i = (row.take s).getD (i % s) [] := fun i => by
      rw [st_nil, hg _ (Nat.mod_lt _ (by omega)), Nat.mod_mod_of_dvd i hdvd]
    intro i _
    rw [hs, hs, Nat.add_mod_right]
  · intro h
    refine ext_getD (by rw [flat_len, hts, hk]) fun i hi => ?_
    rw [getD_flat _ _ _ (by rw [hts, hk]; exact hi), hts, getD_take _ (Nat.mod_lt _ (by omega))]
    have e1 : row.getD i [] = (Pl.mk [] row).st i := by rw [st_nil, Nat.mod_eq_of_lt hi]
    have hm : i % s < row.length := Nat.lt_of_lt_of_le (Nat.mod_lt _ (by omega)) h2
    have e2 : row.getD (i % s) [] = (Pl.mk [] row).st (i % s) := by rw [st_nil, Nat.mod_eq_of_lt hm]
    rw [e1, e2]
    have h3 := per_mul h (i / s) (i % s) (Nat.zero_le _)
    rw [Nat.mod_add_div] at h3
    exact h3
theorem round_st {row : List Tb} {s : Nat} (h1 : 1 ≤ s) (h2 : s ≤ row.length) (h : isRound row s = true) (i : Nat) : (Pl.mk [] (row.take s)).st i = (Pl.mk [] row).st i := by
  obtain ⟨hd, hp⟩ := (round_iff h1 h2).mp h
  have hts : (row.take s).length = s := by rw [List.length_take]; omega
  have hm : i % s < s := Nat.mod_lt _ (by omega)
  rw [st_nil, hts, getD_take _ hm]
  have hm2 : i % s < row.length := Nat.lt_of_lt_of_le hm h2
  have e2 : row.getD (i % s) [] = (Pl.mk [] row).st (i % s) := by rw [st_nil, Nat.mod_eq_of_lt hm2]
  rw [e2]
  have h3 := per_mul hp (i / s) (i % s) (Nat.zero_le _)
  rw [Nat.mod_add_div] at h3
  exact h3.symm
/-- no shorter round -/
def Prim (r : List Tb) : Prop := ∀ g, 1 ≤ g → g < r.length → isRound r g = false
theorem prim_srd {row : List Tb} (hn : row ≠ []) : Prim (srd row) ∧ srd row ≠ [] ∧ (srd row).length ≤ row.length ∧ ∀ i, (Pl.mk [] (srd row)).st i = (Pl.mk [] row).st i := by
  have hl : 0 < row.length := List.length_pos_iff.mpr hn
  rcases least (fun i => !isRound row (i + 1)) (row.length - 1) with ⟨n0, h1, h2, h3⟩ | hall
  · have e : srd row = row.take (n0 + 1) := by
      unfold srd
      have : ((List.range (row.length - 1)).map (· + 1)).find? (isRound row) = some (n0 + 1) := by
        rw [List.find?_map]
        have h4 : (List.range (row.length - 1)).find? (isRound row ∘ (· + 1)) = some n0 := by
          rw [List.find?_range_eq_some]
          exact ⟨by simpa using h2, List.mem_range.mpr h1, fun j hj => h3 j hj⟩
        rw [h4]
        rfl
      rw [this]
    have hr : isRound row (n0 + 1) = true := by simpa using h2
    have hts : (row.take (n0 + 1)).length = n0 + 1 := by rw [List.length_take]; omega
    rw [e]
    refine ⟨fun g g1 g2 => ?_, fun z => ?_, by rw [hts]; omega, round_st (by omega) (by omega) hr⟩
    · rw [hts] at g2
      cases q : isRound (row.take (n0 + 1)) g with
      | false => rfl
      | true =>
        exfalso
        obtain ⟨q1, q2⟩ := (round_iff g1 (by rw [hts]; omega)).mp q
        obtain ⟨q3, q4⟩ := (round_iff (by omega) (by omega)).mp hr
        have q5 : isRound row g = true := (round_iff g1 (by omega)).mpr ⟨by
          rw [hts] at q1
          exact Nat.mod_eq_zero_of_dvd (Nat.dvd_trans (Nat.dvd_of_mod_eq_zero q1) (Nat.dvd_of_mod_eq_zero q3)), fun i hi => by
          rw [← round_st (by omega) (by omega) hr, ← round_st (by omega) (by omega) hr]
          exact q2 i hi⟩
        have q6 := h3 (g - 1) (by omega)
        rw [show g - 1 + 1 = g by omega, q5] at q6
        cases q6
    · rw [z] at hts
      simp only [List.length_nil] at hts
      omega
  · have e : srd row = row := by
      unfold srd
      have : ((List.range (row.length - 1)).map (· + 1)).find? (isRound row) = none := by
        rw [List.find?_eq_none]
        intro x hx
        obtain ⟨k, hk, rfl⟩ := List.mem_map.mp hx
        have := hall k (List.mem_range.mp hk)
        simpa using this
      rw [this]
    rw [e]
    refine ⟨fun g g1 g2 => ?_, hn, Nat.le_refl _, fun _ => rfl⟩
    have q6 := hall (g - 1) (by omega)
    rw [show g - 1 + 1 = g by omega] at q6
    simpa using q6
/-- a plain form -/
structure Can (p : Pl) : Prop where
  ne : p.rd ≠ []
  pr : Prim p.rd
  en : cR p = false
theorem can_pre {p : Pl} (h : Can p) {s r : Nat} (hr : 1 ≤ r) (hp : per p.st s r) : p.ts.length ≤ s := by
  rcases Nat.lt_or_ge s p.ts.length with z | z
  · exfalso
    obtain ⟨f, R⟩ := p
    have hn := h.ne
    have hen := of_decide_eq_false h.en
    dsimp only at z hn hen hp
    have hR : 0 < R.length := List.length_pos_iff.mpr hn
    have h1 := per_mul hp R.length (f.length - 1) (by omega)
    have hrR : 1 * 1 ≤ r * R.length := Nat.mul_le_mul hr hR
    rw [st_lt (i := f.length - 1) (by omega), st_ge (by omega)] at h1
    have e : (f.length - 1 + r * R.length - f.length) % R.length = R.length - 1 := by
      rw [show f.length - 1 + r * R.length - f.length = R.length - 1 + R.length * (r - 1) by
        have : R.length * r = R.length * (r - 1) + R.length := by
          conv => lhs; rw [show r = (r - 1) + 1 by omega]
          rw [Nat.mul_add, Nat.mul_one]
        rw [Nat.mul_comm r]
        omega, Nat.add_mul_mod_self_left, Nat.mod_eq_of_lt (by omega)]
    rw [e] at h1
    refine hen ⟨fun q => by rw [q] at z; simp at z, ?_⟩
    rw [List.getLast?_eq_getElem?, List.getLast?_eq_getElem?, List.getElem?_eq_getElem (by omega : f.length - 1 < f.length), List.getElem?_eq_getElem (by omega : R.length - 1 < R.length)]
    rw [List.getD_eq_getElem?_getD, List.getElem?_eq_getElem (by omega : R.length - 1 < R.length)] at h1
    exact congrArg some h1.symm
  · exact z
theorem can_per {p : Pl} (h : Can p) {r : Nat} (hr : 1 ≤ r) (hp : per p.st p.ts.length r) : p.rd.length ≤ r := by
  rcases Nat.lt_or_ge r p.rd.length with z | z
  · exfalso
    obtain ⟨f, R⟩ := p
    have hn := h.ne
    have hpr := h.pr
    dsimp only at z hn hp hpr
    have hR : 0 < R.length := List.length_pos_iff.mpr hn
    have hg := per_gcd r R.length hp per_st
    have g1 : 1 ≤ Nat.gcd r R.length := Nat.gcd_pos_of_pos_left _ hr
    have g2 : Nat.gcd r R.length ≤ r := Nat.gcd_le_left _ hr
    have g3 := hpr (Nat.gcd r R.length) g1 (by omega)
    have g4 : isRound R (Nat.gcd r R.length) = true := (round_iff g1 (by omega)).mpr ⟨Nat.mod_eq_zero_of_dvd (Nat.gcd_dvd_right _ _), fun i _ => by
      have h5 := hg (f.length + i) (by omega)
      have e : ∀ j, (Pl.mk f R).st (f.length + j) = (Pl.mk [] R).st j := fun j => by
        rw [st_ge (by omega), st_nil, Nat.add_sub_cancel_left]
      rw [Nat.add_assoc, e, e] at h5
      exact h5⟩
    rw [g4] at g3
    cases g3
  · exact z
theorem can_uniq {p q : Pl} (hp : Can p) (hq : Can q) (h : ∀ i, p.st i = q.st i) : p = q := by
  have hf : p.st = q.st := funext h
  have hp0 : 0 < p.rd.length := List.length_pos_iff.mpr hp.ne
  have hq0 : 0 < q.rd.length := List.length_pos_iff.mpr hq.ne
  have pp : per p.st p.ts.length p.rd.length := per_st
  have qq : per q.st q.ts.length q.rd.length := per_st
  have e1 : p.ts.length = q.ts.length := Nat.le_antisymm (can_pre hp hq0 (by rw [hf]; exact qq)) (can_pre hq hp0 (by rw [← hf]; exact pp))
  have e2 : p.rd.length = q.rd.length := Nat.le_antisymm (can_per hp hq0 (by rw [hf, e1]; exact qq)) (can_per hq hp0 (by rw [← hf, ← e1]; exact pp))
  obtain ⟨f, r⟩ := p
  obtain ⟨f', r'⟩ := q
  dsimp only at e1 e2 hp0 hq0 h
  have ef : f = f' := by
    refine List.ext_getElem e1 fun i h1 h2 => ?_
    have := h i
    rw [st_lt h1, st_lt h2] at this
    exact this
  have er : r = r' := by
    refine ext_getD e2 fun i hi => ?_
    have := h (f.length + i)
    rw [st_ge (by omega), st_ge (by omega), Nat.add_sub_cancel_left, ← e1, Nat.add_sub_cancel_left, Nat.mod_eq_of_lt hi, Nat.mod_eq_of_lt (by omega)] at this
    exact this
  rw [ef, er]
end Lh
end
section
set_option Elab.async false
set_option linter.all false
/-! the plain form is one; the law's search finds it -/
namespace Lh
theorem stR_ok {p : Pl} (hn : p.rd ≠ []) (hc : cR p = true) : (∀ i, (stR p).st i = p.st i) ∧ (stR p).rd ≠ [] ∧ (Prim p.rd → Prim (stR p).rd) := by
  obtain ⟨c1, c2⟩ := of_decide_eq_true hc
  obtain ⟨f, r⟩ := p
  dsimp only at c1 c2 hn
  rcases List.eq_nil_or_concat f with rfl | ⟨F, x, rfl⟩
  · exact absurd rfl c1
  rcases List.eq_nil_or_concat r with rfl | ⟨R, y, rfl⟩
  · exact absurd rfl hn
  rw [List.concat_eq_append] at *
  rw [List.concat_eq_append] at *
  rw [List.getLast?_concat, List.getLast?_concat] at c2
  have exy : x = y := Option.some.inj c2
  subst exy
  have e : stR ⟨F ++ [x], R ++ [x]⟩ = ⟨F, [x] ++ R⟩ := by
    unfold stR
    dsimp only
    rw [List.getLast?_concat, List.dropLast_concat, List.dropLast_concat]
    rfl
  rw [e]
  refine ⟨fun i => (st_w1' F [x] R (fun z => nomatch z) i).symm, (fun z => nomatch z), fun hp g g1 g2 => ?_⟩
  dsimp only at hp g2 ⊢
  have hl : (R ++ [x]).length = ([x] ++ R).length := by rw [List.length_append, List.length_append, Nat.add_comm]
  cases q : isRound ([x] ++ R) g with
  | false => rfl
  | true =>
    obtain ⟨q1, q2⟩ := (round_iff g1 (by omega)).mp q
    have hs : ∀ i, (Pl.mk [] (R ++ [x])).st i = (Pl.mk [] ([x] ++ R)).st (i + 1) := fun i => by
      have h1 := st_rot [x] R (fun z => nomatch z) (i + 1)
      have h2 := st_app [x] [] (R ++ [x]) (i + 1) (by simp)
      rw [List.append_nil] at h2
      rw [← h1, h2]
      rfl
    have q3 : isRound (R ++ [x]) g = true := (round_iff g1 (by omega)).mpr ⟨by rw [hl]; exact q1, fun i _ => by
      rw [hs, hs, show i + g + 1 = i + 1 + g by omega]
      exact q2 (i + 1) (Nat.zero_le _)⟩
    rw [hp g g1 (by omega)] at q3
    cases q3
theorem itR_ok {p : Pl} (hn : p.rd ≠ []) (hp : Prim p.rd) : ∀ J, (∀ i, i < J → cR (itR p i) = true) → (∀ i, (itR p J).st i = p.st i) ∧ (itR p J).rd ≠ [] ∧ Prim (itR p J).rd
  | 0, _ => ⟨fun _ => rfl, hn, hp⟩
  | J + 1, h => by
    obtain ⟨h1, h2, h3⟩ := itR_ok hn hp J fun i hi => h i (by omega)
    obtain ⟨h4, h5, h6⟩ := stR_ok h2 (h J (by omega))
    exact ⟨fun i => (h4 i).trans (h1 i), h5, h6 h3⟩
/-- the primes of a plan, as a plan -/
abbrev prp (p : Pl) : Pl := ⟨prims p.ts, prims p.rd⟩
theorem plain_can {p : Pl} (h : gP p.ts p.rd) : Can p.plain ∧ ∀ i, p.plain.st i = (prp p).st i := by
  have hne := prims_ne h.2.1 h.2.2
  obtain ⟨s1, s2, s3, s4⟩ := prim_srd hne
  obtain ⟨J, _, e, h1, h2⟩ := plain_J p
  obtain ⟨h3, h4, h5⟩ := itR_ok (p := ⟨prims p.ts, srd (prims p.rd)⟩) s2 s1 J h1
  rw [e]
  refine ⟨⟨h4, h5, h2⟩, fun i => ?_⟩
  rw [h3]
  have h6 := st_congr (f := prims p.ts) s4 i
  rw [List.append_nil] at h6
  exact h6
theorem plain_iff {p q : Pl} (hp : gP p.ts p.rd) (hq : gP q.ts q.rd) : p.plain = q.plain ↔ ∀ i, (prp p).st i = (prp q).st i := by
  obtain ⟨c1, e1⟩ := plain_can hp
  obtain ⟨c2, e2⟩ := plain_can hq
  constructor
  · intro h i
    rw [← e1, ← e2, h]
  · intro h
    exact can_uniq c1 c2 fun i => by rw [e1, e2, h]
theorem evr_get {p : Pl} (h : gP p.ts p.rd) {n i : Nat} (hi : i < n) : (plist p n).getD i [] = (prp p).st i := by
  have hR : 0 < (prims p.rd).length := List.length_pos_iff.mpr (prims_ne h.2.1 h.2.2)
  unfold plist
  rw [getD_take _ hi]
  by_cases h2 : i < (prims p.ts).length
  · rw [getD_app0 _ _ h2, st_lt h2, List.getD_eq_getElem?_getD, List.getElem?_eq_getElem h2]
    rfl
  · have h3 : n * 1 ≤ n * (prims p.rd).length := Nat.mul_le_mul_left _ hR
    rw [getD_app1 _ _ (by omega), getD_flat _ _ _ (by omega), st_ge (by omega)]
theorem Fd_iff {p : Pl} (h : gP p.ts p.rd) {s r : Nat} (hs : s ≤ (prims p.ts).length) (h1 : 1 ≤ r) (h2 : r ≤ (prims p.rd).length) : Fd (evr p) s r = true ↔ per (prp p).st s r := by
  have hR : 0 < (prims p.rd).length := List.length_pos_iff.mpr (prims_ne h.2.1 h.2.2)
  have hE := evr_len (p := p) (prims_ne h.2.1 h.2.2)
  have hg : ∀ i, i < (prims p.ts).length + 3 * (prims p.rd).length → (evr p).getD i [] = (prp p).st i := fun i hi => evr_get h hi
  have pR : per (prp p).st (prims p.ts).length (prims p.rd).length := per_st
  unfold Fd
  rw [decide_eq_true_iff]
  have hl1 : (((evr p).drop s).take ((evr p).length - r - s)).length = (evr p).length - r - s := by rw [List.length_take, List.length_drop]; omega
  have hl2 : ((evr p).drop (s + r)).length = (evr p).length - r - s := by rw [List.length_drop]; omega
  have g1 : ∀ i, i < (evr p).length - r - s → (((evr p).drop s).take ((evr p).length - r - s)).getD i [] = (prp p).st (s + i) := fun i hi => by
    rw [getD_take _ hi, List.getD_eq_getElem?_getD, List.getElem?_drop, ← List.getD_eq_getElem?_getD, hg _ (by omega)]
  have g2 : ∀ i, i < (evr p).length - r - s → ((evr p).drop (s + r)).getD i [] = (prp p).st (s + r + i) := fun i hi => by
    rw [List.getD_eq_getElem?_getD, List.getElem?_drop, ← List.getD_eq_getElem?_getD, hg _ (by omega)]
  constructor
  · intro hq
    have near : ∀ i, s ≤ i → i + r < (evr p).length → (prp p).st (i + r) = (prp p).st i := fun i hi hi2 => by
      have e1 := g1 (i - s) (by omega)
      have e2 := g2 (i - s) (by omega)
      rw [hq, e2] at e1
      rw [show s + r + (i - s) = i + r by omega, show s + (i - s) = i by omega] at e1
      exact e1
    intro i hi
    by_cases hi2 : i + r < (evr p).length
    · exact near i hi hi2
    · have hm : (i - (prims p.ts).length) % (prims p.rd).length < (prims p.rd).length := Nat.mod_lt _ hR
      have hd := Nat.mod_add_div (i - (prims p.ts).length) (prims p.rd).length
      have a1 := per_mul pR ((i - (prims p.ts).length) / (prims p.rd).length) ((prims p.ts).length + (i - (prims p.ts).length) % (prims p.rd).length) (by omega)
      have a2 := per_mul pR ((i - (prims p.ts).length) / (prims p.rd).length) ((prims p.ts).length + (i - (prims p.ts).length) % (prims p.rd).length + r) (by omega)
      have a3 := near ((prims p.ts).length + (i - (prims p.ts).length) % (prims p.rd).length) (by omega) (by omega)
      generalize (i - (prims p.ts).length) % (prims p.rd).length = j at hm hd a1 a2 a3
      generalize (prims p.rd).length * ((i - (prims p.ts).length) / (prims p.rd).length) = D at hd a1 a2
      rw [show (prims p.ts).length + j + D = i by omega] at a1
      rw [show (prims p.ts).length + j + r + D = i + r by omega] at a2
      rw [a1, a2, a3]
  · intro hq
    refine ext_getD (by rw [hl1, hl2]) fun i hi => ?_
    rw [hl1] at hi
    rw [g1 i hi, g2 i hi, show s + r + i = s + i + r by omega, hq _ (by omega)]
theorem lpq_ok {p : Pl} (h : gP p.ts p.rd) : LPq p p.plain := by
  obtain ⟨c, e⟩ := plain_can h
  have hf : p.plain.st = (prp p).st := funext e
  have hR : 0 < (prims p.rd).length := List.length_pos_iff.mpr (prims_ne h.2.1 h.2.2)
  have hr0 : 0 < p.plain.rd.length := List.length_pos_iff.mpr c.ne
  have pR : per (prp p).st (prims p.ts).length (prims p.rd).length := per_st
  have pP : per (prp p).st p.plain.ts.length p.plain.rd.length := by rw [← hf]; exact per_st
  have hs : p.plain.ts.length ≤ (prims p.ts).length := can_pre c hR (by rw [hf]; exact pR)
  have hrr : p.plain.rd.length ≤ (prims p.rd).length := can_per c hR (by
    rw [hf]
    intro i hi
    have a1 := per_mul pP (prims p.ts).length (i + (prims p.rd).length) (by omega)
    have a2 := per_mul pP (prims p.ts).length i hi
    have hD : 1 * (prims p.ts).length ≤ p.plain.rd.length * (prims p.ts).length := Nat.mul_le_mul_right _ hr0
    have a3 := pR (i + p.plain.rd.length * (prims p.ts).length) (by omega)
    rw [← a1, ← a2, ← a3]
    congr 1
    omega)
  have hE := evr_len (p := p) (prims_ne h.2.1 h.2.2)
  refine ⟨p.plain.ts.length, p.plain.rd.length, ⟨hs, hr0, hrr, (Fd_iff h hs hr0 hrr).mpr pP, fun s h1 r h2 h3 => ?_, fun r h1 h2 => ?_⟩, ?_⟩
  · cases q : Fd (evr p) s r with
    | false => rfl
    | true =>
      have := can_pre c h2 (by rw [hf]; exact (Fd_iff h (by omega) h2 h3).mp q)
      omega
  · cases q : Fd (evr p) p.plain.ts.length r with
    | false => rfl
    | true =>
      have := can_per c h1 (by rw [hf]; exact (Fd_iff h hs h1 (by omega)).mp q)
      omega
  · have hg : ∀ i, i < (prims p.ts).length + 3 * (prims p.rd).length → (evr p).getD i [] = p.plain.st i := fun i hi => by rw [hf]; exact evr_get h hi
    generalize hpp : p.plain = q at *
    obtain ⟨F, R⟩ := q
    dsimp only at *
    have e1 : F = (evr p).take F.length := by
      refine ext_getD (by rw [List.length_take]; omega) fun i hi => ?_
      rw [getD_take _ hi, hg i (by omega), st_lt hi, List.getD_eq_getElem?_getD, List.getElem?_eq_getElem hi]
      rfl
    have e2 : R = ((evr p).drop F.length).take R.length := by
      refine ext_getD (by rw [List.length_take, List.length_drop]; omega) fun i hi => ?_
      rw [getD_take _ hi, List.getD_eq_getElem?_getD (l := List.drop _ _), List.getElem?_drop, ← List.getD_eq_getElem?_getD, hg _ (by omega), st_ge (by omega), Nat.add_sub_cancel_left, Nat.mod_eq_of_lt hi]
    show Pl.mk F R = Pl.mk ((evr p).take F.length) (((evr p).drop F.length).take R.length)
    rw [← e1, ← e2]
end Lh
end
section
set_option Elab.async false
set_option linter.all false
/-! glued tables have a cut; a table with a cut is glued -/
namespace Lh
theorem part_whole (s : Sh) : part s 0 s.size = some s := by
  rw [part.eq_def]
  exact if_pos ⟨rfl, rfl⟩
/-- the k-th piece -/
def Pcs (b m q : Nat) (n : Nat) (ps : List Sh) : Prop := ∀ k, k < n → ∃ p, ps[k]? = some p ∧ (q + k) * b < m ∧ (q + k) * b + p.size = min ((q + k) * b + b) m
theorem pieces {b m : Nat} (hb : 1 ≤ b) : ∀ (v : Sh) (q : Nat) (ps : List Sh), Pcs b m q v.size ps →
    q * b + (fill v ps).size = min ((q + v.size) * b) m ∧ (∀ k p, k < v.size → ps[k]? = some p → part (fill v ps) ((q + k) * b - q * b) (min ((q + k) * b + b) m - q * b) = some p) ∧ abv (fill v ps) (stret m b) (q * b) = v
  | .o, q, ps, h => by
    obtain ⟨p, h1, h2, h3⟩ := h 0 (by decide)
    rw [Nat.add_zero] at h2 h3
    have e : fill .o ps = p := by
      show ps.headD .o = p
      cases ps with
      | nil => cases h1
      | cons x l => exact Option.some.inj h1
    rw [e]
    have hs := size_pos p
    refine ⟨by rw [h3]; simp only [Sh.size]; rw [Nat.add_mul, Nat.one_mul], fun k p' hk hp' => ?_, ?_⟩
    · have hk : k < 1 := hk
      have : k = 0 := by omega
      subst this
      rw [h1] at hp'
      cases hp'
      rw [Nat.add_zero, Nat.sub_self, ← h3, Nat.add_sub_cancel_left]
      exact part_whole p
    · cases p with
      | o => exact abv_o _ _
      | n a c =>
        simp only [Sh.size] at h3 hs
        rw [abv_n, if_pos ((mem_stret hb (by omega) (by omega)).mpr h3)]
  | .n a c, q, ps, h => by
    have ha := size_pos a
    have hc := size_pos c
    simp only [Sh.size] at h ⊢
    obtain ⟨a1, a2, a3⟩ := pieces hb a q ps (fun k hk => h k (by omega))
    obtain ⟨c1, c2, c3⟩ := pieces hb c (q + a.size) (ps.drop a.size) (fun k hk => by
      obtain ⟨p, h1, h2, h3⟩ := h (a.size + k) (by omega)
      exact ⟨p, by rw [List.getElem?_drop]; exact h1, by rw [Nat.add_assoc]; exact h2, by rw [Nat.add_assoc]; exact h3⟩)
    obtain ⟨px, x1, x2, x3⟩ := h a.size (by omega)
    have hx : q * b + (fill a ps).size = (q + a.size) * b := by omega
    have hqa : q * b + 1 * b ≤ (q + a.size) * b := by
      rw [← Nat.add_mul]
      exact Nat.mul_le_mul_right b (by omega)
    rw [fill_n]
    generalize hA : fill a ps = A at *
    generalize hC : fill c (ps.drop a.size) = C at *
    have sA := size_pos A
    have sC := size_pos C
    rw [show q + a.size + c.size = q + (a.size + c.size) by omega] at c1
    refine ⟨by simp only [Sh.size]; omega, fun k p hk hp => ?_, ?_⟩
    · rw [part_n]
      obtain ⟨pk', k1, k2, k3⟩ := h k hk
      rw [hp] at k1
      cases k1
      have hpp := size_pos p
      by_cases hka : k < a.size
      · have h6 : (q + k + 1) * b ≤ (q + a.size) * b := Nat.mul_le_mul_right b (by omega)
        rw [Nat.add_mul (q + k), Nat.one_mul] at h6
        rw [if_neg (by omega), if_pos (by omega)]
        exact a2 k p hka hp
      · have h6 : (q + a.size) * b ≤ (q + k) * b := Nat.mul_le_mul_right b (by omega)
        rw [if_neg (by omega), if_neg (by omega), if_pos (by omega)]
        have h7 := c2 (k - a.size) p (by omega) (by rw [List.getElem?_drop, show a.size + (k - a.size) = k by omega]; exact hp)
        rw [show q + a.size + (k - a.size) = q + k by omega] at h7
        rw [← h7]
        congr 1 <;> omega
    · rw [abv_n, if_neg, a3, hx, c3]
      rw [mem_stret hb (by omega) (by omega)]
      omega
theorem fill_rep : ∀ (s : Sh) (n : Nat), s.size ≤ n → fill s (List.replicate n .o) = s
  | .o, n, h => by
    simp only [Sh.size] at h
    obtain ⟨k, rfl⟩ : ∃ k, n = k + 1 := ⟨n - 1, by omega⟩
    rfl
  | .n a b, n, h => by
    simp only [Sh.size] at h
    rw [fill_n, fill_rep a n (by omega), List.drop_replicate, fill_rep b _ (by omega)]
theorem chk_rep {t : Tb} (hg : gT t) {n : Nat} (h1 : 1 ≤ n) (h2 : n ≤ t.length + 1) : chk t (List.replicate n .o) = ent t n := by
  unfold chk
  rw [List.length_replicate]
  exact fill_rep _ _ (by rw [gT_ent hg h1 h2]; exact Nat.le_refl _)
/-- what is pressed out of single lumps -/
theorem press_rep {t : Tb} (hg : gT t) {m k : Nat} (h : k < cl m (t.length + 1)) : (press t (List.replicate m .o))[k]? = some (ent t (min (t.length + 1) (m - k * (t.length + 1)))) := by
  have h1 := cl_lt (by omega) h
  rw [press_get (by rw [List.length_replicate]; exact h), List.drop_replicate, List.take_replicate, chk_rep hg (by omega) (by omega)]
theorem ent_small {s t : Tb} (hs : gT s) {m : Nat} (h1 : 1 ≤ m) (h2 : m ≤ s.length + 1) (h3 : m ≤ (s.length + 1) * (t.length + 1)) : ent (lglue s t) m = ent s m := by
  have hc : cl m (s.length + 1) = 1 := cl_eq (by omega) (by rw [Nat.sub_self, Nat.zero_mul]; exact h1) (by omega) (by omega)
  have hp : press s (List.replicate m .o) = [ent s m] := by
    have h4 := press_rep hs (m := m) (k := 0) (by omega)
    rw [Nat.zero_mul, Nat.sub_zero, Nat.min_eq_right h2] at h4
    have h5 : (press s (List.replicate m .o)).length = 1 := by rw [press_len, List.length_replicate, hc]
    match q : press s (List.replicate m .o), h5 with
    | [x], _ =>
      rw [q] at h4
      rw [show x = ent s m from Option.some.inj h4]
  rw [ent_glue hs h1 h3, hp]
  rfl
theorem glue_pcs {s t : Tb} (hs : gT s) {m : Nat} (h1 : 1 ≤ m) (h2 : m ≤ (s.length + 1) * (t.length + 1)) : Pcs (s.length + 1) m 0 (cl m (s.length + 1)) (press s (List.replicate m .o)) := fun k hk => by
  have h3 := cl_lt (by omega) hk
  refine ⟨_, press_rep hs hk, by rw [Nat.zero_add]; exact h3, ?_⟩
  rw [Nat.zero_add, gT_ent hs (by omega) (by omega)]
  omega
theorem glue_cut {s t : Tb} (hs : gT s) (ht : gT t) (hg : gT (lglue s t)) : cutB (lglue s t) (s.length + 1) = true ∧ behP (lglue s t) (s.length + 1) = t ∧ (lglue s t).take (s.length + 1 - 1) = s ∧ s.length + 1 ≤ (lglue s t).length := by
  have hn := glue_n s t
  have hs1 := gT_pos hs
  have ht1 := gT_pos ht
  have hb2 : 2 ≤ s.length + 1 := by omega
  have hbn : (s.length + 1) * 2 ≤ (s.length + 1) * (t.length + 1) := Nat.mul_le_mul_left _ (by omega)
  have key : ∀ m, 1 ≤ m → m ≤ (s.length + 1) * (t.length + 1) → wst (lglue s t) (s.length + 1) m = true ∧ abvT (lglue s t) (s.length + 1) m = ent t (cl m (s.length + 1)) := fun m h1 h2 => by
    obtain ⟨g1, g2⟩ := glue_row (t := t) hs h1 h2
    rw [press_len, List.length_replicate] at g1 g2
    have he := gT_ent ht g1 g2
    have hp := pieces (b := s.length + 1) (m := m) (by omega) (ent t (cl m (s.length + 1))) 0 (press s (List.replicate m .o)) (by rw [he]; exact glue_pcs hs h1 h2)
    have e : ent (lglue s t) m = fill (ent t (cl m (s.length + 1))) (press s (List.replicate m .o)) := by
      rw [ent_glue hs h1 h2]
      unfold chk
      rw [press_len, List.length_replicate]
    rw [← e, he] at hp
    obtain ⟨_, p2, p3⟩ := hp
    rw [Nat.zero_mul] at p2 p3
    refine ⟨?_, p3⟩
    rw [wst_eq, List.all_eq_true]
    intro k hk
    rw [List.mem_range] at hk
    have h3 := cl_lt (by omega) hk
    have h4 := p2 k _ hk (press_rep hs hk)
    rw [Nat.zero_add, Nat.sub_zero, Nat.sub_zero] at h4
    unfold wstK
    rw [decide_eq_true_iff, h4, ent_small hs (by omega) (by omega) (by omega)]
    congr 2
    omega
  refine ⟨cut_iff.mpr ⟨by rw [hn]; exact Nat.mul_mod_right _ _, fun m h1 h2 => ?_⟩, ?_, ?_, by omega⟩
  · rw [hn] at h2
    obtain ⟨k1, k2⟩ := key m (by omega) h2
    have f1 := fst_le (b := s.length + 1) (m := m) hb2 h1
    have f2 := fst_two (b := s.length + 1) (q := cl m (s.length + 1)) hb2 (cl_pos (by omega) (by omega))
    rw [k2, (key _ (by omega) (by omega)).2, cl_fst hb2 (cl_pos (by omega) (by omega))]
    exact ⟨k1, rfl⟩
  · have hl : (behP (lglue s t) (s.length + 1)).length = t.length := by
      rw [beh_len, hn, Nat.mul_div_cancel_left _ (by omega)]
      omega
    refine List.ext_getElem? fun k => ?_
    by_cases hk : k < t.length
    · have hm : (k + 2) * (s.length + 1) ≤ (t.length + 1) * (s.length + 1) := Nat.mul_le_mul_right _ (by omega)
      rw [Nat.mul_comm (t.length + 1)] at hm
      have hm1 : 1 * 1 ≤ (k + 2) * (s.length + 1) := Nat.mul_le_mul (by omega) (by omega)
      rw [beh_get (by omega), (key _ (by omega) hm).2, cl_mul (by omega)]
      unfold ent
      rw [if_neg (by omega), List.getD_eq_getElem?_getD, Nat.add_sub_cancel, List.getElem?_eq_getElem hk]
      rfl
    · rw [List.getElem?_eq_none (by omega), List.getElem?_eq_none (by omega)]
  · refine List.ext_getElem? fun k => ?_
    rw [Nat.add_sub_cancel]
    by_cases hk : k < s.length
    · rw [List.getElem?_take, if_pos hk]
      have e := ent_small (t := t) hs (m := k + 2) (by omega) (by omega) (by omega)
      unfold ent at e
      rw [if_neg (by omega), if_neg (by omega), Nat.add_sub_cancel, List.getD_eq_getElem?_getD, List.getD_eq_getElem?_getD, List.getElem?_eq_getElem hk, List.getElem?_eq_getElem (by omega)] at e
      rw [List.getElem?_eq_getElem hk, List.getElem?_eq_getElem (by omega)]
      exact congrArg some e
    · rw [List.getElem?_eq_none (by rw [List.length_take]; omega), List.getElem?_eq_none (by omega)]
end Lh
end
section
set_option Elab.async false
set_option linter.all false
/-! cuts and primes -/
namespace Lh
/-- a tree is what is above, filled with the pieces -/
theorem fill_abv {b m : Nat} {P : Nat → Sh} (hb : 1 ≤ b) : ∀ (s : Sh) (q : Nat), q * b + s.size ≤ m → Al b m (q * b + s.size) → Hp_ b m s (q * b) →
    (∀ k, q ≤ k → k * b < m → min (k * b + b) m ≤ q * b + s.size → part s (k * b - q * b) (min (k * b + b) m - q * b) = some (P k)) → ∀ N, cl (q * b + s.size) b ≤ N → fill (abv s (stret m b) (q * b)) ((List.range (N - q)).map fun k => P (q + k)) = s
  | .o, q, he, ha, hH, hP, N, hN => by
    simp only [Sh.size] at he ha hN hP
    have h1 := cl_step (q := q) hb (show q * b < q * b + 1 by omega) (show q * b + 1 ≤ q * b + b by omega)
    have h2 := al_next (q := q) ha he (by omega)
    have h3 := hP q (Nat.le_refl _) (by omega) h2
    have h4 : min (q * b + b) m = q * b + 1 := by omega
    rw [h4, Nat.sub_self, Nat.add_sub_cancel_left] at h3
    have h5 : P q = .o := by
      have := part_whole .o
      rw [show (Sh.o).size = 1 from rfl, h3] at this
      exact Option.some.inj this
    obtain ⟨j, hj⟩ : ∃ j, N - q = j + 1 := ⟨N - q - 1, by omega⟩
    rw [abv_o, hj, List.range_succ_eq_map, List.map_cons]
    show P (q + 0) = .o
    rw [Nat.add_zero, h5]
  | .n a c, q, he, ha, hH, hP, N, hN => by
    have h1 := size_pos a
    have h2 := size_pos c
    simp only [Sh.size] at he ha hN hP
    rw [abv_n]
    by_cases hs : q * b + (a.size + c.size) = min (q * b + b) m
    · rw [if_pos ((mem_stret hb (by omega) he).mpr hs)]
      have h3 := hP q (Nat.le_refl _) (by omega) (by omega)
      rw [← hs, Nat.sub_self, Nat.add_sub_cancel_left] at h3
      have h5 : P q = .n a c := by
        have := part_whole (.n a c)
        rw [show (Sh.n a c).size = a.size + c.size from rfl, h3] at this
        exact Option.some.inj this
      have h6 := one_step (q := q) hb (by omega) hs
      obtain ⟨j, hj⟩ : ∃ j, N - q = j + 1 := ⟨N - q - 1, by omega⟩
      rw [hj, List.range_succ_eq_map, List.map_cons]
      show P (q + 0) = .n a c
      rw [Nat.add_zero, h5]
    · rw [if_neg (fun z => hs ((mem_stret hb (by omega) he).mp z))]
      obtain ⟨r, hr, ha1, hc1⟩ := mid hb he ha hH hs
      have hqr : q < r := Nat.lt_of_mul_lt_mul_right (show q * b < r * b by omega)
      have hA := abv_size a q hb (by omega) (.inl ⟨r, hr⟩) ha1
      rw [hr, cl_mul hb] at hA
      have hrN : cl (r * b) b ≤ cl (q * b + (a.size + c.size)) b := cl_mono (by omega)
      rw [cl_mul hb] at hrN
      have i1 := fill_abv (P := P) hb a q (by omega) (.inl ⟨r, hr⟩) ha1 (fun k k1 k2 k3 => by
        have h3 := hP k k1 k2 (by omega)
        have hkq : q * b ≤ k * b := Nat.mul_le_mul_right b k1
        rw [part_n, if_neg (by omega), if_pos (by omega)] at h3
        exact h3) N (by rw [hr, cl_mul hb]; omega)
      rw [hr] at hc1
      have i2 := fill_abv (P := P) hb c r (by omega) (by rw [← hr, Nat.add_assoc]; exact ha) hc1 (fun k k1 k2 k3 => by
        have h3 := hP k (by omega) k2 (by omega)
        have hkr : r * b ≤ k * b := Nat.mul_le_mul_right b k1
        rw [part_n, if_neg (by omega), if_neg (by omega), if_pos (by omega)] at h3
        rw [show k * b - q * b - a.size = k * b - r * b by omega, show min (k * b + b) m - q * b - a.size = min (k * b + b) m - r * b by omega] at h3
        exact h3) N (by rw [← hr, Nat.add_assoc]; exact hN)
      rw [fill_n, i1, hr, hA]
      congr 1
      rw [← List.map_drop]
      have e : (List.range (N - q)).drop (r - q) = (List.range (N - r)).map fun k => r - q + k := by
        rw [show N - q = (r - q) + (N - r) by omega, List.range_add, List.drop_left' (by rw [List.length_range])]
      rw [e, List.map_map]
      rw [show ((fun k => P (q + k)) ∘ fun k => r - q + k) = fun k => P (r + k) from funext fun k => by show P (q + (r - q + k)) = _; congr 1; omega]
      exact i2
theorem cut_glue {s : Tb} {c : Nat} (hg : gT s) (h1 : 2 ≤ c) (h2 : c ≤ s.length) (hc : cutB s c = true) : s = lglue (s.take (c - 1)) (behP s c) := by
  obtain ⟨m1, m2⟩ := cut_mul hc h1 h2
  have hx : gT (s.take (c - 1)) := gT_take hg (by omega)
  have hxl : (s.take (c - 1)).length = c - 1 := by rw [List.length_take]; omega
  have hy := (gT_beh hg h1 h2 hc).1
  have hyl : (behP s c).length = (s.length + 1) / c - 1 := beh_len
  have hn := glue_n (s.take (c - 1)) (behP s c)
  have hprod : ((s.take (c - 1)).length + 1) * ((behP s c).length + 1) = s.length + 1 := by
    rw [hxl, hyl, show c - 1 + 1 = c by omega, show (s.length + 1) / c - 1 + 1 = (s.length + 1) / c by omega, Nat.mul_comm]
    exact m1
  have hl : s.length = (lglue (s.take (c - 1)) (behP s c)).length := by omega
  have hent : ∀ m, 1 ≤ m → m ≤ s.length + 1 → ent s m = ent (lglue (s.take (c - 1)) (behP s c)) m := fun m k1 k2 => by
    by_cases hm1 : m = 1
    · subst hm1; rfl
    rw [ent_glue hx k1 (by omega)]
    obtain ⟨hw, he⟩ := (cut_iff.mp hc).2 m (by omega) k2
    have hs := gT_ent hg k1 k2
    have hf := fill_abv (b := c) (m := m) (P := fun k => ent s (min (k * c + c) m - k * c)) (by omega) (ent s m) 0 (by omega) (.inr (by omega)) (wst_H (by omega) hw) (fun k _ k4 _ => by
      rw [wst_eq, List.all_eq_true] at hw
      have hk : k < cl m c := by
        rcases Nat.lt_or_ge k (cl m c) with z | z
        · exact z
        · have := cl_ge (by omega : 1 ≤ c) z
          omega
      have := of_decide_eq_true (hw k (List.mem_range.mpr hk))
      rw [Nat.zero_mul, Nat.sub_zero, Nat.sub_zero]
      exact this) (cl m c) (by rw [Nat.zero_mul, Nat.zero_add, hs]; exact Nat.le_refl _)
    rw [Nat.zero_mul, Nat.sub_zero] at hf
    have hrow : (List.range (cl m c)).map (fun k => ent s (min ((0 + k) * c + c) m - (0 + k) * c)) = press (s.take (c - 1)) (List.replicate m .o) := by
      have hcc : (s.take (c - 1)).length + 1 = c := by omega
      refine List.ext_getElem? fun k => ?_
      by_cases hk : k < cl m c
      · have h3 := cl_lt (by omega : 1 ≤ c) hk
        rw [press_rep hx (by rw [hcc]; exact hk), List.getElem?_map, List.getElem?_range hk, hcc]
        show some (ent s (min ((0 + k) * c + c) m - (0 + k) * c)) = some _
        rw [Nat.zero_add]
        congr 1
        rw [show min (k * c + c) m - k * c = min c (m - k * c) by omega]
        unfold ent
        by_cases h4 : min c (m - k * c) = 1
        · rw [if_pos h4, if_pos h4]
        · rw [if_neg h4, if_neg h4, List.getD_eq_getElem?_getD, List.getD_eq_getElem?_getD, List.getElem?_take, if_pos (by omega)]
      · rw [List.getElem?_eq_none (by rw [List.length_map, List.length_range]; omega), List.getElem?_eq_none (by rw [press_len, List.length_replicate, hcc]; omega)]
    rw [hrow] at hf
    have hab : abv (ent s m) (stret m c) 0 = ent (behP s c) (cl m c) := by
      show abvT s c m = _
      have hq := cl_pos (b := c) (m := m) (by omega) (by omega)
      have hqc : cl m c ≤ (s.length + 1) / c := by
        have : cl m c ≤ cl ((s.length + 1) / c * c) c := cl_mono (by omega)
        rw [cl_mul (by omega)] at this
        exact this
      unfold ent
      by_cases h5 : cl m c = 1
      · rw [if_pos h5]
        have h6 := abvT_size hg (by omega : 1 ≤ c) (by omega : 1 ≤ m) k2 hw
        rw [h5] at h6
        cases q : abvT s c m with
        | o => rfl
        | n x y =>
          rw [q] at h6
          simp only [Sh.size] at h6
          have := size_pos x
          have := size_pos y
          omega
      · rw [if_neg h5, List.getD_eq_getElem?_getD, beh_get (by omega), show cl m c - 2 + 2 = cl m c by omega]
        have hm2 : cl m c * c ≤ (s.length + 1) / c * c := Nat.mul_le_mul_right _ hqc
        have hm3 : 2 * 1 ≤ cl m c * c := Nat.mul_le_mul (by omega) (by omega)
        have he2 := ((cut_iff.mp hc).2 (cl m c * c) (by omega) (by omega)).2
        rw [cl_mul (by omega)] at he2
        show abvT s c m = abvT s c (cl m c * c)
        rw [← he, ← he2]
    rw [hab] at hf
    rw [← hf]
    unfold chk
    rw [press_len, List.length_replicate, show (s.take (c - 1)).length + 1 = c by omega]
  refine List.ext_getElem hl fun k k1 k2 => ?_
  have h3 := hent (k + 2) (by omega) (by omega)
  unfold ent at h3
  rw [if_neg (by omega), if_neg (by omega), Nat.add_sub_cancel, List.getD_eq_getElem?_getD, List.getD_eq_getElem?_getD, List.getElem?_eq_getElem k1, List.getElem?_eq_getElem k2] at h3
  exact h3
end Lh
end
section
set_option Elab.async false
set_option linter.all false
/-! primes of what is glued -/
namespace Lh
theorem ext_ent {s t : Tb} (hl : s.length = t.length) (h : ∀ m, 2 ≤ m → m ≤ s.length + 1 → ent s m = ent t m) : s = t := by
  refine List.ext_getElem hl fun k k1 k2 => ?_
  have h3 := h (k + 2) (by omega) (by omega)
  unfold ent at h3
  rw [if_neg (by omega), if_neg (by omega), Nat.add_sub_cancel, List.getD_eq_getElem?_getD, List.getD_eq_getElem?_getD, List.getElem?_eq_getElem k1, List.getElem?_eq_getElem k2] at h3
  exact h3
theorem glue_assoc {x y z : Tb} (hx : gT x) (hy : gT y) (hz : gT z) (hxy : gT (lglue x y)) (hyz : gT (lglue y z)) : lglue (lglue x y) z = lglue x (lglue y z) := by
  have n1 := glue_n x y
  have n2 := glue_n y z
  have n3 := glue_n (lglue x y) z
  have n4 := glue_n x (lglue y z)
  rw [n1, Nat.mul_assoc] at n3
  rw [n2] at n4
  refine ext_ent (by omega) fun m h1 h2 => ?_
  have hm : m ≤ (x.length + 1) * ((y.length + 1) * (z.length + 1)) := by omega
  rw [ent_glue hxy (by omega) (by rw [n1, Nat.mul_assoc]; exact hm), ent_glue hx (by omega) (by rw [n2]; exact hm), glue_press hx hy]
  obtain ⟨g1, g2⟩ := glue_row (s := x) (t := lglue y z) hx (m := m) (by omega) (by rw [n2]; exact hm)
  exact (chk_glue hy hz g1 (by rw [n2] at g2; exact g2)).symm
/-- two parts of a tree do not cross -/
theorem no_cross : ∀ (s : Sh) (i j i' j' : Nat) (u v : Sh), part s i j = some u → part s i' j' = some v → i < i' → i' < j → j < j' → False
  | .o, i, j, i', j', u, v, h1, h2, k1, k2, k3 => by
    have a := part_lt _ _ _ _ h1
    have b := part_lt _ _ _ _ h2
    simp only [Sh.size] at a b
    omega
  | .n a c, i, j, i', j', u, v, h1, h2, k1, k2, k3 => by
    have b2 := part_lt _ _ _ _ h2
    simp only [Sh.size] at b2
    rw [part_n] at h1 h2
    rw [if_neg (by omega)] at h1 h2
    by_cases c1 : j ≤ a.size
    · rw [if_pos c1] at h1
      by_cases c2 : j' ≤ a.size
      · rw [if_pos c2] at h2
        exact no_cross a i j i' j' u v h1 h2 k1 k2 k3
      · rw [if_neg c2] at h2
        by_cases c3 : a.size ≤ i'
        · omega
        · rw [if_neg c3] at h2
          cases h2
    · rw [if_neg c1] at h1
      by_cases c3 : a.size ≤ i
      · rw [if_pos c3] at h1
        rw [if_neg (by omega), if_pos (by omega)] at h2
        exact no_cross c (i - a.size) (j - a.size) (i' - a.size) (j' - a.size) u v h1 h2 (by omega) (by omega) (by omega)
      · rw [if_neg c3] at h1
        cases h1
theorem wst_at {t : Tb} {b m k : Nat} (hw : wst t b m = true) (h : k < cl m b) : part (ent t m) (k * b) (min (k * b + b) m) = some (ent t (min (k * b + b) m - k * b)) := by
  rw [wst_eq, List.all_eq_true] at hw
  exact of_decide_eq_true (hw k (List.mem_range.mpr h))
theorem lt_cl {m b k : Nat} (hb : 1 ≤ b) (h : k * b < m) : k < cl m b := by
  rcases Nat.lt_or_ge k (cl m b) with z | z
  · exact z
  · have := cl_ge hb z
    omega
/-- the lesser cut divides the greater -/
theorem cut_dvd {u : Tb} {d e : Nat} (hu : gT u) (h1 : 2 ≤ d) (h2 : d < e) (h3 : e ≤ u.length) (hd : cutB u d = true) (he : cutB u e = true) : d ∣ e := by
  have hne : e ∣ u.length + 1 := Nat.dvd_of_mod_eq_zero (cut_iff.mp he).1
  have hnd : d ∣ u.length + 1 := Nat.dvd_of_mod_eq_zero (cut_iff.mp hd).1
  have w1 := ((cut_iff.mp he).2 (u.length + 1) (by omega) (Nat.le_refl _)).1
  have w2 := ((cut_iff.mp hd).2 (u.length + 1) (by omega) (Nat.le_refl _)).1
  refine Nat.dvd_of_mod_eq_zero ?_
  by_cases hz : e % d = 0
  · exact hz
  · exfalso
    have q := Nat.div_add_mod e d
    have hm := Nat.mod_lt e (show d > 0 by omega)
    have hq : 1 ≤ e / d := (Nat.le_div_iff_mul_le (by omega)).mpr (by omega)
    rw [Nat.mul_comm] at q
    have hq1 : 1 * d ≤ e / d * d := Nat.mul_le_mul_right d hq
    have p1 := wst_at w1 (k := 0) (lt_cl (by omega) (by omega))
    have p2 := wst_at w2 (k := e / d) (lt_cl (by omega) (by omega))
    rw [Nat.zero_mul, Nat.zero_add] at p1
    refine no_cross _ _ _ _ _ _ _ p1 p2 (by omega) (by omega) ?_
    generalize e / d = k at q hq hq1 p2 ⊢
    omega
theorem ent_take {t : Tb} {e m : Nat} (h1 : 1 ≤ m) (h2 : m ≤ e) : ent (t.take (e - 1)) m = ent t m := by
  unfold ent
  by_cases h : m = 1
  · rw [if_pos h, if_pos h]
  · rw [if_neg h, if_neg h, List.getD_eq_getElem?_getD, List.getD_eq_getElem?_getD, List.getElem?_take, if_pos (by omega)]
/-- a cut of the beginning -/
theorem cut_take {t : Tb} {d e : Nat} (hd2 : 2 ≤ d) (h1 : d ∣ e) (h2 : d < e) (h3 : e ≤ t.length + 1) (hc : cutB t d = true) : cutB (t.take (e - 1)) d = true := by
  have hl : (t.take (e - 1)).length = e - 1 := by rw [List.length_take]; omega
  refine cut_iff.mpr ⟨by rw [hl, show e - 1 + 1 = e by omega]; exact Nat.mod_eq_zero_of_dvd h1, fun m k1 k2 => ?_⟩
  rw [hl] at k2
  obtain ⟨w1, w2⟩ := (cut_iff.mp hc).2 m k1 (by omega)
  have hf := fst_le (b := d) (m := m) hd2 k1
  have hf2 := fst_two (b := d) (q := cl m d) hd2 (cl_pos (by omega) (by omega))
  refine ⟨?_, ?_⟩
  · rw [wst_eq, List.all_eq_true]
    intro k hk
    rw [List.mem_range] at hk
    have h4 := cl_lt (by omega : 1 ≤ d) hk
    unfold wstK
    rw [decide_eq_true_iff, ent_take (by omega) (by omega), ent_take (by omega) (by omega)]
    exact wst_at w1 hk
  · unfold abvT at w2 ⊢
    rw [ent_take (by omega) (by omega), ent_take (by omega) (by omega)]
    exact w2
theorem mem_cuts_of {t : Tb} {b : Nat} (h1 : 2 ≤ b) (h2 : b ≤ t.length) (h3 : cutB t b = true) : b ∈ cuts t := by
  unfold cuts from2
  rw [List.mem_filter]
  exact ⟨List.mem_map.mpr ⟨b - 2, List.mem_range.mpr (by omega), by omega⟩, h3⟩
/-- the least cut comes first -/
theorem cuts_head {t : Tb} {b : Nat} (h1 : 2 ≤ b) (h2 : b ≤ t.length) (h3 : cutB t b = true) (h4 : ∀ d, 2 ≤ d → d < b → cutB t d = false) : ∃ bs, cuts t = b :: bs := by
  have := first_cut (t := t) (n0 := b - 2) (by omega) (by rw [show b - 2 + 2 = b by omega]; exact h3) (fun j hj => h4 (j + 2) (by omega) (by omega))
  rw [show b - 2 + 2 = b by omega] at this
  exact this
theorem cuts_least {t : Tb} {b : Nat} {bs : List Nat} (h : cuts t = b :: bs) {d : Nat} (h1 : 2 ≤ d) (h2 : d < b) : cutB t d = false := by
  cases q : cutB t d with
  | false => rfl
  | true =>
    exfalso
    obtain ⟨m1, m2, m3⟩ := mem_cuts (t := t) (b := b) (by rw [h]; exact List.mem_cons_self)
    rcases least (fun i => !cutB t (i + 2)) (t.length - 1) with ⟨n0, k1, k2, k3⟩ | hall
    · obtain ⟨bs', e⟩ := first_cut k1 (by simpa using k2) (fun j hj => by simpa using k3 j hj)
      rw [e] at h
      have eb : n0 + 2 = b := (List.cons.inj h).1
      have := k3 (d - 2) (by omega)
      rw [show d - 2 + 2 = d by omega, q] at this
      cases this
    · have := hall (d - 2) (by omega)
      rw [show d - 2 + 2 = d by omega, q] at this
      cases this
theorem primes_cut {t : Tb} {b : Nat} {bs : List Nat} (hg : gT t) (h : cuts t = b :: bs) : primes t = t.take (b - 1) :: primes (behP t b) := by
  obtain ⟨m1, m2, m3⟩ := mem_cuts (t := t) (b := b) (by rw [h]; exact List.mem_cons_self)
  obtain ⟨g1, g2⟩ := gT_beh hg m1 m2 m3
  rw [← fuel_primes (k := t.length + 1) hg (by omega)]
  show (match cuts t with
    | [] => [t]
    | b :: _ => t.take (b - 1) :: primesF t.length (behP t b)) = _
  rw [h]
  show _ :: primesF t.length (behP t b) = _
  rw [fuel_primes g1 (by omega)]
theorem primes_nil {t : Tb} (hg : gT t) (h : cuts t = []) : primes t = [t] := by
  rw [← fuel_primes (k := t.length + 1) hg (by omega)]
  show (match cuts t with
    | [] => [t]
    | b :: _ => t.take (b - 1) :: primesF t.length (behP t b)) = _
  rw [h]
theorem primes_glue : ∀ (n : Nat) (s t : Tb), s.length ≤ n → gT s → gT t → gT (lglue s t) → primes (lglue s t) = primes s ++ primes t
  | 0, s, t, h, hs, _, _ => by
    have := gT_pos hs
    omega
  | n + 1, s, t, h, hs, ht, hg => by
    obtain ⟨g1, g2, g3, g4⟩ := glue_cut hs ht hg
    have hs1 := gT_pos hs
    have low : ∀ d, 2 ≤ d → d < s.length + 1 → cutB (lglue s t) d = true → cutB s d = true := fun d h1 h2 h3 => by
      have := cut_take (t := lglue s t) (d := d) (e := s.length + 1) h1 (cut_dvd hg h1 h2 g4 h3 g1) h2 (by omega) h3
      rw [g3] at this
      exact this
    cases q : cuts s with
    | nil =>
      obtain ⟨bs, e⟩ := cuts_head (by omega) g4 g1 (fun d h1 h2 => by
        cases q2 : cutB (lglue s t) d with
        | false => rfl
        | true =>
          have := mem_cuts_of h1 (by omega) (low d h1 h2 q2)
          rw [q] at this
          cases this)
      rw [primes_cut hg e, g2, g3, primes_nil hs q]
      rfl
    | cons c cs =>
      obtain ⟨m1, m2, m3⟩ := mem_cuts (t := s) (b := c) (by rw [q]; exact List.mem_cons_self)
      obtain ⟨b1, b2⟩ := gT_beh hs m1 m2 m3
      have hx : gT (s.take (c - 1)) := gT_take hs (by omega)
      have hxl : (s.take (c - 1)).length + 1 = c := by rw [List.length_take]; omega
      have es := cut_glue hs m1 m2 m3
      -- the rest glued is smaller
      have hyt : gT (lglue (behP s c) t) := by
        refine gT_glue b1 ht ?_
        have h1 := glue_n s t
        have h2 := hg.2
        have h3 : ((behP s c).length + 1) * (t.length + 1) ≤ (s.length + 1) * (t.length + 1) := Nat.mul_le_mul_right _ (by omega)
        omega
      have ea : lglue s t = lglue (s.take (c - 1)) (lglue (behP s c) t) := by
        conv => lhs; rw [es]
        exact glue_assoc hx b1 ht (by rw [← es]; exact hs) hyt
      have hg' := hg
      rw [ea] at hg'
      obtain ⟨f1, f2, f3, f4⟩ := glue_cut hx hyt hg'
      rw [hxl, ← ea] at f1 f2 f3
      rw [hxl, ← ea] at f4
      obtain ⟨bs, e⟩ := cuts_head m1 f4 f1 (fun d h1 h2 => by
        cases q2 : cutB (lglue s t) d with
        | false => rfl
        | true =>
          have := low d h1 (by omega) q2
          rw [cuts_least q h1 h2] at this
          cases this)
      rw [primes_cut hg e, f2, f3, primes_cut hs q, primes_glue n (behP s c) t (by omega) b1 ht hyt]
      rfl
end Lh
end
section
set_option Elab.async false
set_option linter.all false
/-! the words are alike -/
namespace Lh
theorem prime_prime : ∀ (n : Nat) (t : Tb), t.length ≤ n → gT t → ∀ p ∈ primes t, cuts p = []
  | 0, t, h, hg, _, _ => by
    have := gT_pos hg
    omega
  | n + 1, t, h, hg, p, hp => by
    cases q : cuts t with
    | nil =>
      rw [primes_nil hg q] at hp
      rw [List.mem_singleton.mp hp]
      exact q
    | cons c cs =>
      obtain ⟨m1, m2, m3⟩ := mem_cuts (t := t) (b := c) (by rw [q]; exact List.mem_cons_self)
      obtain ⟨b1, b2⟩ := gT_beh hg m1 m2 m3
      have hx : gT (t.take (c - 1)) := gT_take hg (by omega)
      have hxl : (t.take (c - 1)).length + 1 = c := by rw [List.length_take]; omega
      rw [primes_cut hg q] at hp
      rcases List.mem_cons.mp hp with rfl | hp
      · cases q2 : cuts (t.take (c - 1)) with
        | nil => rfl
        | cons d ds =>
          exfalso
          obtain ⟨d1, d2, d3⟩ := mem_cuts (t := t.take (c - 1)) (b := d) (by rw [q2]; exact List.mem_cons_self)
          have et := cut_glue hg m1 m2 m3
          have ex := cut_glue hx d1 d2 d3
          obtain ⟨x1, x2⟩ := gT_beh hx d1 d2 d3
          have hn := glue_n (t.take (c - 1)) (behP t c)
          rw [← et] at hn
          have h12 := hg.2
          have hyz : gT (lglue (behP (t.take (c - 1)) d) (behP t c)) := by
            refine gT_glue x1 b1 ?_
            have h3 : ((behP (t.take (c - 1)) d).length + 1) * ((behP t c).length + 1) ≤ ((t.take (c - 1)).length + 1) * ((behP t c).length + 1) := Nat.mul_le_mul_right _ (by omega)
            omega
          have hxx : gT ((t.take (c - 1)).take (d - 1)) := gT_take hx (by omega)
          have hdl : ((t.take (c - 1)).take (d - 1)).length + 1 = d := by rw [List.length_take]; omega
          have ea : t = lglue ((t.take (c - 1)).take (d - 1)) (lglue (behP (t.take (c - 1)) d) (behP t c)) := by
            conv => lhs; rw [et]; lhs; rw [ex]
            exact glue_assoc hxx x1 b1 (by rw [← ex]; exact hx) hyz
          have hg' := hg
          rw [ea] at hg'
          have f1 := (glue_cut hxx hyz hg').1
          rw [hdl, ← ea] at f1
          rw [cuts_least q d1 (by omega)] at f1
          cases f1
      · exact prime_prime n (behP t c) (by omega) b1 p hp
/-- all of these are primes -/
def aP (l : List Tb) : Prop := gL l ∧ ∀ t ∈ l, cuts t = []
theorem aP_prims {ts : List Tb} (h : gL ts) : aP (prims ts) := ⟨gL_prims h, fun p hp => by
  obtain ⟨t, h1, h2⟩ := List.mem_flatMap.mp hp
  exact prime_prime t.length t (Nat.le_refl _) (h t h1) p h2⟩
theorem prims_aP : ∀ {l : List Tb}, aP l → prims l = l
  | [], _ => rfl
  | t :: l, h => by
    have ih := prims_aP (l := l) ⟨fun x hx => h.1 x (List.mem_cons_of_mem _ hx), fun x hx => h.2 x (List.mem_cons_of_mem _ hx)⟩
    unfold prims at ih ⊢
    rw [List.flatMap_cons, ih, primes_nil (h.1 t List.mem_cons_self) (h.2 t List.mem_cons_self)]
    rfl
theorem prims_app (a b : List Tb) : prims (a ++ b) = prims a ++ prims b := List.flatMap_append
theorem wrd_of {p v : Pl} (hp : gP p.ts p.rd) (hv : sP v) (h1 : ∀ i, (prp p).st i = (prp v).st i) (h2 : ∀ n, 1 ≤ n → shp p.st n = shp v.st n) : Wrd p v := ⟨hv, (plain_iff hp hv.1).mpr h1, h2⟩
theorem w1_ok (p : Pl) (a : Nat) (h : gQ p) (ha : a ≤ p.rd.length) : Wrd p (word1 p a) := by
  obtain ⟨⟨h1, h2, h3⟩, h4, h5, h6, h7⟩ := h
  have hne : p.rd.drop a ++ p.rd.take a ≠ [] := fun z => by
    have e := congrArg List.length z
    rw [List.length_append, List.length_drop, List.length_take, List.length_nil] at e
    exact h3 (List.length_eq_zero_iff.mp (by omega))
  have hAB : prims (p.rd.take a) ++ prims (p.rd.drop a) = prims p.rd := by rw [← prims_app, List.take_append_drop]
  refine wrd_of ⟨h1, h2, h3⟩ ⟨⟨gL_app h1 (gL_take h2), gL_app (gL_drop h2) (gL_take h2), hne⟩, by show (p.ts ++ p.rd.take a).length ≤ 80; rw [List.length_append, List.length_take]; omega, by show (p.rd.drop a ++ p.rd.take a).length ≤ 80; rw [List.length_append, List.length_drop, List.length_take]; omega⟩ (fun i => ?_) (fun n _ => shp_congr (fun i => (st_w1 p.ts p.rd a h3 i).symm) n)
  have h8 := st_w1' (prims p.ts) (prims (p.rd.take a)) (prims (p.rd.drop a)) (by rw [hAB]; exact prims_ne h2 h3) i
  rw [hAB] at h8
  show _ = (Pl.mk (prims (p.ts ++ p.rd.take a)) (prims (p.rd.drop a ++ p.rd.take a))).st i
  rw [prims_app, prims_app]
  exact h8.symm
theorem w2_ok (p : Pl) (h : gQ p) : Wrd p (word2 p) := by
  obtain ⟨⟨h1, h2, h3⟩, h4, h5, h6, h7⟩ := h
  refine wrd_of ⟨h1, h2, h3⟩ ⟨⟨h1, gL_app h2 h2, List.append_ne_nil_of_left_ne_nil h3 _⟩, by show p.ts.length ≤ 80; omega, by show (p.rd ++ p.rd).length ≤ 80; rw [List.length_append]; omega⟩ (fun i => ?_) (fun n _ => shp_congr (fun i => (st_w2 p.ts p.rd h3 i).symm) n)
  show _ = (Pl.mk (prims p.ts) (prims (p.rd ++ p.rd))).st i
  rw [prims_app]
  exact (st_w2 _ _ (prims_ne h2 h3) i).symm
theorem w3_ok (p : Pl) (h : gQ p) : Wrd p (word3 p) := by
  obtain ⟨⟨h1, h2, h3⟩, h4, h5, h6, h7⟩ := h
  refine wrd_of ⟨h1, h2, h3⟩ ⟨⟨gL_app h1 h2, h2, h3⟩, by show (p.ts ++ p.rd).length ≤ 80; rw [List.length_append]; omega, by show p.rd.length ≤ 80; omega⟩ (fun i => ?_) (fun n _ => shp_congr (fun i => (st_w3 p.ts p.rd h3 i).symm) n)
  show _ = (Pl.mk (prims (p.ts ++ p.rd)) (prims p.rd)).st i
  rw [prims_app]
  exact (st_w3 _ _ (prims_ne h2 h3) i).symm
theorem w4_ok (p : Pl) (h : gQ p) (h2l : p.rd.length = 2) (h13 : ((p.rd.getD 0 []).length + 1) * ((p.rd.getD 1 []).length + 1) < 13) : Wrd p (word4 p) := by
  obtain ⟨⟨h1, h2, h3⟩, h4, h5, h6, h7⟩ := h
  obtain ⟨f, r⟩ := p
  dsimp only at h1 h2 h3 h4 h5 h6 h7 h2l h13
  match r, h2l with
  | [a, b], _ =>
    have ha := h2 a List.mem_cons_self
    have hb := h2 b (List.mem_cons_of_mem _ List.mem_cons_self)
    have h13' : (a.length + 1) * (b.length + 1) < 13 := h13
    have hg := gT_glue ha hb (by omega)
    have e : word4 ⟨f, [a, b]⟩ = ⟨f, [lglue a b]⟩ := rfl
    rw [e]
    refine wrd_of ⟨h1, h2, h3⟩ ⟨⟨h1, fun t ht => by rw [List.mem_singleton.mp ht]; exact hg, fun z => nomatch z⟩, by show f.length ≤ 80; omega, by show 1 ≤ 80; omega⟩ (fun i => ?_) (fun n hn => shp_w4 h1 ha hb hg hn)
    have ep : prims [lglue a b] = prims [a, b] := by
      unfold prims
      simp only [List.flatMap_cons, List.flatMap_nil, List.append_nil]
      exact primes_glue a.length a b (Nat.le_refl _) ha hb hg
    show _ = (Pl.mk (prims f) (prims [lglue a b])).st i
    rw [ep]
end Lh
end
section
set_option Elab.async false
set_option linter.all false
/-! plans that begin otherwise lump otherwise -/
namespace Lh
theorem rows_app (x : Nat → Tb) (row : List Sh) : ∀ k, rows x row (k + 1) = rows (fun i => x (i + 1)) (press (x 0) row) k
  | 0 => rfl
  | k + 1 => by
    show press (x (k + 1)) (rows x row (k + 1)) = press (x (k + 1)) (rows (fun i => x (i + 1)) (press (x 0) row) k)
    rw [rows_app x row k]
theorem rows_nat {x : Nat → Tb} (hx : ∀ i, gT (x i)) (row : List Sh) : ∀ k, rows x row k = sub (rows x (List.replicate row.length .o) k) row
  | 0 => (sub_o _ _ rfl).symm
  | k + 1 => by
    show press (x k) (rows x row k) = sub (press (x k) _) row
    rw [rows_nat hx row k, press_sub (hx k)]
theorem shp_step {x : Nat → Tb} (hx : ∀ i, gT (x i)) {m : Nat} (hm : 1 ≤ m) : shp x m = fill (shp (fun i => x (i + 1)) (cl m ((x 0).length + 1))) (press (x 0) (List.replicate m .o)) := by
  have h1 := rows_last hx hm (k := m + 1) (by omega)
  have hq := cl_pos (b := (x 0).length + 1) (m := m) (by omega) hm
  have hle := cl_le (b := (x 0).length + 1) (m := m) (by omega)
  rw [rows_app, rows_nat (fun i => hx (i + 1)), press_len, List.length_replicate, rows_last (fun i => hx (i + 1)) hq hle] at h1
  exact (List.cons.inj h1).1.symm
theorem shp_pcs {x : Nat → Tb} (hx : ∀ i, gT (x i)) {m : Nat} (hm : 1 ≤ m) : (∀ k, k < cl m ((x 0).length + 1) → part (shp x m) (k * ((x 0).length + 1)) (min (k * ((x 0).length + 1) + ((x 0).length + 1)) m) = some (ent (x 0) (min ((x 0).length + 1) (m - k * ((x 0).length + 1))))) ∧ abv (shp x m) (stret m ((x 0).length + 1)) 0 = shp (fun i => x (i + 1)) (cl m ((x 0).length + 1)) := by
  have hq := cl_pos (b := (x 0).length + 1) (m := m) (by omega) hm
  have hs := shp_size (fun i => hx (i + 1)) hq
  have hp := pieces (b := (x 0).length + 1) (m := m) (by omega) (shp (fun i => x (i + 1)) (cl m ((x 0).length + 1))) 0 (press (x 0) (List.replicate m .o)) (by
    rw [hs]
    refine glue_pcs (t := List.replicate m .o) (hx 0) hm ?_
    rw [List.length_replicate]
    have : 1 * (m + 1) ≤ ((x 0).length + 1) * (m + 1) := Nat.mul_le_mul_right _ (by omega)
    omega)
  rw [← shp_step hx hm, hs] at hp
  obtain ⟨_, h2, h3⟩ := hp
  rw [Nat.zero_mul] at h2 h3
  refine ⟨fun k hk => ?_, h3⟩
  have h4 := h2 k _ hk (press_rep (hx 0) hk)
  rw [Nat.zero_add, Nat.sub_zero, Nat.sub_zero] at h4
  exact h4
theorem shp_low {x : Nat → Tb} (hx : ∀ i, gT (x i)) {m : Nat} (hm : 1 ≤ m) (h : m ≤ (x 0).length + 1) : shp x m = ent (x 0) m := by
  have h1 := (shp_pcs hx hm).1 0 (cl_pos (by omega) hm)
  rw [Nat.zero_mul, Nat.zero_add, Nat.sub_zero, Nat.min_eq_right h] at h1
  have h2 := part_whole (shp x m)
  rw [shp_size hx hm, h1] at h2
  exact (Option.some.inj h2).symm
theorem unl_le {x y : Nat → Tb} (hx : ∀ i, gT (x i)) (hy : ∀ i, gT (y i)) (hc : cuts (y 0) = []) (hne : x 0 ≠ y 0) (hle : (x 0).length ≤ (y 0).length) (hall : ∀ m, 2 ≤ m → m ≤ 13 → shp x m = shp y m) : False := by
  have hx1 := gT_pos (hx 0)
  have hyb : (y 0).length ≤ 11 := (hy 0).2
  have hent : ∀ m, 1 ≤ m → m ≤ (x 0).length + 1 → ent (x 0) m = ent (y 0) m := fun m h1 h2 => by
    by_cases h3 : m = 1
    · subst h3; rfl
    · rw [← shp_low hx h1 h2, ← shp_low hy h1 (by omega)]
      exact hall m (by omega) (by omega)
  rcases Nat.eq_or_lt_of_le hle with he | hlt
  · refine hne (List.ext_getElem he fun k k1 k2 => ?_)
    have h3 := hent (k + 2) (by omega) (by omega)
    unfold ent at h3
    rw [if_neg (by omega), if_neg (by omega), Nat.add_sub_cancel, List.getD_eq_getElem?_getD, List.getD_eq_getElem?_getD, List.getElem?_eq_getElem k1, List.getElem?_eq_getElem k2] at h3
    exact h3
  · have hb : 2 ≤ (x 0).length + 1 := by omega
    by_cases hd : ((y 0).length + 1) % ((x 0).length + 1) = 0
    · have hcut : cutB (y 0) ((x 0).length + 1) = true := by
        have key : ∀ m, 2 ≤ m → m ≤ (y 0).length + 1 → wst (y 0) ((x 0).length + 1) m = true ∧ abvT (y 0) ((x 0).length + 1) m = shp (fun i => x (i + 1)) (cl m ((x 0).length + 1)) := fun m h1 h2 => by
          have e : shp x m = ent (y 0) m := by rw [hall m h1 (by omega), shp_low hy (by omega) h2]
          obtain ⟨p1, p2⟩ := shp_pcs hx (m := m) (by omega)
          rw [e] at p1 p2
          refine ⟨?_, p2⟩
          rw [wst_eq, List.all_eq_true]
          intro k hk
          rw [List.mem_range] at hk
          have h3 := cl_lt (by omega) hk
          unfold wstK
          rw [decide_eq_true_iff, p1 k hk, hent _ (by omega) (by omega)]
          congr 2
          omega
        refine cut_iff.mpr ⟨hd, fun m h1 h2 => ?_⟩
        obtain ⟨k1, k2⟩ := key m h1 h2
        have f1 := fst_le (b := (x 0).length + 1) (m := m) hb h1
        have f2 := fst_two (b := (x 0).length + 1) (q := cl m ((x 0).length + 1)) hb (cl_pos (by omega) (by omega))
        rw [k2, (key _ f2 (by omega)).2, cl_fst hb (cl_pos (by omega) (by omega))]
        exact ⟨k1, rfl⟩
      have := mem_cuts_of hb (by omega) hcut
      rw [hc] at this
      cases this
    · have p1 := (shp_pcs hy (m := (y 0).length + 1 + 1) (by omega)).1 0 (cl_pos (by omega) (by omega))
      have q := Nat.div_add_mod ((y 0).length + 1) ((x 0).length + 1)
      have hm := Nat.mod_lt ((y 0).length + 1) (show (x 0).length + 1 > 0 by omega)
      have hq : 1 ≤ ((y 0).length + 1) / ((x 0).length + 1) := (Nat.le_div_iff_mul_le (by omega)).mpr (by omega)
      rw [Nat.mul_comm] at q
      have hq1 := Nat.mul_le_mul_right ((x 0).length + 1) hq
      have p2 := (shp_pcs hx (m := (y 0).length + 1 + 1) (by omega)).1 (((y 0).length + 1) / ((x 0).length + 1)) (lt_cl (by omega) (by omega))
      rw [hall _ (by omega) (by omega)] at p2
      rw [Nat.zero_mul, Nat.zero_add] at p1
      refine no_cross _ _ _ _ _ _ _ p1 p2 (by omega) (by omega) ?_
      generalize ((y 0).length + 1) / ((x 0).length + 1) = k at q hq hq1 p2 ⊢
      omega
theorem unl_ex {p q : Pl} (hp : ∀ i, gT (p.st i)) (hq : ∀ i, gT (q.st i)) (cp : cuts (p.st 0) = []) (cq : cuts (q.st 0) = []) (hne : p.st 0 ≠ q.st 0) : ∃ m, Unl p q m := by
  rcases least (fun i => decide (shp p.st (i + 2) = shp q.st (i + 2))) 12 with ⟨n, h1, h2, h3⟩ | hall
  · refine ⟨n + 2, by omega, by omega, fun i i1 i2 => ?_, of_decide_eq_false h2⟩
    have := of_decide_eq_true (h3 (i - 2) (by omega))
    rw [show i - 2 + 2 = i by omega] at this
    exact this
  · exfalso
    have hal : ∀ m, 2 ≤ m → m ≤ 13 → shp p.st m = shp q.st m := fun m m1 m2 => by
      have := of_decide_eq_true (hall (m - 2) (by omega))
      rw [show m - 2 + 2 = m by omega] at this
      exact this
    rcases Nat.le_total (p.st 0).length (q.st 0).length with z | z
    · exact unl_le hp hq cq hne z hal
    · exact unl_le hq hp cp (fun e => hne e.symm) z fun m m1 m2 => (hal m m1 m2).symm
end Lh
end
section
set_option Elab.async false
set_option linter.all false
/-! where two plans part -/
namespace Lh
theorem primes_pow : ∀ (n : Nat) (t : Tb), t.length ≤ n → gT t → 2 ^ (primes t).length ≤ t.length + 1
  | 0, t, h, hg => by
    have := gT_pos hg
    omega
  | n + 1, t, h, hg => by
    have hp := gT_pos hg
    cases q : cuts t with
    | nil =>
      rw [primes_nil hg q]
      show 2 ^ 1 ≤ _
      omega
    | cons c cs =>
      obtain ⟨m1, m2, m3⟩ := mem_cuts (t := t) (b := c) (by rw [q]; exact List.mem_cons_self)
      obtain ⟨b1, b2⟩ := gT_beh hg m1 m2 m3
      obtain ⟨k1, k2⟩ := cut_mul m3 m1 m2
      have ih := primes_pow n (behP t c) (by omega) b1
      have hl : (behP t c).length = (t.length + 1) / c - 1 := beh_len
      rw [primes_cut hg q, List.length_cons, Nat.pow_succ]
      generalize (t.length + 1) / c = d at k1 k2 hl
      have h2 : d * 2 ≤ d * c := Nat.mul_le_mul_left d m1
      omega
theorem prims_few {l : List Tb} {k : Nat} : (∀ t ∈ l, gT t ∧ t.length + 1 < 2 ^ (k + 1)) → (prims l).length ≤ k * l.length := by
  induction l with
  | nil => intro _; exact Nat.zero_le _
  | cons t l ih =>
    intro h
    have h1 := ih fun x hx => h x (List.mem_cons_of_mem _ hx)
    obtain ⟨g, h2⟩ := h t List.mem_cons_self
    have h3 := primes_pow t.length t (Nat.le_refl _) g
    have h4 : (primes t).length < k + 1 := (Nat.pow_lt_pow_iff_right (by decide : 1 < 2)).mp (Nat.lt_of_le_of_lt h3 h2)
    unfold prims at h1 ⊢
    rw [List.flatMap_cons, List.length_append, List.length_cons, Nat.mul_add, Nat.mul_one]
    omega
theorem gQ_few {p : Pl} (h : gQ p) : (prims p.ts).length ≤ 3 ∧ (prims p.rd).length ≤ 6 := by
  obtain ⟨⟨h1, h2, h3⟩, h4, h5, h6, h7⟩ := h
  have a1 := prims_few (l := p.ts) (k := 3) fun t ht => ⟨h1 t ht, by have := h5 t ht; show _ < 16; omega⟩
  have a2 := prims_few (l := p.rd) (k := 2) fun t ht => ⟨h2 t ht, by have := h7 t ht; show _ < 8; omega⟩
  omega
theorem per_le {x : Nat → Tb} {s s' r : Nat} (h : per x s r) (hs : s ≤ s') : per x s' r := fun i hi => h i (by omega)
theorem dif_least {p q : Pl} (hp : gQ p) (hq : gQ q) (hne : p.plain ≠ q.plain) : ∃ n, n < 60 ∧ (∀ i, i < n → (prp p).st i = (prp q).st i) ∧ (prp p).st n ≠ (prp q).st n := by
  rcases least (fun i => decide ((prp p).st i = (prp q).st i)) 60 with ⟨n, h1, h2, h3⟩ | hall
  · exact ⟨n, h1, fun i hi => of_decide_eq_true (h3 i hi), of_decide_eq_false h2⟩
  · exfalso
    refine hne ((plain_iff hp.gp hq.gp).mpr fun i => ?_)
    have ha : ∀ i, i < 60 → (prp p).st i = (prp q).st i := fun i hi => of_decide_eq_true (hall i hi)
    obtain ⟨p1, p2⟩ := gQ_few hp
    obtain ⟨q1, q2⟩ := gQ_few hq
    have p0 : 0 < (prims p.rd).length := List.length_pos_iff.mpr (prims_ne hp.gp.2.1 hp.gp.2.2)
    have q0 : 0 < (prims q.rd).length := List.length_pos_iff.mpr (prims_ne hq.gp.2.1 hq.gp.2.2)
    have pp : per (prp p).st (prims p.ts).length (prims p.rd).length := per_st
    have qq : per (prp q).st (prims q.ts).length (prims q.rd).length := per_st
    have P : per (prp p).st 3 ((prims p.rd).length * (prims q.rd).length) := fun i hi => per_mul pp _ i (by omega)
    have Q : per (prp q).st 3 ((prims p.rd).length * (prims q.rd).length) := fun i hi => by
      rw [Nat.mul_comm]
      exact per_mul qq _ i (by omega)
    have hN : (prims p.rd).length * (prims q.rd).length ≤ 6 * 6 := Nat.mul_le_mul p2 q2
    have hN0 : 1 * 1 ≤ (prims p.rd).length * (prims q.rd).length := Nat.mul_le_mul p0 q0
    generalize (prims p.rd).length * (prims q.rd).length = N at P Q hN hN0
    by_cases hi : i < 60
    · exact ha i hi
    · have hd := Nat.mod_add_div (i - 3) N
      have hm := Nat.mod_lt (i - 3) (show N > 0 by omega)
      have e1 := per_mul P ((i - 3) / N) (3 + (i - 3) % N) (by omega)
      have e2 := per_mul Q ((i - 3) / N) (3 + (i - 3) % N) (by omega)
      rw [show 3 + (i - 3) % N + N * ((i - 3) / N) = i by omega] at e1 e2
      rw [e1, e2]
      exact ha _ (by omega)
theorem plist_len {p : Pl} (h : gP p.ts p.rd) (n : Nat) : (plist p n).length = n := by
  have hR : 0 < (prims p.rd).length := List.length_pos_iff.mpr (prims_ne h.2.1 h.2.2)
  unfold plist
  rw [List.length_take, List.length_append, flat_len]
  have h3 : n * 1 ≤ n * (prims p.rd).length := Nat.mul_le_mul_left _ hR
  omega
theorem take_iff {A B : List Tb} (hl : A.length = B.length) {k : Nat} (hk : k ≤ A.length) : A.take k = B.take k ↔ ∀ i, i < k → A.getD i [] = B.getD i [] := by
  constructor
  · intro h i hi
    rw [← getD_take A hi, ← getD_take B hi, h]
  · intro h
    refine ext_getD (by rw [List.length_take, List.length_take, hl]) fun i hi => ?_
    rw [List.length_take] at hi
    rw [getD_take A (by omega), getD_take B (by omega)]
    exact h i (by omega)
theorem comN_eq {A B : List Tb} (hl : A.length = B.length) {n : Nat} (hn : n < A.length) (h1 : ∀ i, i < n → A.getD i [] = B.getD i []) (h2 : A.getD n [] ≠ B.getD n []) : comN A B = n := by
  unfold comN
  rw [← hl, Nat.min_self]
  have e : (List.range A.length).filter (fun k => decide (A.take (k + 1) = B.take (k + 1))) = (List.range A.length).filter (fun k => decide (k < n)) := by
    refine List.filter_congr fun k hk => ?_
    rw [List.mem_range] at hk
    have h3 := take_iff hl (k := k + 1) (by omega)
    by_cases hkn : k < n
    · rw [decide_eq_true hkn]
      exact decide_eq_true (h3.mpr fun i hi => h1 i (by omega))
    · rw [decide_eq_false hkn]
      exact decide_eq_false fun z => h2 (h3.mp z n (by omega))
  rw [e, show A.length = n + (A.length - n) by omega, List.range_add, List.filter_append]
  have f1 : (List.range n).filter (fun k => decide (k < n)) = List.range n := List.filter_eq_self.mpr fun x hx => decide_eq_true (List.mem_range.mp hx)
  have f2 : ((List.range (A.length - n)).map (n + ·)).filter (fun k => decide (k < n)) = [] := List.filter_eq_nil_iff.mpr fun x hx z => by
    obtain ⟨k, _, rfl⟩ := List.mem_map.mp hx
    have := of_decide_eq_true z
    omega
  rw [f1, f2, List.append_nil, List.length_range]
theorem prodG_eq {l : List Tb} {p : Pl} : ∀ n, (∀ i, i < n → l.getD i [] = p.st i) → prodG l n = prodF p n
  | 0, _ => rfl
  | n + 1, h => by
    show prodG l n * ((l.getD n []).length + 1) = prodF p n * ((p.st n).length + 1)
    rw [prodG_eq n fun i hi => h i (by omega), h n (by omega)]
theorem aP_it {p : Pl} (h1 : aP p.ts) (h2 : aP p.rd) : ∀ k, aP (itR p k).ts ∧ aP (itR p k).rd
  | 0 => ⟨h1, h2⟩
  | k + 1 => by
    obtain ⟨h3, h4⟩ := aP_it h1 h2 k
    have e1 : (itR p (k + 1)).ts = (itR p k).ts.dropLast := rfl
    have e2 : (itR p (k + 1)).rd = (itR p k).rd.getLast?.toList ++ (itR p k).rd.dropLast := rfl
    rw [e1, e2]
    exact ⟨⟨fun t ht => h3.1 t (mem_dl ht), fun t ht => h3.2 t (mem_dl ht)⟩, ⟨fun t ht => h4.1 t (rot_mem ht), fun t ht => h4.2 t (rot_mem ht)⟩⟩
theorem aP_plain {p : Pl} (h : gP p.ts p.rd) : aP p.plain.ts ∧ aP p.plain.rd := by
  obtain ⟨J, _, e, _⟩ := plain_J p
  rw [e]
  obtain ⟨n, es, _⟩ := srd_pre (row := prims p.rd)
  have hr := aP_prims h.2.1
  refine aP_it (p := ⟨prims p.ts, srd (prims p.rd)⟩) (aP_prims h.1) ?_ J
  show aP (srd (prims p.rd))
  rw [es]
  exact ⟨fun t ht => hr.1 t (List.mem_of_mem_take ht), fun t ht => hr.2 t (List.mem_of_mem_take ht)⟩
theorem plain_plain {p : Pl} (h : gP p.ts p.rd) : p.plain.plain = p.plain := by
  obtain ⟨a1, a2⟩ := aP_plain h
  obtain ⟨c1, e1⟩ := plain_can h
  obtain ⟨c2, e2⟩ := plain_can (gP_plain h)
  refine can_uniq c2 c1 fun i => ?_
  rw [e2]
  show (Pl.mk (prims p.plain.ts) (prims p.plain.rd)).st i = _
  rw [prims_aP a1, prims_aP a2]
theorem sP_plain {p : Pl} (h : gQ p) : sP p.plain := by
  obtain ⟨f1, f2⟩ := gQ_few h
  obtain ⟨J, _, e, _⟩ := plain_J p
  have hg0 := gP_plain0 h.gp
  obtain ⟨g1, g2, g3⟩ := gP_it (p := ⟨prims p.ts, srd (prims p.rd)⟩) hg0 J
  obtain ⟨_, _, s3, _⟩ := prim_srd (prims_ne h.gp.2.1 h.gp.2.2)
  rw [← e] at g1 g2 g3
  have g2' : p.plain.ts.length ≤ (prims p.ts).length := g2
  have g3' : p.plain.rd.length = (srd (prims p.rd)).length := g3
  exact ⟨g1, by omega, by omega⟩
theorem aP_st {p : Pl} (hn : p.rd ≠ []) (h1 : aP p.ts) (h2 : aP p.rd) (i : Nat) : gT (p.st i) ∧ cuts (p.st i) = [] := by
  have hl : 0 < p.rd.length := List.length_pos_iff.mpr hn
  have g : ∀ (l : List Tb) (k : Nat), aP l → k < l.length → gT (l.getD k []) ∧ cuts (l.getD k []) = [] := fun l k h hk => by
    rw [List.getD_eq_getElem?_getD, List.getElem?_eq_getElem hk]
    exact ⟨h.1 _ (List.getElem_mem hk), h.2 _ (List.getElem_mem hk)⟩
  unfold Pl.st
  by_cases h : i < p.ts.length
  · rw [if_pos h]
    exact g _ _ h1 h
  · rw [if_neg h]
    exact g _ _ h2 (Nat.mod_lt _ hl)
theorem lbh_st {p : Pl} (hn : p.rd ≠ []) (n i : Nat) : (lbh p n).st i = p.st (n + i) := by
  obtain ⟨f, r⟩ := p
  dsimp only at hn
  have hl : 0 < r.length := List.length_pos_iff.mpr hn
  unfold lbh
  dsimp only
  by_cases hk : n ≤ f.length
  · rw [if_pos hk]
    have h1 := st_app (f.take n) (f.drop n) r (n + i) (by rw [List.length_take]; omega)
    rw [List.take_append_drop, List.length_take, Nat.min_eq_left hk, Nat.add_sub_cancel_left] at h1
    exact h1.symm
  · rw [if_neg hk]
    have hm := Nat.mod_lt (n - f.length) hl
    rw [st_ge (f := f) (r := r) (i := n + i) (by omega)]
    rw [show n + i - f.length = (n - f.length) + i by omega, ← Nat.mod_add_mod]
    generalize (n - f.length) % r.length = k at hm ⊢
    have h1 := st_rot (r.take k) (r.drop k) (by rw [List.take_append_drop]; exact hn) (k + i)
    have h2 := st_app (r.take k) [] (r.drop k ++ r.take k) (k + i) (by rw [List.length_take]; omega)
    rw [List.append_nil, List.length_take, Nat.min_eq_left (by omega), Nat.add_sub_cancel_left] at h2
    rw [← h2, h1, List.take_append_drop, st_nil]
theorem dif_ok (p q : Pl) (hp : gQ p) (hq : gQ q) (hne : p.plain ≠ q.plain) : ∃ n m, rP p q n ∧ Unl (lbh p.plain n) (lbh q.plain n) m ∧ ((plist p 60).take (comN (plist p 60) (plist q 60))).length = n ∧ prodG ((plist p 60).take (comN (plist p 60) (plist q 60))) n = prodF p.plain.plain n := by
  obtain ⟨n, h1, h2, h3⟩ := dif_least hp hq hne
  obtain ⟨cp, ep⟩ := plain_can hp.gp
  obtain ⟨cq, eq⟩ := plain_can hq.gp
  have hc : comN (plist p 60) (plist q 60) = n := by
    have lp := plist_len hp.gp 60
    have lq := plist_len hq.gp 60
    refine comN_eq (by omega) (by omega) (fun i hi => ?_) ?_
    · rw [evr_get hp.gp (by omega), evr_get hq.gp (by omega)]
      exact h2 i hi
    · rw [evr_get hp.gp (by omega), evr_get hq.gp (by omega)]
      exact h3
  have hap := aP_plain hp.gp
  have haq := aP_plain hq.gp
  have lp : ∀ i, (lbh p.plain n).st i = p.plain.st (n + i) := lbh_st cp.ne n
  have lq : ∀ i, (lbh q.plain n).st i = q.plain.st (n + i) := lbh_st cq.ne n
  obtain ⟨m, hu⟩ := unl_ex (p := lbh p.plain n) (q := lbh q.plain n) (fun i => by rw [lp]; exact (aP_st cp.ne hap.1 hap.2 _).1) (fun i => by rw [lq]; exact (aP_st cq.ne haq.1 haq.2 _).1) (by rw [lp]; exact (aP_st cp.ne hap.1 hap.2 _).2) (by rw [lq]; exact (aP_st cq.ne haq.1 haq.2 _).2) (by
    rw [lp, lq, ep, eq]
    exact h3)
  refine ⟨n, m, ⟨hp.sp, hq.sp, sP_plain hp, sP_plain hq, ?_⟩, hu, ?_, ?_⟩
  · rw [plain_plain hp.gp, plain_plain hq.gp]
    refine ⟨by omega, fun i hi => ?_, ?_⟩
    · rw [ep, eq]
      exact h2 i hi
    · rw [ep, eq]
      exact h3
  · rw [hc, List.length_take, plist_len hp.gp]
    omega
  · rw [hc, plain_plain hp.gp]
    refine prodG_eq n fun i hi => ?_
    rw [getD_take _ hi, evr_get hp.gp (by omega), ep]
theorem mathOK : MathOK := ⟨w1_ok, w2_ok, w3_ok, w4_ok, fun p h => lpq_ok h.gp, dif_ok⟩
end Lh
end
section
set_option Elab.async false
set_option linter.all false
theorem PySem.Challenge.cw_lumpplans_k38_whole_rounds_told_otherwis_holds : PySem.Challenge.rw_lumpplans_k38_whole_rounds_told_otherwis.Holds :=
  Lh.holds Lh.mathOK
end
