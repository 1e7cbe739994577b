import PyProof.Rows.All
import Wide.All
import OpenK.AllK
import Wide.FinOn
import KE.KStateDown
import HandS.ForMost
import HandS.EndTab
import HandS.HeadWalk
import HandS.HeadHook4
import HandS.Head3
import HandS.GenList
import PyProof.TupleOfGen
import KE.DataAny
import HandS.AnyAll
import HandS.IsInst
import HandS.TupAny
import HandS.TupMul
import HandS.Star
import HandS.Flow
import HandS.Wide
import HandS.Gcd
import HandS.Zip
import HandS.New0
import HandS.Codes
import HandS.Defaults
import HandS.Zip0
import KE.KNestM
import PySem.Challenge.RW_flowwright_k57_whole_bars_across
set_option Elab.async false
set_option linter.all false
set_option maxRecDepth 100000
set_option maxHeartbeats 4000000
/-! FW.HK: a Hook that looks at named things alone (globals, methods, their code objects): no walk over all that the names reach. -/
namespace FW
open PySem PySem.Spec PyProof.Rows L2
/-- the next things: a def's code object, a class's namespace -/
def nextOf (g : Addr → Option Obj) (a : Addr) : List Addr := match g a with
  | some ⟨_, _, .func fd, _⟩ => He.refV fd.code
  | some ⟨_, _, .cls cd, _⟩ => [cd.ns]
  | _ => []
/-- the places: the module's names xs, the methods ms (class, name) -/
def asZ (xs : List Str) (ms : List (Str × Str)) (g : Addr → Option Obj) : List Addr :=
  let a1 := xs.map (He.ga (He.frG g [mainGlobals]))
  let a2 := mainGlobals :: (a1 ++ a1.flatMap (nextOf g))
  let a3 := ms.map fun q => He.ma (He.frG g a2) (He.ga (He.frG g a2) q.1) q.2
  a2 ++ (a3 ++ a3.flatMap (nextOf g))
section
variable (as : (Addr → Option Obj) → List Addr) (fa : List He.Fa) (fn : List He.DefD) (tf : List He.Defn) (ex : PySem.W.Frag → Bool)
abbrev AlZ : Type := He.AlD × Bool
/-- a part of the heap, written out before it is looked at -/
def wrOut {α : Type} : PySem.W.Frag → (PySem.W.Frag → α) → α
  | [], k => k []
  | (a, ⟨c, d, dt, sl⟩) :: r, k => HandSHeadRun.frNat a fun a => wrOut r fun r' => k ((a, ⟨c, d, dt, sl⟩) :: r')
theorem wrOut_eq {α : Type} : ∀ (K : PySem.W.Frag) (k : PySem.W.Frag → α), wrOut K k = k K
  | [], _ => rfl
  | (a, ⟨c, d, dt, sl⟩) :: r, k => by
    show HandSHeadRun.frNat a (fun a => wrOut r fun r' => k ((a, ⟨c, d, dt, sl⟩) :: r')) = _
    rw [HandSHeadRun.frNat_eq, wrOut_eq r]
def obZ (g : Addr → Option Obj) : AlZ := wrOut (He.frT g (as g)) fun K => (He.obsD fa fn K, ex K && He.tabsB g tf K)
/-- what is told -/
structure SaysZ (h : Heap) (K : PySem.W.Frag) : Prop where
  d : He.SaysD fa fn K
  more : ex K = true
  hd : ∀ p ∈ tf, PySem.W.codeHdIn K (He.cT K p).1 (He.cT K p).2 = true
  out : ∀ p ∈ tf, K.lookup (He.cT K p).2 = none
  empty : ∀ p ∈ tf, h.get? (He.cT K p).2 = some { cls := .none, data := .fields #[] }
theorem saysZ_of {h : Heap} (e : obZ as fa fn tf ex h.get? = (He.valD fn, true)) : SaysZ fa fn tf ex h (He.frT h.get? (as h.get?)) := by
  unfold obZ at e
  rw [wrOut_eq] at e
  have q := Prod.mk.inj (show ((fun K : PySem.W.Frag => (He.obsD fa fn K, ex K && He.tabsB h.get? tf K)) (He.frT h.get? (as h.get?))) = (He.valD fn, true) from e)
  obtain ⟨x1, x2⟩ := Bool.and_eq_true_iff.mp q.2
  have tb := List.all_eq_true.mp x2
  have one : ∀ p ∈ tf, PySem.W.codeHdIn (He.frT h.get? (as h.get?)) (He.cT (He.frT h.get? (as h.get?)) p).1 (He.cT (He.frT h.get? (as h.get?)) p).2 = true ∧
      ∃ o, h.get? (He.cT (He.frT h.get? (as h.get?)) p).2 = some o ∧ He.emptyTab o = true := fun p hp => by
    have y := Bool.and_eq_true_iff.mp (tb p hp)
    refine ⟨y.1, ?_⟩
    have y2 := y.2
    split at y2
    · rename_i o ho
      exact ⟨o, ho, y2⟩
    · exact absurd y2 (by simp)
  refine ⟨q.1, x1, fun p hp => (one p hp).1, fun p hp => ?_, fun p hp => ?_⟩
  · obtain ⟨-, o, ho, hz⟩ := one p hp
    exact He.frT_none ho hz
  · obtain ⟨-, o, ho, hz⟩ := one p hp
    exact He.emptyTab_eq hz ▸ ho
def hookZ : PySem.W.Hook where
  α := AlZ
  obs := fun s => obZ as fa fn tf ex s.heap.get?
  val := fun _ => (He.valD fn, true)
  says := fun _ h => ∃ K : PySem.W.Frag, K.In h ∧ SaysZ fa fn tf ex h K
  of := fun _ _ e => ⟨_, He.frT_in, saysZ_of as fa fn tf ex e⟩
  keeps := fun _ _ _ ⟨K, hK, c⟩ k => ⟨K, PySem.W.Frag.In.keeps hK k, ⟨c.d, c.more, c.hd, c.out, fun p hp => k _ _ (c.empty p hp)⟩⟩
theorem obZ_eq {g : Addr → Option Obj} {s : Shared} (h : ∀ a, g a = s.heap.get? a) : obZ as fa fn tf ex g = (hookZ as fa fn tf ex).obs s := by
  rw [show g = s.heap.get? from funext h]
  rfl
end
/-- the looks in two parts -/
theorem looks_of {p : Program} {z : Option (Shared × PySem.W.SharedT)} (a : (z.map fun x => PySem.W.staticsOk (importedModules p.main.body) x.1.heap x.2.abs.heap) = some true)
    (b : (z.map fun x => PySem.W.namesBound p x.2.abs.heap && (PySem.W.gensDone x.2.abs && PySem.W.laidKept x.1.heap x.2.abs.heap)) = some true) : (z.map fun x => HandSHeadRun.looksF p x.1.heap x.2.abs) = some true := by
  cases z with
  | none => cases a
  | some x =>
    have a' : PySem.W.staticsOk (importedModules p.main.body) x.1.heap x.2.abs.heap = true := Option.some.inj a
    have b' := Option.some.inj b
    obtain ⟨b1, b2⟩ := Bool.and_eq_true_iff.mp b'
    obtain ⟨b2, b3⟩ := Bool.and_eq_true_iff.mp b2
    show some (_ && _ && _ && _) = _
    rw [a', b1, b2, b3]
    rfl
/-- the run's equation in three parts, each run by itself -/
theorem runEqI_of {r : PySem.W.OpenRow} {q : Program} {H : PySem.W.Hook} {ob : PySem.W.SharedT → H.α} {M : Nat} {lo : List Str} {w : World}
    (a : ((HandSHeadRun.wholeF (fun p => HandSHeadRun.stepQ (HandSHeadRun.denQ HandSHeadRun.tabQ) p w) HandSHeadRun.fenceQ M r.prog).map fun x => HandSHeadRun.looksF r.prog x.1.heap x.2.abs) = some true)
    (b : ((HandSHeadRun.wholeF (fun p => HandSHeadRun.stepQ (HandSHeadRun.denQ HandSHeadRun.tabQ) p w) HandSHeadRun.fenceQ M r.prog).map fun x => HandSHeadRun.seenQ q lo (importedModules r.prog.main.body) (fun s => PySem.W.xlAt q [] s && PySem.W.recOk r.toRowW.records s) x.2.abs) = some (PySem.W.openGood q lo))
    (c : ((HandSHeadRun.wholeF (fun p => HandSHeadRun.stepQ (HandSHeadRun.denQ HandSHeadRun.tabQ) p w) HandSHeadRun.fenceQ M r.prog).map fun x => ob x.2) = some (H.val w)) : HandSHeadRun.RunEqI r q H ob M lo w := by
  unfold HandSHeadRun.RunEqI
  revert a b c
  generalize HandSHeadRun.wholeF (fun p => HandSHeadRun.stepQ (HandSHeadRun.denQ HandSHeadRun.tabQ) p w) HandSHeadRun.fenceQ M r.prog = z
  intro a b c
  cases z with
  | none => cases a
  | some x =>
    have a' := Option.some.inj a
    have b' := Option.some.inj b
    have c' := Option.some.inj c
    exact congrArg some (Prod.ext a' (Prod.ext b' c'))
end FW


set_option Elab.async false
set_option linter.all false
set_option maxRecDepth 100000
set_option maxHeartbeats 0
namespace Hd
open PySem PySem.Spec PyProof.Rows L2
def top (i : Nat) : Stmt := PySem.Challenge.pw_flowwright_k57_whole_bars_across.main.body.getD i (.Pass ⟨0, 0, 0, 0⟩)
abbrev s_is_integer : Stmt := top 2
abbrev s_is_within : Stmt := top 3
abbrev s_is_row : Stmt := top 4
abbrev s_is_row_within : Stmt := top 5
abbrev s_is_worded : Stmt := top 6
abbrev s_is_places : Stmt := top 7
abbrev s_is_ascending : Stmt := top 8
abbrev s_crossing : Stmt := top 18
abbrev s_are_ends : Stmt := top 53
abbrev s_is_cut : Stmt := top 54
abbrev s_is_quotient : Stmt := top 26
abbrev s_quotient : Stmt := top 27
abbrev s_plus : Stmt := top 28
abbrev s_minus : Stmt := top 29
abbrev s_times : Stmt := top 30
abbrev s_is_less : Stmt := top 32
abbrev s_total : Stmt := top 33
abbrev s_is_quotient_row : Stmt := top 34
abbrev s_is_crowd : Stmt := top 39
abbrev s_least_product : Stmt := top 85
abbrev s_dot : Stmt := top 86
abbrev s_far_from : Stmt := top 97
abbrev s_kind_of : Stmt := top 147
abbrev s_judge : Stmt := top 148
abbrev s_lw_same : Stmt := top 150
abbrev s_lw_pool : Stmt := top 151
abbrev s_lw_spread : Stmt := top 152
abbrev s_lw_draw : Stmt := top 153
abbrev s_lw_subsets : Stmt := top 154
abbrev s_lw_net : Stmt := top 155
abbrev s_lw_ends : Stmt := top 156
abbrev s_lw_orders : Stmt := top 157
abbrev s_law : Stmt := top 158
abbrev s_Flow__judge : Stmt := inClass (top 55) 3
abbrev s_Need__judge : Stmt := inClass (top 56) 3
abbrev s_Task__judge : Stmt := inClass (top 45) 4
abbrev s_Linear__judge : Stmt := inClass (top 87) 3
abbrev s_Orders__judge : Stmt := inClass (top 98) 3
end Hd


set_option Elab.async false
set_option linter.all false
set_option maxRecDepth 100000
set_option maxHeartbeats 0
namespace Hd
open PySem PySem.Spec PyProof.Rows L2
def d_is_integer : He.DefD := ⟨("is_integer", none), "is_integer", "is_integer", defArgs s_is_integer, defBody s_is_integer, defScope s_is_integer, [], []⟩
def d_is_within : He.DefD := ⟨("is_within", none), "is_within", "is_within", defArgs s_is_within, defBody s_is_within, defScope s_is_within, [], []⟩
def d_is_row : He.DefD := ⟨("is_row", none), "is_row", "is_row", defArgs s_is_row, defBody s_is_row, defScope s_is_row, [], []⟩
def d_is_row_within : He.DefD := ⟨("is_row_within", none), "is_row_within", "is_row_within", defArgs s_is_row_within, defBody s_is_row_within, defScope s_is_row_within, [], []⟩
def d_is_worded : He.DefD := ⟨("is_worded", none), "is_worded", "is_worded", defArgs s_is_worded, defBody s_is_worded, defScope s_is_worded, [], []⟩
def d_is_places : He.DefD := ⟨("is_places", none), "is_places", "is_places", defArgs s_is_places, defBody s_is_places, defScope s_is_places, [], []⟩
def d_is_ascending : He.DefD := ⟨("is_ascending", none), "is_ascending", "is_ascending", defArgs s_is_ascending, defBody s_is_ascending, defScope s_is_ascending, [], []⟩
def d_crossing : He.DefD := ⟨("crossing", none), "crossing", "crossing", defArgs s_crossing, defBody s_crossing, defScope s_crossing, [], []⟩
def d_are_ends : He.DefD := ⟨("are_ends", none), "are_ends", "are_ends", defArgs s_are_ends, defBody s_are_ends, defScope s_are_ends, [], []⟩
def d_is_cut : He.DefD := ⟨("is_cut", none), "is_cut", "is_cut", defArgs s_is_cut, defBody s_is_cut, defScope s_is_cut, [], []⟩
def d_is_quotient : He.DefD := ⟨("is_quotient", none), "is_quotient", "is_quotient", defArgs s_is_quotient, defBody s_is_quotient, defScope s_is_quotient, [], []⟩
def d_quotient : He.DefD := ⟨("quotient", none), "quotient", "quotient", defArgs s_quotient, defBody s_quotient, defScope s_quotient, [], []⟩
def d_plus : He.DefD := ⟨("plus", none), "plus", "plus", defArgs s_plus, defBody s_plus, defScope s_plus, [], []⟩
def d_minus : He.DefD := ⟨("minus", none), "minus", "minus", defArgs s_minus, defBody s_minus, defScope s_minus, [], []⟩
def d_times : He.DefD := ⟨("times", none), "times", "times", defArgs s_times, defBody s_times, defScope s_times, [], []⟩
def d_is_less : He.DefD := ⟨("is_less", none), "is_less", "is_less", defArgs s_is_less, defBody s_is_less, defScope s_is_less, [], []⟩
def d_total : He.DefD := ⟨("total", none), "total", "total", defArgs s_total, defBody s_total, defScope s_total, [], []⟩
def d_is_quotient_row : He.DefD := ⟨("is_quotient_row", none), "is_quotient_row", "is_quotient_row", defArgs s_is_quotient_row, defBody s_is_quotient_row, defScope s_is_quotient_row, [], []⟩
def d_is_crowd : He.DefD := ⟨("is_crowd", none), "is_crowd", "is_crowd", defArgs s_is_crowd, defBody s_is_crowd, defScope s_is_crowd, [], []⟩
def d_least_product : He.DefD := ⟨("least_product", none), "least_product", "least_product", defArgs s_least_product, defBody s_least_product, defScope s_least_product, [], []⟩
def d_dot : He.DefD := ⟨("dot", none), "dot", "dot", defArgs s_dot, defBody s_dot, defScope s_dot, [], []⟩
def d_far_from : He.DefD := ⟨("far_from", none), "far_from", "far_from", defArgs s_far_from, defBody s_far_from, defScope s_far_from, [], []⟩
def d_kind_of : He.DefD := ⟨("kind_of", none), "kind_of", "kind_of", defArgs s_kind_of, defBody s_kind_of, defScope s_kind_of, [], []⟩
def d_judge : He.DefD := ⟨("judge", none), "judge", "judge", defArgs s_judge, defBody s_judge, defScope s_judge, [], []⟩
def d_lw_same : He.DefD := ⟨("_law_same", none), "_law_same", "_law_same", defArgs s_lw_same, defBody s_lw_same, defScope s_lw_same, [], []⟩
def d_lw_pool : He.DefD := ⟨("_law_pool", none), "_law_pool", "_law_pool", defArgs s_lw_pool, defBody s_lw_pool, defScope s_lw_pool, [], []⟩
def d_lw_spread : He.DefD := ⟨("_law_spread", none), "_law_spread", "_law_spread", defArgs s_lw_spread, defBody s_lw_spread, defScope s_lw_spread, [], []⟩
def d_lw_draw : He.DefD := ⟨("_law_draw", none), "_law_draw", "_law_draw", defArgs s_lw_draw, defBody s_lw_draw, defScope s_lw_draw, [], []⟩
def d_lw_subsets : He.DefD := ⟨("_law_subsets", none), "_law_subsets", "_law_subsets", defArgs s_lw_subsets, defBody s_lw_subsets, defScope s_lw_subsets, [], []⟩
def d_lw_net : He.DefD := ⟨("_law_net", none), "_law_net", "_law_net", defArgs s_lw_net, defBody s_lw_net, defScope s_lw_net, [], []⟩
def d_lw_ends : He.DefD := ⟨("_law_ends", none), "_law_ends", "_law_ends", defArgs s_lw_ends, defBody s_lw_ends, defScope s_lw_ends, [], []⟩
def d_lw_orders : He.DefD := ⟨("_law_orders", none), "_law_orders", "_law_orders", defArgs s_lw_orders, defBody s_lw_orders, defScope s_lw_orders, [], []⟩
def d_law : He.DefD := ⟨("law", none), "law", "law", defArgs s_law, defBody s_law, defScope s_law, [], []⟩
def d_Flow__judge : He.DefD := ⟨("Flow", some "judge"), "judge", "Flow.judge", defArgs s_Flow__judge, defBody s_Flow__judge, defScope s_Flow__judge, [], []⟩
def d_Need__judge : He.DefD := ⟨("Need", some "judge"), "judge", "Need.judge", defArgs s_Need__judge, defBody s_Need__judge, defScope s_Need__judge, [], []⟩
def d_Task__judge : He.DefD := ⟨("Task", some "judge"), "judge", "Task.judge", defArgs s_Task__judge, defBody s_Task__judge, defScope s_Task__judge, [], []⟩
def d_Linear__judge : He.DefD := ⟨("Linear", some "judge"), "judge", "Linear.judge", defArgs s_Linear__judge, defBody s_Linear__judge, defScope s_Linear__judge, [], []⟩
def d_Orders__judge : He.DefD := ⟨("Orders", some "judge"), "judge", "Orders.judge", defArgs s_Orders__judge, defBody s_Orders__judge, defScope s_Orders__judge, [], []⟩
def fn0 : List He.DefD := [d_is_integer, d_is_within, d_is_row, d_is_row_within, d_is_worded, d_is_places, d_is_ascending, d_crossing, d_are_ends, d_is_cut, d_is_quotient, d_quotient, d_plus, d_minus, d_times, d_is_less, d_total, d_is_quotient_row, d_is_crowd, d_least_product]
def fn1 : List He.DefD := [d_dot, d_far_from, d_kind_of, d_judge, d_lw_same, d_lw_pool, d_lw_spread, d_lw_draw, d_lw_subsets, d_lw_net, d_lw_ends, d_lw_orders, d_law, d_Flow__judge, d_Need__judge, d_Task__judge, d_Linear__judge, d_Orders__judge]
def fn : List He.DefD := fn0 ++ fn1
def fa0 : List He.Fa := [.glo "is_integer", .glo "is_within", .glo "is_row", .glo "is_row_within", .glo "is_worded", .glo "is_places", .glo "is_ascending", .glo "crossing", .glo "are_ends", .glo "is_cut", .glo "is_quotient", .glo "quotient", .glo "plus", .glo "minus", .glo "times", .glo "is_less", .glo "total", .glo "is_quotient_row", .glo "is_crowd", .glo "least_product"]
def fa1 : List He.Fa := [.glo "dot", .glo "far_from", .glo "kind_of", .glo "judge", .glo "_law_same", .glo "_law_pool", .glo "_law_spread", .glo "_law_draw", .glo "_law_subsets", .glo "_law_net", .glo "_law_ends", .glo "_law_orders", .glo "law", .glo "Flow", .glo "Need", .glo "Task", .glo "Linear", .glo "Orders", .glo "Cost", .glo "Ways"]
def fa2 : List He.Fa := [.glo "Places", .glo "Transport", .glo "Season", .glo "Choice", .glo "Turned", .glo "Grid", .glo "Time", .glo "Levels", .glo "Gain", .cls "Flow", .cls "Linear", .cls "Need", .cls "Orders", .cls "Task", .meth "Flow" "judge", .meth "Need" "judge", .meth "Task" "judge", .meth "Linear" "judge", .meth "Orders" "judge", .free "all"]
def fa3 : List He.Fa := [.free "any", .free "tuple", .free "list", .free "len", .free "range", .free "zip", .free "enumerate", .free "isinstance", .free "sum", .free "min", .free "max", .free "abs", .free "int", .free "str", .free "bool", .free "sorted"]
def fa : List He.Fa := fa0 ++ fa1 ++ fa2 ++ fa3
def tf0 : List He.Defn := [("is_row", none), ("is_row_within", none), ("is_places", none), ("is_ascending", none), ("is_quotient_row", none), ("Task", some "judge"), ("Orders", some "judge")]
def tf : List He.Defn := tf0
def gl0 : List Str := ["is_integer", "is_within", "is_row", "is_row_within", "is_worded", "is_places", "is_ascending", "crossing", "are_ends", "is_cut", "is_quotient", "quotient", "plus", "minus", "times", "is_less", "total", "is_quotient_row", "is_crowd", "least_product"]
def gl1 : List Str := ["dot", "far_from", "kind_of", "judge", "_law_same", "_law_pool", "_law_spread", "_law_draw", "_law_subsets", "_law_net", "_law_ends", "_law_orders", "law", "Flow", "Need", "Task", "Linear", "Orders", "Cost", "Ways"]
def gl2 : List Str := ["Places", "Transport", "Season", "Choice", "Turned", "Grid", "Time", "Levels", "Gain"]
def gl : List Str := gl0 ++ gl1 ++ gl2
def ml0 : List (Str × Str) := [("Flow", "judge"), ("Need", "judge"), ("Task", "judge"), ("Linear", "judge"), ("Orders", "judge")]
def ml : List (Str × Str) := ml0
def c00 : List Str := ["Flow", "Need", "Cost", "Ways", "Places", "Transport", "Season", "Choice", "Turned", "Grid", "Time", "Levels", "Gain", "Orders", "Task", "Linear"]
def c0 : List Str := c00
def newB (K : PySem.W.Frag) (c : Str) : Bool := PySem.W.makesIn K (He.ga K c) && (He.eqO (PySem.W.findIn K (.ref (He.ga K c)) "__init__") (some (some (.builtin "object.__init__"))) && PySem.W.keepIn K (.ref (He.ga K c)))
def ex (K : PySem.W.Frag) : Bool := (c0.all fun c => newB K c) && He.eqO (PySem.W.nsIn K mainGlobals "gcd") (some (some (.builtin "math.gcd")))
def lo0 : List Str := ["__name__", "is_integer", "is_within", "is_row", "is_row_within", "is_worded", "is_places", "is_ascending", "MOST_PLACES_nets", "MOST_ARCS_nets", "MOST_nets", "is_arc", "is_net", "outcome", "worth", "goes", "crossing", "rest_of", "come_to", "Stream"]
def lo1 : List Str := ["cost_of", "solved_task", "is_quotient", "quotient", "plus", "minus", "times", "over", "is_less", "total", "is_quotient_row", "MOST_PLACES_tasks", "MOST_ARCS_tasks", "is_task_arc", "is_crowd", "price_sum", "floor", "ceiling", "crowded_side", "whole_prices"]
def lo2 : List Str := ["Task", "MOST_BOUND_flows", "LEAST_BOUND_flows", "MOST_flows", "MOST_NEED", "MOST_COST", "MOST_COSTS", "are_ends", "is_cut", "Flow", "Need", "Cost", "MOST_THINGS", "MOST_WORTH", "MOST_BOUND_choices", "changed", "Choice", "LEAST_PLACES_gains", "MOST_PLACES_gains", "MOST_ARCS_gains"]
def lo3 : List Str := ["MOST_gains", "MOST_FACTOR", "is_gain_arc", "left_at", "scale_of", "room_of", "Gain", "Taking", "parts_of", "is_walk", "MOST_GAP", "Levels", "MOST_ROWS", "MOST_COLUMNS", "least_product", "dot", "Linear", "LEAST_PLACES_orders", "MOST_PLACES_orders", "MOST_TIES_orders"]
def lo4 : List Str := ["MOST_ORDERS", "MOST_orders", "is_wide_tie", "is_order", "size", "far_from", "Orders", "LEAST_TEAMS", "MOST_TEAMS", "MOST_WINS", "MOST_GAMES", "WIDE_seasons", "is_left", "reach", "final_wins", "Season", "MOST_TIME", "MOST_END", "Time", "MOST_transports"]
def lo5 : List Str := ["MOST_PIECES", "LEAST_BOUND_transports", "MOST_BOUND_transports", "is_cost_row", "is_few", "ways_in", "ways_in_transports", "Transport", "LEAST_PLACES_turned", "MOST_PLACES_turned", "MOST_TIES_turned", "MOST_LINES", "MOST_turned", "WIDE_turned", "are_ties", "Turned", "is_span", "are_spans", "is_in", "Grid"]
def lo6 : List Str := ["MOST_WAYS", "is_way", "inner_places", "are_ways", "comes_without", "ways_in", "ways_in_ways", "Ways", "Places", "kind_of", "judge", "_law_same", "_law_pool", "_law_spread", "_law_draw", "_law_subsets", "_law_net", "_law_ends", "_law_orders"]
def lo : List Str := lo0 ++ lo1 ++ lo2 ++ lo3 ++ lo4 ++ lo5 ++ lo6
abbrev R : PySem.W.OpenRow := PySem.W.OpenLaw.row PySem.Challenge.rw_flowwright_k57_whole_bars_across
abbrev qv : Program := PySem.W.view R.prog [0, 158]
abbrev hk : PySem.W.Hook := FW.hookZ (FW.asZ gl ml) fa fn tf ex
def ob (s : PySem.W.SharedT) : FW.AlZ := FW.obZ (FW.asZ gl ml) fa fn tf ex (HandSHeadRun.getT s)
theorem ob_eq (s : PySem.W.SharedT) : ob s = hk.obs s.abs := FW.obZ_eq _ _ _ _ _ (HandSHeadRun.getT_eq s)
end Hd


set_option Elab.async false
set_option linter.all false
set_option maxRecDepth 100000
set_option maxHeartbeats 0
namespace Hd
open PySem PySem.Spec PyProof.Rows L2
theorem runA2 (w : World) : ((HandSHeadRun.wholeF (fun p => HandSHeadRun.stepQ (HandSHeadRun.denQ HandSHeadRun.tabQ) p w) HandSHeadRun.fenceQ 20000 R.prog).map fun x => PySem.W.namesBound R.prog x.2.abs.heap && (PySem.W.gensDone x.2.abs && PySem.W.laidKept x.1.heap x.2.abs.heap)) = some true := by
  kernel_rfl
end Hd


set_option Elab.async false
set_option linter.all false
set_option maxRecDepth 100000
set_option maxHeartbeats 0
namespace Hd
open PySem PySem.Spec PyProof.Rows L2
theorem runB (w : World) : ((HandSHeadRun.wholeF (fun p => HandSHeadRun.stepQ (HandSHeadRun.denQ HandSHeadRun.tabQ) p w) HandSHeadRun.fenceQ 20000 R.prog).map fun x => HandSHeadRun.seenQ qv lo (importedModules R.prog.main.body) (fun s => PySem.W.xlAt qv [] s && PySem.W.recOk R.toRowW.records s) x.2.abs) = some (PySem.W.openGood qv lo) := by
  kernel_rfl
end Hd


set_option Elab.async false
set_option linter.all false
set_option maxRecDepth 100000
set_option maxHeartbeats 0
namespace Hd
open PySem PySem.Spec PyProof.Rows L2
theorem runA1 (w : World) : ((HandSHeadRun.wholeF (fun p => HandSHeadRun.stepQ (HandSHeadRun.denQ HandSHeadRun.tabQ) p w) HandSHeadRun.fenceQ 20000 R.prog).map fun x => PySem.W.staticsOk (importedModules R.prog.main.body) x.1.heap x.2.abs.heap) = some true := by
  kernel_rfl
end Hd


set_option Elab.async false
set_option linter.all false
set_option maxRecDepth 100000
set_option maxHeartbeats 0
namespace Hd
open PySem PySem.Spec PyProof.Rows L2
theorem runC (w : World) : ((HandSHeadRun.wholeF (fun p => HandSHeadRun.stepQ (HandSHeadRun.denQ HandSHeadRun.tabQ) p w) HandSHeadRun.fenceQ 20000 R.prog).map fun x => ob x.2) = some (hk.val w) := by
  kernel_rfl
end Hd


set_option Elab.async false
set_option linter.all false
set_option maxRecDepth 100000
set_option maxHeartbeats 0
open PySem PySem.W PySem.Calls PyProof.Rows
/-- the looks at the law, at the view: by themselves, ahead of all else (the kernel's memory) -/
theorem Hd.early (z : (OpenLaw.row PySem.Challenge.rw_flowwright_k57_whole_bars_across).wellSaid = true → (OpenLaw.row PySem.Challenge.rw_flowwright_k57_whole_bars_across).Holds) : PySem.Challenge.rw_flowwright_k57_whole_bars_across.Holds := by
  w_on; o_law
  exact z (by assumption)
namespace Hd
abbrev dl : DefRec := HandSHeadRun.topDef (OpenLaw.row PySem.Challenge.rw_flowwright_k57_whole_bars_across).prog 158
theorem k_def : defOf qv (OpenLaw.row PySem.Challenge.rw_flowwright_k57_whole_bars_across).name = some (dl, []) := by kernel_rfl
theorem k_the : (OpenLaw.row PySem.Challenge.rw_flowwright_k57_whole_bars_across).prog.theDef (OpenLaw.row PySem.Challenge.rw_flowwright_k57_whole_bars_across).name = some (dl.params, dl.body, dl.scope) := by kernel_rfl
theorem k_kw : kwWritten? dl.params.kwonlyargs dl.params.kw_defaults = some [] := by kernel_rfl
theorem k_ok : (chainsOk qv && opensWell (OpenLaw.row PySem.Challenge.rw_flowwright_k57_whole_bars_across).prog && (frees (OpenLaw.row PySem.Challenge.rw_flowwright_k57_whole_bars_across).toRowW && (OpenLaw.row PySem.Challenge.rw_flowwright_k57_whole_bars_across).within.isEmpty)) = true := by decide +kernel
theorem k_bare : (OpenLaw.row PySem.Challenge.rw_flowwright_k57_whole_bars_across).prog.bare := ⟨rfl, rfl, rfl, rfl, rfl, by decide +kernel⟩
theorem k_name : dl.name = ("law" : PySem.Str) := by kernel_rfl
theorem k_dfl : dl.params.defaults = [] := by kernel_rfl
end Hd


set_option Elab.async false
set_option linter.all false
set_option maxRecDepth 100000
set_option maxHeartbeats 4000000
namespace FW
open PySem PySem.Spec PyProof.Rows L2
open LamX (TabB)

/-! ### tables of code objects; what may change beside -/
def TabG (H : Hp) (P : Addr) : Prop := ∃ ps : Array Value, H P = some (.tbl ps) ∧ TriplesOk ps.toList
/-- H' is H but for the table at P -/
def Grown (P : Addr) (H H' : Hp) : Prop := TabG H' P ∧ ∀ b, b ≠ P → H' b = H b

theorem sh_eta (s s' : Shared) (h : s'.os = s.os) : ({ s with heap := s'.heap, gens := s'.gens, drawn := s'.drawn, toks := s'.toks } : Shared) = s' := by
  cases s'
  cases h
  rfl

/-- the context of a generator expression's frame -/
abbrev gx (X : Cx) (A' : Around) (s : Shared) (H : Hp) (ge : Env) (fp : List Addr) : Cx :=
  { X with A := A', s_0 := s, H_0 := H, env := ge, outer := X.stack, stack := ge :: X.stack, ex := fp, fn := fun _ => false, calm := true, pn := [], xe := fun _ _ => False }

section
variable {X : Cx} {pins : List (Addr × Obj)} {σ : L2.St} {H : Hp} {s : Shared}

theorem clo_look {scope : Scope} {cells : List (Str × Addr)} (uniq : ∀ y ∈ scope.names, scope.names.lookup y.1 = some y.2) {y : Str} {c : Addr} (e : (cloFrom cells scope.names []).lookup y = some c) :
    scope.names.lookup y = some .free ∧ c = (cells.lookup y).getD 0 := by
  rcases cloFrom_mem (PySem.mem_of_lookup e) with hm | ⟨h1, h2⟩
  · cases hm
  · exact ⟨uniq _ h1, h2⟩
theorem look_clo {scope : Scope} {cells : List (Str × Addr)} {y : Str} (hl : scope.names.lookup y = some .free) : ∃ c, (cloFrom cells scope.names []).lookup y = some c :=
  mem_lookup (cloFrom_has (cells := cells) (acc := []) (PySem.mem_of_lookup hl))

/-- a generator expression's frame is made: its context's invariant -/
theorem gx_start {scope : Scope} {own : List (Str × Nat)} {fp : List Addr} {code : Value} {A' : Around} {m : Str → Option Value} {s' : Shared} (I : Inv X pins σ H s) (ok : BlkOk X.N X.env.scope scope own) (hN : X.N.Nodup)
    (hcell : ∀ y ∈ scope.names, y.2 ≠ .cell) (hfp : ∀ b ∈ fp, FpOk X pins H b ∧ b < s.heap.objs.size) (hA : A'.handled = none)
    (hfr : A'.frames = some (genEnv scope (cloFrom X.env.cells scope.names []) s.heap.objs.size code builtinsNs X.env :: X.stack))
    (hns : s'.heap.Ns s.heap.objs.size m) (kp : ∀ b o, s.heap.get? b = some o → s'.heap.get? b = some o) (hos : s'.os = s.os) (hb : AllBare s'.gens) :
    Inv (gx X A' s H (genEnv scope (cloFrom X.env.cells scope.names []) s.heap.objs.size code builtinsNs X.env) fp) [] (wipe σ (own.map (·.2))) H s' := by
  have hfree : ∀ y ∈ scope.names, y.2 = .free → ∃ c, X.env.cells.lookup y.1 = some c := fun y hy e => by
    rcases ok.free y hy e with k | k
    · exact I.ok.has _ (.inl k)
    · exact I.ok.has _ (.inr k)
  have look : ∀ {y c}, (cloFrom X.env.cells scope.names []).lookup y = some c → X.env.cells.lookup y = some c := fun {y c} e => by
    obtain ⟨h1, h2⟩ := clo_look ok.uniq e
    obtain ⟨c', hc⟩ := hfree (y, .free) (PySem.mem_of_lookup h1) rfl
    have hc2 : X.env.cells.lookup y = some c' := hc
    rw [hc2] at h2
    rw [hc2, h2]; rfl
  have clt : ∀ {y c}, X.env.cells.lookup y = some c → c < s.heap.objs.size := fun {y c} e => by
    obtain ⟨w, z⟩ := I.cell _ _ e
    exact z.lt
  refine ⟨⟨I.ok.mod, ok.kind, I.ok.glob, rfl, Nat.le_refl _, fun y z c e1 e2 => I.ok.inj y z c (look e1) (look e2), fun y hy => ?_, fun y c z _ => absurd z Bool.false_ne_true, fun _ => hA, hfr, .inr ⟨rfl, rfl⟩, fun b hb => ⟨Nat.ne_of_lt (hfp b hb).2, fun y c e z => ?_⟩,
    I.bs, Nat.le_trans I.ok.bsz I.sz, fun b o e hb => ?_, fun b hb z => ?_, I.stack, I.stkFree⟩, hos, hb, Un.kept kp, ⟨m, hns, fun i y av e1 e2 e3 => ?_⟩, fun y c e => ?_, I.hok.fresh (Nat.le_refl _), fun y c e => I.freeC y c (look e), fun p hp => absurd (show p ∈ ([] : List (Addr × Obj)) ++ [] from hp) (by simp), I.hok.kept kp, by rw [wipe_length]; exact I.len⟩
  · have hy' : scope.names.lookup y = some .cell ∨ scope.names.lookup y = some .free := hy
    rcases hy' with q | q
    · exact absurd rfl (hcell _ (PySem.mem_of_lookup q))
    · exact look_clo q
  · exact (hfp b hb).1.2.2.2.2.1 y c (look e) z
  · rcases (hfp b hb).1.2.2.2.1 with z | z
    · exact I.ok.noex b o e z
    · exact absurd (Nat.lt_of_lt_of_le (Heap.lt_size e) (Nat.le_trans I.ok.bsz z)) (Nat.lt_irrefl _)
  · rcases List.mem_cons.mp (I.stkSub b z) with z | z
    · exact (hfp b hb).1.2.1 z
    · exact (hfp b hb).1.2.2.1 z
  · obtain ⟨e2, hne⟩ := wipe_some e2
    have e3' : Vis scope y := e3
    have hfr2 : scope.names.lookup y = some .free := by
      have no : ∀ k, scope.names.lookup y = some k → k = .local ∨ k = .cell → False := fun k hk hk' => by
        rcases ok.own _ (PySem.mem_of_lookup hk) hk' with e' | e'
        · obtain ⟨p, hp, hpy⟩ := List.mem_map.mp e'
          have e4 := ok.ix p hp
          have : p.1 = y := hpy
          rw [this] at e4
          exact hne (List.mem_map.mpr ⟨p, hp, nodup_ix hN e4 e1⟩)
        · exact e' (List.mem_of_getElem? e1)
      rcases e3' with q | q | q
      · exact (no _ q (.inl rfl)).elim
      · exact (no _ q (.inr rfl)).elim
      · exact q
    obtain ⟨m0, hn0, hl⟩ := I.loc
    have hvis : Vis X.env.scope y := (ok.free _ (PySem.mem_of_lookup hfr2) rfl).elim (fun k => .inr (.inl k)) (fun k => .inr (.inr k))
    obtain ⟨w, r, q⟩ := hl i y av e1 e2 hvis
    refine ⟨w, r, .inr ⟨.inr hfr2, ?_⟩⟩
    obtain ⟨c, h1⟩ := look_clo (cells := X.env.cells) hfr2
    have h2 := look h1
    rcases q with ⟨k, _⟩ | ⟨_, c', e', z⟩
    · have k : X.env.scope.names.lookup y = some .local := k
      rcases ok.free _ (PySem.mem_of_lookup hfr2) rfl with k' | k' <;> rw [show X.env.scope.names.lookup y = _ from k'] at k <;> cases k
    · rw [h2] at e'; cases e'
      exact ⟨c, h1, z.keeps kp⟩
  · obtain ⟨w, z⟩ := I.cell y c (look e)
    exact ⟨w, z.keeps kp⟩

/-! ### asleep, woken -/
structure Slp (wr : List Addr) (s s' : Shared) : Prop where
  os : s'.os = s.os
  bare : AllBare s'.gens
  keep : ∀ b o, b ∉ wr → s.heap.get? b = some o → s'.heap.get? b = some o
  own : ∀ b ∈ wr, ∃ o, s'.heap.get? b = some o ∧ ∀ v, o.data ≠ .cell v
/-- the consumer's own objects: younger than the generator's making, none of its frame's -/
def Aprt (Y : Cx) (ip : List (Addr × Obj)) (wr : List Addr) : Prop := ∀ b ∈ wr, Y.s_0.heap.objs.size ≤ b ∧ b ≠ Y.env.locals ∧ (∀ x c, Y.env.cells.lookup x = some c → c ≠ b) ∧ ∀ p ∈ Y.pn ++ ip, p.1 ≠ b
theorem woken {Y : Cx} {po ip : List (Addr × Obj)} {wr : List Addr} {s' : Shared} (hA : Aprt Y ip wr) (hpo : ∀ b ∈ wr, ∃ o, (b, o) ∈ po) (I : Inv Y (po ++ ip) σ H s) (z : Slp wr s s') : Inv Y (pinsAt wr s'.heap ++ ip) σ H s' := by
  have I0 : Inv Y ip σ H s := I.pins_of fun p hp => I.pin p (List.mem_append_right _ (List.mem_append_right _ hp))
  have wfree : ∀ b ∈ wr, H b = none ∧ b ≠ Y.env.locals ∧ b ∉ Y.fs := fun b hb => by
    obtain ⟨o, ho⟩ := hpo b hb
    obtain ⟨_, h2, h3, h4, _⟩ := I.pin (b, o) (List.mem_append_right _ (List.mem_append_left _ ho))
    exact ⟨h2, h3, h4⟩
  have nt : ∀ b u, H b = some u → b ∉ wr := fun b u q hb => by rw [(wfree b hb).1] at q; cases q
  obtain ⟨z1, z2, z3, z4⟩ := z
  obtain ⟨hh, g, d, t, o⟩ := s'
  have ho : o = s.os := z1
  subst ho
  have J : Inv Y ip σ H { s with heap := hh, gens := g, drawn := d, toks := t } := by
    refine I0.step (g' := g) (t' := t) (d' := d) (ch := wr) (fun b hb => ⟨.inr (hA b hb).1, (hA b hb).2.1, (hA b hb).2.2.1, (hA b hb).2.2.2⟩)
      (fun b ob _ _ hc q _ => z3 b ob hc q) (fun b ob _ _ hc q _ => ⟨ob.slots, z3 b ob hc q⟩) (fun _ _ _ _ n => n) (fun b ob hc q => ⟨ob, z3 b ob hc q⟩)
      (fun _ _ q => q) (fun _ _ _ q => q) (fun b ps q => ⟨#[], by rw [q]; simp⟩) (fun m hm => ?_) (fun b u q => ?_) z2
    · obtain ⟨ob, es, ep, ho, r⟩ := hm
      exact ⟨ob, es, ep, z3 _ ob (fun hb => (hA _ hb).2.1 rfl) ho, r⟩
    · refine (I0.hok b u q).stay (fun c v hc y => z3 c v ?_ y) (fun _ y => y) fun _ _ y => y
      rcases hc with y | y
      · rw [y]; exact nt b u q
      · exact nt c _ y
  refine J.pins_of fun p hp => ?_
  rcases List.mem_append.mp hp with hp | hp
  · obtain ⟨hb, e⟩ := of_pinsAt hp
    obtain ⟨o', e', d'⟩ := z4 p.1 hb
    obtain ⟨f1, f2, f3⟩ := wfree p.1 hb
    have e2 : o' = p.2 := by
      have e1 : hh.get? p.1 = some p.2 := e
      have e3 : hh.get? p.1 = some o' := e'
      rw [e1] at e3; exact (Option.some.inj e3).symm
    exact ⟨e, f1, f2, f3, by rw [← e2]; exact d'⟩
  · exact J.pin p (List.mem_append_right _ hp)
end

/-! ### the generator's run -/
section
variable {Y : Cx} {wr fp : List Addr} {ip : List (Addr × Obj)} {Acc : List V → Shared → Prop} {W : List V → Nat → Nat → Hp → Prop} {σ0 : L2.St} {vs : List Nat} {YP : List V → Nat → Nat → V → Hp → Prop} {QE : List V → Hp → Prop} {J : It} {tn : Nat → Heap → Prop} {it : Addr}
/-- its end -/
def RG (Y : Cx) (wr : List Addr) (ip : List (Addr × Obj)) (Acc : List V → Shared → Prop) (QE : List V → Hp → Prop) : GenEnd := fun _ s₀ r s => r = .ok .next ∧ ∃ ys σ H, Acc ys s₀ ∧ Inv Y (pinsAt wr s₀.heap ++ ip) σ H s ∧ QE ys H
/-- an item is handed out -/
def YG (Y : Cx) (wr : List Addr) (ip : List (Addr × Obj)) (Acc : List V → Shared → Prop) (W : List V → Nat → Nat → Hp → Prop) (YP : List V → Nat → Nat → V → Hp → Prop) : Protocol := fun n s₀ v s kap =>
  ∃ ys i m y σ H, RelV y v ∧ Acc ys s₀ ∧ Inv Y (pinsAt wr s₀.heap ++ ip) σ H s ∧ YP ys i m y H ∧ m ≤ n ∧ ∀ m', m' < m → W (ys ++ [y]) (i + 1) m' H → ∀ s', Slp wr s s' → Acc (ys ++ [y]) s' → kap (.send .none) s'

theorem seg_gx {A : Around} {elt tg iter : Expr} {ifs : List Expr} {scope : Scope} {pos : Pos} {g : TG} {tt : TT} {te : TE}
    (T : Turn Y.prog Y.w Y.K tg J fp it tn) (hYA : Y.A = A.over (.compLoop (.GeneratorExp elt [⟨tg, iter, ifs, 0⟩] scope pos) 0 (.ref it) .none Y.env) []) (hcalm : Y.calm = true) (hxe : Y.xe = fun _ _ => False) (hex : Y.ex = fp) (hpn : Y.pn = [])
    (hco : Y.env.scope.isCoroutine = false) (hA : Aprt Y ip wr) (hip : ∀ p ∈ ip, p.1 ∉ fp) (hwf : ∀ b ∈ wr, b ∉ fp)
    (pg : PG Y tg g) (pt : PTs Y ifs tt) (pe : PE Y elt te)
    (turn : ∀ ys i m H, W ys i m H → (J.stop i H ∧ QE ys H) ∨ (J.go i H ∧ ∀ x H', J.yld i H x H' → g x σ0 H' fun σ2 H2 => wipe σ2 vs = σ0 ∧ tt σ2 H2 fun b H3 => if b = true then te σ2 H3 fun y H4 => YP ys i m y H4 else ∃ m', m' < m ∧ W ys (i + 1) m' H3)) :
    ∀ (m : Nat) (ys : List V) (i n : Nat) (s₀ s : Shared) (H : Hp), m < n → Acc ys s₀ → W ys i m H → Inv Y (pinsAt wr s₀.heap ++ ip) σ0 H s → tn i s.heap → (∀ b ∈ fp, H b = none) → (∀ b ∈ wr, ∃ o, s₀.heap.get? b = some o) →
      Seg (model Y.prog Y.w) A (RG Y wr ip Acc QE) (YG Y wr ip Acc W YP) n s₀ (.compLoop (.GeneratorExp elt [⟨tg, iter, ifs, 0⟩] scope pos) 0 (.ref it) .none Y.env)
        ((model Y.prog Y.w).den (.compLoop (.GeneratorExp elt [⟨tg, iter, ifs, 0⟩] scope pos) 0 (.ref it) .none Y.env)) [] s := by
  intro m
  induction m using Nat.strongRecOn with
  | ind m ih =>
    intro ys i n s₀ s H hmn hacc w I st nfp hs0
    have stat : ∀ {σ' : L2.St} {H' : Hp} {s₀' s' : Shared}, Inv Y (pinsAt wr s₀'.heap ++ ip) σ' H' s' → (∀ b ∈ fp, H' b = none) → ∀ b ∈ fp, FpOk Y (pinsAt wr s₀'.heap ++ ip) H' b := fun {σ' H' s₀' s'} I' hn b hb =>
      ⟨hn b hb, (I'.ok.exf b (by rw [hex]; exact hb)).1, I'.ok.exfs b (by rw [hex]; exact hb), .inl (by rw [hex]; exact hb), fun x c e => (I'.ok.exf b (by rw [hex]; exact hb)).2 x c e, fun p hp => by
        rw [hpn] at hp
        rcases List.mem_append.mp (show p ∈ pinsAt wr s₀'.heap ++ ip from hp) with z | z
        · exact fun e => hwf p.1 (of_pinsAt z).1 (by rw [e]; exact hb)
        · exact fun e => hip p z (by rw [e]; exact hb)⟩
    show Seg _ A _ _ _ s₀ _ ((compTurn (.GeneratorExp elt [⟨tg, iter, ifs, 0⟩] scope pos) 0 (.ref it) .none Y.env).onRaise (leaving Y.env)) [] s
    rw [compTurn_gen, Sem.onRaise_eq_wrap]
    refine seg_bind_wrap (wpAny_standAt ?_)
    rcases turn ys i m H w with ⟨stop, q⟩ | ⟨go, step⟩
    · refine seg_bind_wrap ?_
      rw [← hYA]
      refine wpAny_mono (T.done Y rfl rfl rfl hcalm i _ s σ0 H (fun _ _ => False) I (stat I nfp) st stop) (fun r s1 h1 => ?_) fun _ _ e => e.elim
      obtain ⟨hr, I1⟩ := h1
      subst hr
      exact seg_end (.ok .next) ⟨rfl, ys, σ0, H, hacc, I1, q⟩
    · refine seg_bind_wrap ?_
      rw [← hYA]
      refine wpAny_mono (T.item Y rfl rfl rfl hcalm i _ s σ0 H (fun _ _ => False) I (stat I nfp) st go) (fun r s1 h1 => ?_) fun _ _ e => e.elim
      obtain ⟨u, hr, h1⟩ := h1
      subst hr
      refine seg_bind_wrap ?_
      rw [← hYA]
      refine wpAny_mono h1 (fun _ s2 h2 => ?_) fun _ _ e => e.elim
      obtain ⟨x, H2, I2, r2, y2, st2, n2⟩ := h2
      have I2' := I2.pinned (stat I2 n2) (T.obj _ _ st2)
      refine seg_bind_wrap ?_
      rw [← hYA]
      refine wpAny_mono (pg.run _ s2 σ0 H2 x u _ I2' r2 (step x H2 y2)) (fun _ s3 h3 => ?_) fun _ _ e => by rw [hxe] at e; exact e.elim
      obtain ⟨σ3, H3, I3, hw3, q3⟩ := h3
      refine seg_bind_wrap ?_
      rw [← hYA]
      refine wpAny_mono (pt.run _ s3 σ3 H3 _ I3 q3) (fun b s4 h4 => ?_) fun _ _ e => by rw [hxe] at e; exact e.elim
      obtain ⟨H4, I4, q4⟩ := h4
      have back : ∀ {s' : Shared} {H' : Hp}, Inv Y ((pinsAt wr s₀.heap ++ ip) ++ pinsAt fp s2.heap) σ3 H' s' → Inv Y (pinsAt wr s₀.heap ++ ip) σ0 H' s' ∧ tn (i + 1) s'.heap ∧ ∀ b ∈ fp, H' b = none := fun {s' H'} I' => by
        have pin' : ∀ b ∈ fp, ∀ o, s2.heap.get? b = some o → s'.heap.get? b = some o ∧ H' b = none := fun b hb o e =>
          let z := I'.pin (b, o) (List.mem_append_right _ (List.mem_append_right _ (mem_pinsAt hb e)))
          ⟨z.1, z.2.1⟩
        refine ⟨I'.unpinned.weak (by rw [← hw3, wipe_length]) fun j v e => ?_, T.keep _ _ _ st2 fun b hb o e => (pin' b hb o e).1, fun b hb => ?_⟩
        · rw [← hw3] at e
          exact (wipe_some e).1
        · obtain ⟨o, e, _⟩ := T.obj _ _ st2 b hb
          exact (pin' b hb o e).2
      cases b with
      | false =>
        simp only [Bool.false_eq_true, if_false] at q4 ⊢
        obtain ⟨m', hm', w'⟩ := q4
        obtain ⟨I5, st5, n5⟩ := back I4
        exact seg_again rfl (ih m' hm' ys (i + 1) n s₀ s4 H4 (Nat.lt_trans hm' hmn) hacc w' I5 st5 n5 hs0)
      | true =>
        simp only [if_true] at q4 ⊢
        have hy : ∀ v, yieldOut Y.env v = yieldValue v := fun v => by simp only [yieldOut, hco, Bool.false_eq_true, if_false]
        simp only [hy]
        rw [Sem.bind_eq_wrap', Sem.bind_eq_wrap', Sem.wrap_wrap, Sem.wrap_wrap]
        refine seg_wrap ?_
        rw [← hYA]
        refine wpAny_mono (pe.run _ s4 σ3 H4 _ I4 q4) (fun v s5 h5 => ?_) fun _ _ e => by rw [hxe] at e; exact e.elim
        obtain ⟨y, H5, I5, r5, q5⟩ := h5
        obtain ⟨I6, st6, n6⟩ := back I5
        obtain ⟨k, rfl⟩ : ∃ k, n = k + 1 := ⟨n - 1, by omega⟩
        refine seg_at (seg_yield rfl rfl rfl ⟨ys, i, m, y, σ0, H5, r5, hacc, I6, q5, by omega, fun m' hm' w' s' z hacc' => ?_⟩)
        have hpo : ∀ b ∈ wr, ∃ o, (b, o) ∈ pinsAt wr s₀.heap := fun b hb => by
          obtain ⟨o, e⟩ := hs0 b hb
          exact ⟨o, mem_pinsAt hb e⟩
        have I7 := woken hA hpo I6 z
        have st7 : tn (i + 1) s'.heap := T.keep _ _ _ st6 fun b hb o e => z.keep b o (fun h => hwf b h hb) e
        refine seg_again rfl (ih m' hm' (ys ++ [y]) (i + 1) k s' s' H5 (by omega) hacc' w' I7 st7 n6 fun b hb => ?_)
        obtain ⟨o, e, _⟩ := z.own b hb
        exact ⟨o, e⟩
end
end FW


set_option Elab.async false
set_option linter.all false
set_option maxRecDepth 100000
set_option maxHeartbeats 4000000
namespace FW
open PySem PySem.Spec PyProof.Rows L2 GenW
open LamX (TabB)

theorem Inv.gens {X : Cx} {pins : List (Addr × Obj)} {σ : L2.St} {H : Hp} {s : Shared} (I : Inv X pins σ H s) (g : Nat) (x : GenState) (hx : x.bare = true) : Inv X pins σ H (s.setGen g x) :=
  ⟨I.ok, I.os, allBare_setGen I.bare hx, I.base, I.loc, I.cell, I.free, I.freeC, I.pin, I.hok, I.len⟩

section
variable {Y : Cx} {wr fp : List Addr} {Acc : List V → Shared → Prop} {W : List V → Nat → Nat → Hp → Prop} {YP : List V → Nat → Nat → V → Hp → Prop} {QE : List V → Hp → Prop} {a : Addr} {go : Obj} {g : Nat}
/-- asleep, n items may still be asked for -/
def GSt (Y : Cx) (wr : List Addr) (a : Addr) (go : Obj) (g : Nat) (Acc : List V → Shared → Prop) (W : List V → Nat → Nat → Hp → Prop) (YP : List V → Nat → Nat → V → Hp → Prop) (QE : List V → Hp → Prop) (A : Around) (n : Nat) (s : Shared) : Prop :=
  s.heap.NoLimit ∧ s.heap.get? a = some go ∧ ∃ gs, s.gens[g]? = some gs ∧ gs.Goes (model Y.prog Y.w) A (RG Y wr [(a, go)] Acc QE) (YG Y wr [(a, go)] Acc W YP) n (.send .none) (s.setGen g .running)

theorem gnext {A : Around} {E : Value → Shared → Prop} (hh : A.handled = none) (hroom : A.depth < recursionLimit) (hgen : ∀ h : Heap, h.get? a = some go → h.IsGen a g) (hA : Aprt Y [(a, go)] wr) {n : Nat} {s : Shared} (G : GSt Y wr a go g Acc W YP QE A.in1 n s) :
    wpAny (model Y.prog Y.w) A (pyNext (.ref a)) (fun r s' => match r with
      | none => ∃ ys σ H s1, Acc ys (s.setGen g .running) ∧ Inv Y (pinsAt wr s.heap ++ [(a, go)]) σ H s1 ∧ QE ys H ∧ s'.os = s1.os ∧ AllBare s'.gens ∧ ∀ b o, s1.heap.get? b = some o → s'.heap.get? b = some o
      | some v => ∃ ys i m y σ H, RelV y v ∧ Acc ys (s.setGen g .running) ∧ Inv Y (pinsAt wr s.heap ++ [(a, go)]) σ H s' ∧ YP ys i m y H ∧ m ≤ n - 1 ∧ ∀ m', m' < m → W (ys ++ [y]) (i + 1) m' H → ∀ s'', Slp wr s' s'' → Acc (ys ++ [y]) (s''.setGen g .running) → s''.gens = s'.gens → GSt Y wr a go g Acc W YP QE A.in1 (n - 1) s'') E s := by
  obtain ⟨hl, ha, gs, hgs, hgo⟩ := G
  have hgl : g + 1 ≤ s.gens.size := (Array.getElem?_eq_some_iff.mp hgs).1
  refine wpAny_gsz (n := g + 1) hgl (wpAny_pyNext_genexpQ (P := fun _ s₀ s1 => ∃ ys σ H, Acc ys s₀ ∧ Inv Y (pinsAt wr s₀.heap ++ [(a, go)]) σ H s1 ∧ QE ys H) hh hl hroom (hgen _ ha) hgs (show gs.Goes _ _ _ _ _ _ _ from hgo) (fun v s1 gs' hb hv => ?_) (fun s1 hp h' hk => ?_))
  · intro hsz
    have hsz1 : g < s1.gens.size := by
      have q : (s1.setGen g gs').gens.size = s1.gens.size := setGen_size _ _ _
      omega
    obtain ⟨ys, i, m, y, σ, H, ry, hacc, I, yp, hm, hk⟩ := hv
    refine ⟨ys, i, m, y, σ, H, ry, hacc, Inv.gens I g gs' hb, yp, hm, fun m' hm' w' s'' z hacc' hg'' => ?_⟩
    have haw : a ∉ wr := fun hb => (hA a hb).2.2.2 (a, go) (List.mem_append_right _ (List.mem_singleton.mpr rfl)) rfl
    obtain ⟨k, rfl⟩ : ∃ k, n = k + 1 := ⟨n - 1, by omega⟩
    have ea := (I.pin (a, go) (List.mem_append_right _ (List.mem_append_right _ (List.mem_singleton.mpr rfl)))).1
    have ea' : s''.heap.get? a = some go := z.keep a go haw ea
    have nl : s''.heap.NoLimit := by
      refine I.ok.mod.nolimit.keeps fun b o e => z.keep b o (fun hb => ?_) (I.bk b o e)
      have h1 := (hA b hb).1
      exact absurd (Nat.lt_of_lt_of_le (Heap.lt_size e) (Nat.le_trans I.ok.bsz h1)) (Nat.lt_irrefl _)
    refine ⟨nl, ea', gs', by rw [hg'']; exact setGen_at hsz1, hk m' hm' w' _ ⟨z.os, ?_, z.keep, z.own⟩ hacc'⟩
    exact allBare_setGen z.bare rfl
  · intro _
    obtain ⟨ys, σ, H, hacc, I, q⟩ := hp
    exact ⟨ys, σ, H, s1, hacc, I, q, rfl, allBare_setGen I.bare rfl, hk⟩

theorem slp_refl {s : Shared} (hb : AllBare s.gens) : Slp [] s s := ⟨rfl, hb, fun _ _ _ e => e, fun b hb => nomatch hb⟩

/-- all over a generator -/
theorem all_drain {W : Nat → Nat → Hp → Prop} {YP : Nat → Nat → V → Hp → Prop} {QE : Hp → Prop} {A : Around} {R : Result → Shared → Prop} {QF : Hp → Prop} (hh : A.handled = none) (hd : A.depth < recursionLimit) (hgen : ∀ h : Heap, h.get? a = some go → h.IsGen a g) (hA : Aprt Y [(a, go)] [])
    (hYP : ∀ i m y H, YP i m y H → ∃ c, y = .bl c ∧ if c = true then ∃ m', m' < m ∧ W (i + 1) m' H else QF H)
    (hend : ∀ σ H s1 s', Inv Y [(a, go)] σ H s1 → QE H → s'.os = s1.os → AllBare s'.gens → (∀ b o, s1.heap.get? b = some o → s'.heap.get? b = some o) → R (.ok (.ret (.bool true))) s')
    (hcut : ∀ σ H s', Inv Y [(a, go)] σ H s' → QF H → R (.ok (.ret (.bool false))) s') :
    ∀ (n : Nat) (s : Shared), GSt Y [] a go g (fun _ _ => True) (fun _ i m H => W i m H) (fun _ i m y H => YP i m y H) (fun _ H => QE H) A.in1.in1 n s → codeAny (model Y.prog Y.w) A (.builtin "all.loop" ⟨[.ref a], []⟩) R s := by
  intro n
  induction n with
  | zero =>
    intro s G
    refine codeAny_builtin F.entry_all_loop ?_
    rw [Around.under_plainId F.plain_all_loop _]
    show wpAny _ A.in1 (pyNext (.ref a) >>= _) _ _ s
    refine wpAny_bind (wpAny_mono (gnext (A := A.in1) (E := fun _ _ => False) hh hd hgen hA G) (fun r s' h => ?_) fun _ _ e => e.elim)
    cases r with
    | none =>
      obtain ⟨ys, σ, H, s1, _, I, q, h1, h2, h3⟩ := h
      exact wpAny_bind (wpAny_rule (wpAny_pure (hend σ H s1 s' I q h1 h2 h3)))
    | some v =>
      obtain ⟨ys, i, m, y, σ, H, ry, _, I, yp, hm, hk⟩ := h
      obtain ⟨c, rfl, hc⟩ := hYP i m y H yp
      obtain rfl : v = Value.bool c := ry
      refine wpAny_bind (wpAny_holding (wpAny_truthy_bool ?_))
      refine wpAny_bind (wpAny_letGo ?_)
      cases c with
      | true =>
        obtain ⟨m', hm', _⟩ := hc
        omega
      | false =>
        simp only [Bool.false_eq_true, if_false] at hc ⊢
        exact wpAny_bind (wpAny_rule (wpAny_pure (hcut σ H s' I hc)))
  | succ n ih =>
    intro s G
    refine codeAny_builtin F.entry_all_loop ?_
    rw [Around.under_plainId F.plain_all_loop _]
    show wpAny _ A.in1 (pyNext (.ref a) >>= _) _ _ s
    refine wpAny_bind (wpAny_mono (gnext (A := A.in1) (E := fun _ _ => False) hh hd hgen hA G) (fun r s' h => ?_) fun _ _ e => e.elim)
    cases r with
    | none =>
      obtain ⟨ys, σ, H, s1, _, I, q, h1, h2, h3⟩ := h
      exact wpAny_bind (wpAny_rule (wpAny_pure (hend σ H s1 s' I q h1 h2 h3)))
    | some v =>
      obtain ⟨ys, i, m, y, σ, H, ry, _, I, yp, hm, hk⟩ := h
      obtain ⟨c, rfl, hc⟩ := hYP i m y H yp
      obtain rfl : v = Value.bool c := ry
      refine wpAny_bind (wpAny_holding (wpAny_truthy_bool ?_))
      refine wpAny_bind (wpAny_letGo ?_)
      cases c with
      | true =>
        simp only [if_true] at hc ⊢
        obtain ⟨m', hm', w'⟩ := hc
        exact wpAny_pure ⟨plainId_quiet F.plain_all_loop _, ih s' (hk m' hm' w' s' (slp_refl I.bare) True.intro rfl)⟩
      | false =>
        simp only [Bool.false_eq_true, if_false] at hc ⊢
        exact wpAny_bind (wpAny_rule (wpAny_pure (hcut σ H s' I hc)))

/-- any over a generator -/
theorem any_drain {W : Nat → Nat → Hp → Prop} {YP : Nat → Nat → V → Hp → Prop} {QE : Hp → Prop} {A : Around} {R : Result → Shared → Prop} {QF : Hp → Prop} (hh : A.handled = none) (hd : A.depth < recursionLimit) (hgen : ∀ h : Heap, h.get? a = some go → h.IsGen a g) (hA : Aprt Y [(a, go)] [])
    (hYP : ∀ i m y H, YP i m y H → ∃ c, y = .bl c ∧ if c = true then QF H else ∃ m', m' < m ∧ W (i + 1) m' H)
    (hend : ∀ σ H s1 s', Inv Y [(a, go)] σ H s1 → QE H → s'.os = s1.os → AllBare s'.gens → (∀ b o, s1.heap.get? b = some o → s'.heap.get? b = some o) → R (.ok (.ret (.bool false))) s')
    (hcut : ∀ σ H s', Inv Y [(a, go)] σ H s' → QF H → R (.ok (.ret (.bool true))) s') :
    ∀ (n : Nat) (s : Shared), GSt Y [] a go g (fun _ _ => True) (fun _ i m H => W i m H) (fun _ i m y H => YP i m y H) (fun _ H => QE H) A.in1.in1 n s → codeAny (model Y.prog Y.w) A (.builtin "any.loop" ⟨[.ref a], []⟩) R s := by
  intro n
  induction n with
  | zero =>
    intro s G
    refine codeAny_builtin F.entry_any_loop ?_
    rw [Around.under_plainId F.plain_any_loop _]
    show wpAny _ A.in1 (pyNext (.ref a) >>= _) _ _ s
    refine wpAny_bind (wpAny_mono (gnext (A := A.in1) (E := fun _ _ => False) hh hd hgen hA G) (fun r s' h => ?_) fun _ _ e => e.elim)
    cases r with
    | none =>
      obtain ⟨ys, σ, H, s1, _, I, q, h1, h2, h3⟩ := h
      exact wpAny_bind (wpAny_rule (wpAny_pure (hend σ H s1 s' I q h1 h2 h3)))
    | some v =>
      obtain ⟨ys, i, m, y, σ, H, ry, _, I, yp, hm, hk⟩ := h
      obtain ⟨c, rfl, hc⟩ := hYP i m y H yp
      obtain rfl : v = Value.bool c := ry
      refine wpAny_bind (wpAny_holding (wpAny_truthy_bool ?_))
      refine wpAny_bind (wpAny_letGo ?_)
      cases c with
      | false =>
        simp only [Bool.false_eq_true, if_false] at hc
        obtain ⟨m', hm', _⟩ := hc
        omega
      | true =>
        simp only [if_true] at hc ⊢
        exact wpAny_bind (wpAny_rule (wpAny_pure (hcut σ H s' I hc)))
  | succ n ih =>
    intro s G
    refine codeAny_builtin F.entry_any_loop ?_
    rw [Around.under_plainId F.plain_any_loop _]
    show wpAny _ A.in1 (pyNext (.ref a) >>= _) _ _ s
    refine wpAny_bind (wpAny_mono (gnext (A := A.in1) (E := fun _ _ => False) hh hd hgen hA G) (fun r s' h => ?_) fun _ _ e => e.elim)
    cases r with
    | none =>
      obtain ⟨ys, σ, H, s1, _, I, q, h1, h2, h3⟩ := h
      exact wpAny_bind (wpAny_rule (wpAny_pure (hend σ H s1 s' I q h1 h2 h3)))
    | some v =>
      obtain ⟨ys, i, m, y, σ, H, ry, _, I, yp, hm, hk⟩ := h
      obtain ⟨c, rfl, hc⟩ := hYP i m y H yp
      obtain rfl : v = Value.bool c := ry
      refine wpAny_bind (wpAny_holding (wpAny_truthy_bool ?_))
      refine wpAny_bind (wpAny_letGo ?_)
      cases c with
      | false =>
        simp only [Bool.false_eq_true, if_false] at hc ⊢
        obtain ⟨m', hm', w'⟩ := hc
        exact wpAny_pure ⟨plainId_quiet F.plain_any_loop _, ih s' (hk m' hm' w' s' (slp_refl I.bare) True.intro rfl)⟩
      | true =>
        simp only [if_true] at hc ⊢
        exact wpAny_bind (wpAny_rule (wpAny_pure (hcut σ H s' I hc)))


/-- a list S filled from a generator -/
def AccS (S : Addr) (ys : List V) (s : Shared) : Prop := ∃ acc c, s.heap.get? S = some (lstObj acc c) ∧ Vals ys acc.toList
theorem ext_drain {A : Around} {R : Result → Shared → Prop} {S : Addr} {res : Value} (hh : A.handled = none) (hd : A.depth < recursionLimit) (hgen : ∀ h : Heap, h.get? a = some go → h.IsGen a g) (hA : Aprt Y [(a, go)] [S]) (hSc : S ≠ cStatics)
    (hYP : ∀ ys i m y H, YP ys i m y H → ys.length < sizeLine ∧ ∃ m', m' < m ∧ W (ys ++ [y]) (i + 1) m' H)
    (hend : ∀ ys σ H s1 s' acc c, Inv Y ([(S, lstObj acc c)] ++ [(a, go)]) σ H s1 → Vals ys acc.toList → QE ys H → s'.os = s1.os → AllBare s'.gens → (∀ b o, s1.heap.get? b = some o → s'.heap.get? b = some o) → R (.ok (.ret res)) s') :
    ∀ (n : Nat) (s : Shared), (∃ o, s.heap.get? S = some o) → GSt Y [S] a go g (AccS S) W YP QE A.in1.in1 n s → codeAny (model Y.prog Y.w) A (.builtin "list.extend.loop" ⟨[.ref S, .ref a, res], []⟩) R s := by
  have pinS : ∀ {s s' : Shared} {ys : List V} {σ : L2.St} {H : Hp}, AccS S ys (s.setGen g .running) → Inv Y (pinsAt [S] s.heap ++ [(a, go)]) σ H s' → ∃ acc c, Vals ys acc.toList ∧ s'.heap.get? S = some (lstObj acc c) ∧ Inv Y ([(S, lstObj acc c)] ++ [(a, go)]) σ H s' := by
    intro s s' ys σ H ⟨acc, c, e, r⟩ I
    have e' : s.heap.get? S = some (lstObj acc c) := e
    have hp : (S, lstObj acc c) ∈ pinsAt [S] s.heap := mem_pinsAt (List.mem_singleton.mpr rfl) e'
    refine ⟨acc, c, r, (I.pin _ (List.mem_append_right _ (List.mem_append_left _ hp))).1, I.pins_of fun p hq => ?_⟩
    rcases List.mem_append.mp hq with z | z
    · rw [List.mem_singleton.mp z]
      exact I.pin _ (List.mem_append_right _ (List.mem_append_left _ hp))
    · exact I.pin p (List.mem_append_right _ (List.mem_append_right _ z))
  intro n
  induction n with
  | zero =>
    intro s hS G
    refine codeAny_builtin F.entry_extend_loop ?_
    rw [Around.under_plainId F.plain_extend_loop _]
    show wpAny _ A.in1 (pyNext (.ref a) >>= _) _ _ s
    refine wpAny_bind (wpAny_mono (gnext (A := A.in1) (E := fun _ _ => False) hh hd hgen hA G) (fun r s' h => ?_) fun _ _ e => e.elim)
    cases r with
    | none =>
      obtain ⟨ys, σ, H, s1, hacc, I, q, h1, h2, h3⟩ := h
      obtain ⟨acc, c, r, e, I'⟩ := pinS hacc I
      exact wpAny_pure (hend ys σ H s1 s' acc c I' r q h1 h2 h3)
    | some v =>
      obtain ⟨ys, i, m, y, σ, H, ry, hacc, I, yp, hm, hk⟩ := h
      obtain ⟨_, m', hm', _⟩ := hYP ys i m y H yp
      omega
  | succ n ih =>
    intro s hS G
    refine codeAny_builtin F.entry_extend_loop ?_
    rw [Around.under_plainId F.plain_extend_loop _]
    show wpAny _ A.in1 (pyNext (.ref a) >>= _) _ _ s
    refine wpAny_bind (wpAny_mono (gnext (A := A.in1) (E := fun _ _ => False) hh hd hgen hA G) (fun r s' h => ?_) fun _ _ e => e.elim)
    cases r with
    | none =>
      obtain ⟨ys, σ, H, s1, hacc, I, q, h1, h2, h3⟩ := h
      obtain ⟨acc, c, r, e, I'⟩ := pinS hacc I
      exact wpAny_pure (hend ys σ H s1 s' acc c I' r q h1 h2 h3)
    | some v =>
      obtain ⟨ys, i, m, y, σ, H, ry, hacc, I, yp, hm, hk⟩ := h
      obtain ⟨hlen, m', hm', w'⟩ := hYP ys i m y H yp
      obtain ⟨acc, c, r, e, I'⟩ := pinS hacc I
      have hsz : acc.size < sizeLine := by
        have e1 := r.length
        have e2 : acc.toList.length = acc.size := by simp
        omega
      show wpAny _ A.in1 (updateSeq S (·.push v) >>= _) _ _ _
      refine wpAny_bind ?_
      refine wpAny_updateSeq e rfl (wpAny_pure ⟨plainId_quiet F.plain_extend_loop _, ?_⟩) (Nat.le_of_lt hsz) (by show (acc.push v).size ≤ sizeLine + 1; rw [Array.size_push]; omega)
      have eS := Heap.get?_update_self (Obj.mapSeq (·.push v)) e rfl
      refine ih _ ⟨_, eS⟩ (hk m' hm' w' _ ⟨rfl, I.bare, fun b o hb e2 => (Heap.get?_update_other _ _ (fun z : S = b => hb (by rw [z]; exact List.mem_singleton.mpr rfl))).trans e2, fun b hb => ?_⟩ ⟨acc.push v, _, eS, ?_⟩ rfl)
      · rw [List.mem_singleton.mp hb]
        exact ⟨_, eS, fun v z => by cases z⟩
      · rw [Array.toList_push]
        exact r.append (.cons ry .nil)
end
end FW


set_option Elab.async false
set_option linter.all false
set_option maxRecDepth 100000
set_option maxHeartbeats 4000000
namespace FW
open PySem PySem.Spec PyProof.Rows L2 GenW
open LamX (TabB)

section
variable {X : Cx} {pins : List (Addr × Obj)} {σ : L2.St} {H : Hp} {s : Shared}

/-- a generator is made, not begun -/
structure GMd (X : Cx) (pins : List (Addr × Obj)) (σ : L2.St) (elt tg iter : Expr) (ifs : List Expr) (scope : Scope) (pos : Pos) (J : It) (H2 : Hp) (a : Addr) (s5 : Shared) (it : Addr) (fp : List Addr) (tn : Nat → Heap → Prop) (code : Value) (go : Obj) (g : Nat) (s4 : Shared) (ge : Env) : Prop where
  turn : Turn X.prog X.w X.K tg J fp it tn
  env : ge = genEnv scope (cloFrom X.env.cells scope.names []) s4.heap.objs.size code builtinsNs X.env
  i4 : Inv X pins σ H2 s4
  i5 : Inv X pins σ H2 s5
  fpk : ∀ b ∈ fp, FpOk X pins H2 b ∧ b < s4.heap.objs.size
  st : tn 0 s5.heap
  lt : s4.heap.objs.size < a
  sz : s5.heap.objs.size = a + 1
  obj : s5.heap.get? a = some go
  gen : ∀ h : Heap, h.get? a = some go → h.IsGen a g
  nocell : ∀ v, go.data ≠ .cell v
  fresh : s5.gens[g]? = some (.fresh (.compStart (.GeneratorExp elt [⟨tg, iter, ifs, 0⟩] scope pos) 0 (.ref it) .none ge))
  keep : ∀ b o, s4.heap.get? b = some o → s5.heap.get? b = some o
  os : s5.os = s4.os
  bare : AllBare s5.gens
  ns : ∃ m, s5.heap.Ns s4.heap.objs.size m

theorem gen_make {c P : Addr} {k : Nat} {elt tg iter : Expr} {ifs : List Expr} {scope : Scope} {own : List (Str × Nat)} {pos : Pos} {wi : TI} {R : It → Hp → Prop} {Q' : Value → Shared → Prop}
    (hr : Room k X.A) (TB : TabB X.base X.mg c P) (hcode : X.env.code = .ref c) (ok : BlkOk X.N X.env.scope scope own) (hco : scope.isCoroutine = false) (hcell : ∀ y ∈ scope.names, y.2 ≠ .cell)
    (hdot : scope.names.lookup (".0" : Str) = some NameKind.local) (hi : PI X tg iter wi) (hs : ∀ v, genFold iter X.env v = pure v) (I : Inv X pins σ H s) (h : wi σ H fun J H1 => TabG H1 P ∧ R J H1)
    (hQ : ∀ J H1 H2 a s5 it fp tn code go g s4 ge, R J H1 → Grown P H1 H2 → GMd X pins σ elt tg iter ifs scope pos J H2 a s5 it fp tn code go g s4 ge → Q' (.ref a) s5) :
    wpAny (model X.prog X.w) X.A (eval (.GeneratorExp elt [⟨tg, iter, ifs, 0⟩] scope pos) X.env) Q' X.xe s := by
  have hfree : ∀ y ∈ scope.names, y.2 = .free → ∃ c, X.env.cells.lookup y.1 = some c := fun y hy e => by
    rcases ok.free y hy e with k | k
    · exact I.ok.has _ (.inl k)
    · exact I.ok.has _ (.inr k)
  refine wpAny_GeneratorExp_make hco (closure_ok hfree) hcell hdot ok.kind hr.depth ?_ hs
  refine thn (hi.run pins s σ H _ I h) fun xv s1 hx => thn hx fun itv s2 h2 => ?_
  obtain ⟨it, fp, tn, J, H1, e, I2, T, st2, f2, ⟨ps, hP, ht⟩, hR⟩ := h2
  subst e
  have hPs : s2.heap.get? P = some { cls := .none, data := .fields ps } := I2.hok P _ hP
  have cd : PySem.W.CodeHd s2.heap c P := TB.code.keeps I2.bk
  have cont : ∀ (code : Value) (h3 : Heap) (tk : Nat) (ps' : Array Value), Heap.ExtBut P s2.heap h3 → s2.heap.objs.size ≤ h3.objs.size → h3.get? P = some { cls := .none, data := .fields ps' } → (∃ more, ps' = ps ++ more) → TriplesOk ps'.toList →
      wpAny (model X.prog X.w) X.A (builtinsFor X.env.globals X.env.builtins) (fun bi s₄ => ∀ h', h'.Ns s₄.heap.objs.size (fun y => if y = ".0" then some (.ref it) else none) → Heap.SameBut s₄.heap.objs.size (s₄.heap.push { cls := .type "frame", data := .dict #[] }) h' →
          Q' (.ref h'.objs.size) { s₄ with
            gens := s₄.gens.push (.fresh (.compStart (.GeneratorExp elt [⟨tg, iter, ifs, 0⟩] scope pos) 0 (.ref it) .none (genEnv scope (cloFrom X.env.cells scope.names []) s₄.heap.objs.size code bi X.env))),
            toks := s₄.toks + 1 + 1 + 1,
            heap := h'.push { cls := .type "generator", data := .fields #[.int s₄.gens.size 0, .str "<genexpr>" (s₄.toks + 1), .str (X.env.qual ++ "<genexpr>") (s₄.toks + 1 + 1)] } }) X.xe { s2 with heap := h3, toks := tk } := by
    intro code h3 tk ps' hx hsz hP3 hmore ht3
    obtain ⟨bm, ob, e1, e2, e3, e4, e5, e6, e7, e8⟩ := TB.bm
    obtain ⟨more, em⟩ := hmore
    have I3 : Inv X pins σ (upd H1 P (.tbl (ps ++ more))) { s2 with heap := h3, toks := tk } :=
      GxR.inv_tab (more := more) (h' := h3) (g' := s2.gens) (d' := s2.drawn) (t' := tk) I2 hP (fun b o hb e => hx b o hb e) (by rw [← em]; exact hP3) I2.bare
    have hgrown : Grown P H1 (upd H1 P (.tbl (ps ++ more))) := ⟨⟨ps ++ more, upd_same, by rw [← em]; exact ht3⟩, fun b hb => upd_ne hb⟩
    have nfpP : ∀ b ∈ fp, b ≠ P := fun b hb z => by
      have := (f2 b hb).1
      rw [z, hP] at this
      cases this
    have lt2 : ∀ b ∈ fp, b < s2.heap.objs.size := fun b hb => by
      obtain ⟨o, e, _⟩ := T.obj _ _ st2 b hb
      exact Heap.lt_size e
    refine wpAny_builtinsFor (m := X.mg) (by rw [I2.ok.glob]; exact (I2.mod.glob.keeps I2.bk).extBut hx TB.gP) e1 e2 (hx _ _ e4 (I2.bk _ _ e5)) e6 e7 e8 ?_
    intro h' hn' hs'
    have hsz' : h'.objs.size = h3.objs.size + 1 := by rw [hs'.1, Heap.size_push]
    have kp : ∀ b o, h3.get? b = some o → h'.get? b = some o := fun b o e => hs'.extBut b o (Nat.ne_of_lt (Heap.lt_size e)) (Heap.get?_push_of_some _ e)
    have kp5 : ∀ b o, h3.get? b = some o → (h'.push { cls := .type "generator", data := .fields #[.int s2.gens.size 0, .str "<genexpr>" (tk + 1), .str (X.env.qual ++ "<genexpr>") (tk + 1 + 1)] }).get? b = some o := fun b o e => Heap.get?_push_of_some _ (kp b o e)
    refine hQ J H1 _ _ _ it fp tn code _ s2.gens.size { s2 with heap := h3, toks := tk } _ hR hgrown
      ⟨T, rfl, I3, ?_, fun b hb => ⟨⟨?_, (f2 b hb).2⟩, Nat.lt_of_lt_of_le (lt2 b hb) hsz⟩, ?_, ?_, ?_, Heap.get?_push_size _ rfl, fun h e => ⟨_, _, _, e, rfl, rfl, rfl⟩, fun v q => (by cases q), Array.getElem?_push_size .., kp5, rfl, I2.bare.push rfl, ⟨_, hn'.push _⟩⟩
    · exact I3.call' (ch := []) rfl (Un.kept kp5) (I3.hok.kept kp5) (I2.bare.push rfl) fun b z => by simp at z
    · rw [upd_ne (nfpP b hb)]; exact (f2 b hb).1
    · exact T.keep _ _ _ st2 fun b hb o e => kp5 b o (hx b o (nfpP b hb) e)
    · show h3.objs.size < h'.objs.size
      omega
    · show (h'.push _).objs.size = _
      rw [Heap.size_push]
  refine ⟨I2.nolimit, ?_⟩
  cases hf : codeAmong pos ps.toList with
  | none =>
    refine wpAny_genexprCodeX hcode (cd.code hPs ht) (cd.tab hPs) hf fun c' h' tk hx hge hlt hco' _ htab' _ => ?_
    obtain ⟨o1, vs, f1, tf, fl, tg', inF, tx, tt, op, _, _, _, _, _, _, _, _, _, htr, _⟩ := hco'
    exact cont _ h' tk _ hx (Nat.le_trans hge (Nat.le_of_lt hlt)) htab'.2 ⟨_, rfl⟩ htr
  | some cv =>
    refine wpAny_genexprCode_hit hcode (cd.code hPs ht) hf ?_
    exact cont cv s2.heap s2.toks ps (Heap.ExtBut.refl _ _) (Nat.le_refl _) hPs ⟨#[], by simp⟩ ht
end
end FW


set_option Elab.async false
set_option linter.all false
set_option maxRecDepth 100000
set_option maxHeartbeats 4000000
namespace FW
open PySem PySem.Spec PyProof.Rows L2 GenW
open LamX (TabB)

section
variable {X : Cx} {pins : List (Addr × Obj)} {σ : L2.St} {H : Hp} {s : Shared}
abbrev GE (elt tg iter : Expr) (ifs : List Expr) (scope : Scope) (pos : Pos) : Expr := .GeneratorExp elt [⟨tg, iter, ifs, 0⟩] scope pos
/-- the context of the frame of a generator that is woken in the around A -/
abbrev gY (X : Cx) (A : Around) (elt tg iter : Expr) (ifs : List Expr) (scope : Scope) (pos : Pos) (H2 : Hp) (it : Addr) (fp : List Addr) (s4 : Shared) (ge : Env) : Cx :=
  gx X (A.over (.compLoop (GE elt tg iter ifs scope pos) 0 (.ref it) .none ge) []) s4 H2 ge fp
section
variable {elt tg iter : Expr} {ifs : List Expr} {scope : Scope} {own : List (Str × Nat)} {pos : Pos} {J : It} {H2 : Hp} {a : Addr} {s5 : Shared} {it : Addr} {fp : List Addr} {tn : Nat → Heap → Prop} {code : Value} {go : Obj} {g0 : Nat} {s4 : Shared} {ge : Env}

theorem gmd_gst (G : GMd X pins σ elt tg iter ifs scope pos J H2 a s5 it fp tn code go g0 s4 ge) (ok : BlkOk X.N X.env.scope scope own) (hN : X.N.Nodup) (hco : scope.isCoroutine = false) (hcell : ∀ y ∈ scope.names, y.2 ≠ .cell)
    {A : Around} (hh : A.handled = none) (hfr : A.frames = some X.stack) {g : TG} {tt : TT} {te : TE} {wr : List Addr} {Acc : List V → Shared → Prop} {W : List V → Nat → Nat → Hp → Prop} {YP : List V → Nat → Nat → V → Hp → Prop} {QE : List V → Hp → Prop}
    (pg : PG (gY X A elt tg iter ifs scope pos H2 it fp s4 ge) tg g) (pt : PTs (gY X A elt tg iter ifs scope pos H2 it fp s4 ge) ifs tt) (pe : PE (gY X A elt tg iter ifs scope pos H2 it fp s4 ge) elt te)
    (hwr : ∀ b ∈ wr, s5.heap.objs.size ≤ b)
    (turn : ∀ ys i m H, W ys i m H → (J.stop i H ∧ QE ys H) ∨ (J.go i H ∧ ∀ x H', J.yld i H x H' → g x (wipe σ (own.map (·.2))) H' fun σ2 H2 => wipe σ2 (own.map (·.2)) = wipe σ (own.map (·.2)) ∧ tt σ2 H2 fun b H3 => if b = true then te σ2 H3 fun y H4 => YP ys i m y H4 else ∃ m', m' < m ∧ W ys (i + 1) m' H3))
    {m0 : Nat} (w0 : W [] 0 m0 H2) {s2 : Shared} (kp : ∀ b o, s5.heap.get? b = some o → s2.heap.get? b = some o) (hos : s2.os = s5.os) (hb : AllBare s2.gens) (hg2 : s2.gens = s5.gens) (hown : ∀ b ∈ wr, ∃ o, s2.heap.get? b = some o ∧ ∀ v, o.data ≠ .cell v) (hacc : Acc [] (s2.setGen g0 .running)) :
    Aprt (gY X A elt tg iter ifs scope pos H2 it fp s4 ge) [(a, go)] wr ∧ GSt (gY X A elt tg iter ifs scope pos H2 it fp s4 ge) wr a go g0 Acc W YP QE A (m0 + 1) s2 := by
  obtain ⟨T, rfl, I4, I5, fpk, st, lt, sz, obj, gen, nocell, fresh, keep, os, bare, m, ns⟩ := G
  have lt5 : s4.heap.objs.size < s5.heap.objs.size := by omega
  have I0 : Inv (gY X A elt tg iter ifs scope pos H2 it fp s4 (genEnv scope (cloFrom X.env.cells scope.names []) s4.heap.objs.size code builtinsNs X.env)) [] (wipe σ (own.map (·.2))) H2 (s2.setGen g0 .running) :=
    gx_start (m := m) I4 ok hN hcell fpk hh (by
      have e : (A.over (.compLoop (GE elt tg iter ifs scope pos) 0 (.ref it) .none (genEnv scope (cloFrom X.env.cells scope.names []) s4.heap.objs.size code builtinsNs X.env)) []).frames = pushEnvs [genEnv scope (cloFrom X.env.cells scope.names []) s4.heap.objs.size code builtinsNs X.env] (pushEnvs [] A.frames) := rfl
      rw [e, hfr]; rfl) (ns.keeps kp) (fun b o e => kp b o (keep b o e)) (hos.trans os) (allBare_setGen hb rfl)
  have clt : ∀ {y c}, (cloFrom X.env.cells scope.names []).lookup y = some c → c < s4.heap.objs.size := fun {y c} e => by
    obtain ⟨h1, h2⟩ := clo_look ok.uniq e
    have hfree : ∃ c, X.env.cells.lookup y = some c := by
      rcases ok.free (y, .free) (PySem.mem_of_lookup h1) rfl with k | k
      · exact I4.ok.has _ (.inl k)
      · exact I4.ok.has _ (.inr k)
    obtain ⟨c', hc⟩ := hfree
    rw [hc] at h2
    obtain ⟨w, z⟩ := I4.cell _ _ hc
    rw [h2]
    exact z.lt
  have young : ∀ b, s4.heap.objs.size < b → H2 b = none ∧ b ≠ s4.heap.objs.size ∧ b ∉ frs X.stack := fun b hb =>
    ⟨I4.hok.fresh (Nat.le_of_lt hb), Nat.ne_of_gt hb, fun z => by
      rcases List.mem_cons.mp (I4.stkSub b z) with e | z
      · have := I4.lt
        rw [← e] at this
        exact absurd (Nat.lt_trans this hb) (Nat.lt_irrefl _)
      · exact I4.nofs (Nat.le_of_lt hb) z⟩
  have hA : Aprt (gY X A elt tg iter ifs scope pos H2 it fp s4 (genEnv scope (cloFrom X.env.cells scope.names []) s4.heap.objs.size code builtinsNs X.env)) [(a, go)] wr := fun b hb => by
    have h1 := hwr b hb
    refine ⟨by show s4.heap.objs.size ≤ b; omega, Nat.ne_of_gt (show s4.heap.objs.size < b by omega), fun x c e z => ?_, fun p hp => ?_⟩
    · have h2 := clt (show (cloFrom X.env.cells scope.names []).lookup x = some c from e)
      rw [z] at h2
      exact absurd (Nat.lt_of_lt_of_le h2 (by omega : s4.heap.objs.size ≤ b)) (Nat.lt_irrefl _)
    · have e : p = (a, go) := by
        have hp' : p ∈ ([] : List (Addr × Obj)) ++ [(a, go)] := hp
        simpa using hp'
      rw [e]
      intro z
      have h3 : a < s5.heap.objs.size := by rw [sz]; exact Nat.lt_succ_self a
      exact Nat.ne_of_lt (Nat.lt_of_lt_of_le h3 h1) z
  refine ⟨hA, I0.nolimit, kp a go obj, .fresh (.compStart (.GeneratorExp elt [⟨tg, iter, ifs, 0⟩] scope pos) 0 (.ref it) .none (genEnv scope (cloFrom X.env.cells scope.names []) s4.heap.objs.size code builtinsNs X.env)), by rw [hg2]; exact fresh, ?_⟩
  refine And.intro rfl ?_
  have ea : (s2.setGen g0 .running).heap.get? a = some go := kp a go obj
  have I1 : Inv (gY X A elt tg iter ifs scope pos H2 it fp s4 (genEnv scope (cloFrom X.env.cells scope.names []) s4.heap.objs.size code builtinsNs X.env)) (pinsAt wr (s2.setGen g0 .running).heap ++ [(a, go)]) (wipe σ (own.map (·.2))) H2 (s2.setGen g0 .running) := I0.pins_of fun p hp => by
    rcases List.mem_append.mp hp with z | z
    · obtain ⟨hb', e⟩ := of_pinsAt z
      obtain ⟨y1, y2, y3⟩ := young p.1 (by have := hwr p.1 hb'; omega)
      obtain ⟨o', e', d'⟩ := hown p.1 hb'
      have e2 : o' = p.2 := by
        have e1 : s2.heap.get? p.1 = some p.2 := e
        rw [e1] at e'; exact (Option.some.inj e').symm
      exact ⟨e, y1, y2, y3, by rw [← e2]; exact d'⟩
    · rw [List.mem_singleton.mp z]
      obtain ⟨y1, y2, y3⟩ := young a lt
      exact ⟨ea, y1, y2, y3, nocell⟩
  have loop := seg_gx (Y := gY X A elt tg iter ifs scope pos H2 it fp s4 (genEnv scope (cloFrom X.env.cells scope.names []) s4.heap.objs.size code builtinsNs X.env)) (wr := wr) (ip := [(a, go)]) (Acc := Acc) (W := W) (YP := YP) (QE := QE)
    (σ0 := wipe σ (own.map (·.2))) (vs := own.map (·.2)) T rfl rfl rfl rfl rfl hco hA (fun p hp hq => ?_) (fun b hb' hq => ?_) pg pt pe turn m0 [] 0 (m0 + 1) (s2.setGen g0 .running) (s2.setGen g0 .running) H2 (Nat.lt_succ_self _) hacc w0 I1 (T.keep _ _ _ st fun b _ o e => kp b o e) (fun b hb' => (fpk b hb').1.1) (fun b hb' => let ⟨o, e, _⟩ := hown b hb'; ⟨o, e⟩)
  · have hov : A.over (.compStart (GE elt tg iter ifs scope pos) 0 (.ref it) .none (genEnv scope (cloFrom X.env.cells scope.names []) s4.heap.objs.size code builtinsNs X.env)) [] = A.over (.compLoop (GE elt tg iter ifs scope pos) 0 (.ref it) .none (genEnv scope (cloFrom X.env.cells scope.names []) s4.heap.objs.size code builtinsNs X.env)) [] := rfl
    show Seg _ A _ _ _ _ _ ((compStart (.GeneratorExp elt [⟨tg, iter, ifs, 0⟩] scope pos) 0 (.ref it) .none _).onRaise (leaving _)) [] _
    unfold compStart
    rw [Sem.onRaise_eq_wrap]
    show Seg _ A _ _ _ _ _ ((ask >>= _).wrap _ _ _ _) [] _
    refine seg_bind_wrap (wpAny_askSetting ?_)
    have st' : tn 0 (s2.setGen g0 .running).heap := T.keep _ _ _ st fun b _ o e => kp b o e
    split
    · exact seg_again rfl loop
    · refine seg_bind_wrap (wpAny_rule ?_)
      show Seg _ A _ _ _ _ _ ((standAt iter.pos >>= _).wrap _ _ _ _) [] _
      exact seg_bind_wrap (wpAny_standAt (seg_bind_wrap (T.self _ 0 _ _ _ st' (seg_again rfl loop))))
  · have e := List.mem_singleton.mp hp
    rw [e] at hq
    exact Nat.lt_irrefl _ (Nat.lt_trans lt (fpk a hq).2)
  · exact Nat.lt_irrefl _ (Nat.lt_of_lt_of_le (Nat.lt_trans (fpk b hq).2 lt5) (hwr b hb'))

/-- back in the def's context -/
theorem gmd_back (G : GMd X pins σ elt tg iter ifs scope pos J H2 a s5 it fp tn code go g0 s4 ge) {A : Around} {ps : List (Addr × Obj)} {σ' : L2.St} {H' : Hp} {s1 s' : Shared} (I : Inv (gY X A elt tg iter ifs scope pos H2 it fp s4 ge) ps σ' H' s1)
    (hos : s'.os = s1.os) (hb : AllBare s'.gens) (hk : ∀ b o, s1.heap.get? b = some o → s'.heap.get? b = some o) : Inv X pins σ H' s' :=
  G.i4.call' (ch := fp) (hos.trans I.os) (I.base.trans (Un.kept hk)) (I.hok.kept hk) hb fun b hb => ⟨(G.fpk b hb).1.2.2.2.1, (G.fpk b hb).1.2.1, (G.fpk b hb).1.2.2.2.2.1, (G.fpk b hb).1.2.2.2.2.2⟩
end

/-- the derivations that a generator expression's parts want, in whatever frame -/
abbrev GPG (X : Cx) (k : Nat) (scope : Scope) (tg : Expr) (g : TG) : Prop := ∀ (A' : Around) (s : Shared) (H : Hp) (C : Addr) (code : Value) (fp : List Addr), Room k A' → PG (gx X A' s H (genEnv scope (cloFrom X.env.cells scope.names []) C code builtinsNs X.env) fp) tg g
abbrev GPT (X : Cx) (k : Nat) (scope : Scope) (ifs : List Expr) (tt : TT) : Prop := ∀ (A' : Around) (s : Shared) (H : Hp) (C : Addr) (code : Value) (fp : List Addr), Room k A' → PTs (gx X A' s H (genEnv scope (cloFrom X.env.cells scope.names []) C code builtinsNs X.env) fp) ifs tt
abbrev GPE (X : Cx) (k : Nat) (scope : Scope) (elt : Expr) (te : TE) : Prop := ∀ (A' : Around) (s : Shared) (H : Hp) (C : Addr) (code : Value) (fp : List Addr), Room k A' → PE (gx X A' s H (genEnv scope (cloFrom X.env.cells scope.names []) C code builtinsNs X.env) fp) elt te
/-- the scope of a generator expression -/
structure GSc (X : Cx) (scope : Scope) (own : List (Str × Nat)) : Prop where
  ok : BlkOk X.N X.env.scope scope own
  co : scope.isCoroutine = false
  cell : ∀ y ∈ scope.names, y.2 ≠ .cell
  dot : scope.names.lookup (".0" : Str) = some NameKind.local
def gscC (N : List Str) (sc scope : Scope) (own : List (Str × Nat)) : Bool :=
  blkC N sc scope own && (!scope.isCoroutine && (scope.names.all (fun y => y.2 != .cell) && scope.names.lookup (".0" : Str) == some NameKind.local))
theorem gsc_by {X : Cx} {N : List Str} {sc scope : Scope} {own : List (Str × Nat)} (h : gscC N sc scope own = true) (e1 : X.N = N := by rfl) (e2 : X.env.scope = sc := by rfl) : GSc X scope own := by
  subst e1 e2
  unfold gscC at h
  simp only [Bool.and_eq_true, Bool.not_eq_true', List.all_eq_true, bne_iff_ne, beq_iff_eq] at h
  obtain ⟨h1, h2, h3, h4⟩ := h
  exact ⟨blkOk_by h1, h2, fun y hy => h3 y hy, h4⟩

theorem room_over {k : Nat} {A : Around} (hr : Room (k + 1) A) (c : Code) (hw : c.weight = 1) (hu : c.cUnits = 3) : Room k (A.in1.in1.in1.in1.over c []) := by
  refine ⟨hr.hd, ?_, ?_⟩
  · have := hr.dp
    show A.depth + 0 + c.weight + 3 * k + 5 < _
    omega
  · have := hr.un
    show A.units + 1 + 1 + 1 + 1 + 0 + c.cUnits + 16 * k + 200 < _
    omega
theorem room_over2 {k : Nat} {A : Around} (hr : Room (k + 1) A) (c : Code) (hw : c.weight = 1) (hu : c.cUnits = 3) : Room k (A.in1.in1.over c []) := by
  refine ⟨hr.hd, ?_, ?_⟩
  · have := hr.dp
    show A.depth + 0 + c.weight + 3 * k + 5 < _
    omega
  · have := hr.un
    show A.units + 1 + 1 + 0 + c.cUnits + 16 * k + 200 < _
    omega

/-- a generator expression's walk: the iterable, the table, then an invariant W by the turn and a measure -/
def tGen (P : Addr) (wi : TI) (σ : L2.St) (H : Hp) (R : It → Hp → Prop) : Prop := wi σ H fun J H1 => TabG H1 P ∧ ∀ H2, Grown P H1 H2 → R J H2
def tAllG (P : Addr) (wi : TI) (g : TG) (tt : TT) (te : TE) (vs : List Nat) : TE := fun σ H Q => wi σ H fun J H1 => TabG H1 P ∧ ∀ H2, Grown P H1 H2 → ∃ W : Nat → Nat → Hp → Prop, (∃ m, W 0 m H2) ∧ ∀ i m H', W i m H' →
  (J.stop i H' ∧ Q (.bl true) H') ∨ (J.go i H' ∧ ∀ x H3, J.yld i H' x H3 → g x (wipe σ vs) H3 fun σ2 H4 => wipe σ2 vs = wipe σ vs ∧ tt σ2 H4 fun b H5 =>
    if b = true then te σ2 H5 fun v H6 => ∃ c, v = .bl c ∧ if c = true then ∃ m', m' < m ∧ W (i + 1) m' H6 else Q (.bl false) H6 else ∃ m', m' < m ∧ W (i + 1) m' H5)
def tAnyG (P : Addr) (wi : TI) (g : TG) (tt : TT) (te : TE) (vs : List Nat) : TE := fun σ H Q => wi σ H fun J H1 => TabG H1 P ∧ ∀ H2, Grown P H1 H2 → ∃ W : Nat → Nat → Hp → Prop, (∃ m, W 0 m H2) ∧ ∀ i m H', W i m H' →
  (J.stop i H' ∧ Q (.bl false) H') ∨ (J.go i H' ∧ ∀ x H3, J.yld i H' x H3 → g x (wipe σ vs) H3 fun σ2 H4 => wipe σ2 vs = wipe σ vs ∧ tt σ2 H4 fun b H5 =>
    if b = true then te σ2 H5 fun v H6 => ∃ c, v = .bl c ∧ if c = true then Q (.bl true) H6 else ∃ m', m' < m ∧ W (i + 1) m' H6 else ∃ m', m' < m ∧ W (i + 1) m' H5)
def tTupG (P : Addr) (wi : TI) (g : TG) (tt : TT) (te : TE) (vs : List Nat) : TE := fun σ H Q => wi σ H fun J H1 => TabG H1 P ∧ ∀ H2, Grown P H1 H2 → ∃ W : List V → Nat → Nat → Hp → Prop, (∃ m, W [] 0 m H2) ∧ ∀ ys i m H', W ys i m H' →
  (J.stop i H' ∧ ys.length ≤ sizeLine ∧ ∀ p, H' p = none → Q (.ref p) (upd H' p (.tup ys))) ∨ (J.go i H' ∧ ∀ x H3, J.yld i H' x H3 → g x (wipe σ vs) H3 fun σ2 H4 => wipe σ2 vs = wipe σ vs ∧ tt σ2 H4 fun b H5 =>
    if b = true then te σ2 H5 fun v H6 => ys.length < sizeLine ∧ ∃ m', m' < m ∧ W (ys ++ [v]) (i + 1) m' H6 else ∃ m', m' < m ∧ W ys (i + 1) m' H5)

section
variable {c P : Addr} {k : Nat} {elt tg iter : Expr} {ifs : List Expr} {scope : Scope} {own : List (Str × Nat)} {p gpos pos : Pos} {wi : TI} {g : TG} {tt : TT} {te : TE}
theorem pe_allG (hr : Room (k + 1) X.A) (hg : Gl X "all") (hm : X.mg "all" = none) (TB : TabB X.base X.mg c P) (hcode : X.env.code = .ref c) (hN : X.N.Nodup) (S : GSc X scope own) (hi : PI X tg iter wi) (pg : GPG X k scope tg g) (pt : GPT X k scope ifs tt) (pe : GPE X k scope elt te)
    (hs : ∀ v, genFold iter X.env v = pure v := by intro _; rfl)
    (he : starEach [GE elt tg iter ifs scope gpos] X.env = (false, eval (GE elt tg iter ifs scope gpos) X.env) :: starEach [] X.env := by rfl) :
    PE X (.Call (.Name "all" p) [GE elt tg iter ifs scope gpos] [] pos) (tAllG P wi g tt te (own.map (·.2))) := by
  refine ⟨fun pins s σ H Q I h => ?_⟩
  refine wpAny_Call_Name_kw (ld_blt I hg hm (by decide +kernel : bootBuiltins "all" = some (.builtin "all")) ?_)
  refine PyProof.Rows.callWith_builtin1 ?_ he (by rfl)
  rw [he]
  show wpAny _ _ (spliced ((false, eval (GE elt tg iter ifs scope gpos) X.env) :: backTo pos (starEach [] X.env))) _ _ s
  refine Calls.spliced_cons (gen_make (k := k + 1) hr TB hcode S.ok S.co S.cell S.dot hi hs I h fun J H1 H2 a s5 it fp tn code go g0 s4 ge hR hGr G => ?_)
  obtain ⟨W, ⟨m0, w0⟩, turn⟩ := hR H2 hGr
  refine Calls.spliced_nil ?_
  refine call_function_tree F.kind_all F.plain_all F.entry_all (F.args_all1 _) ?_
  unfold Builtin.«all»
  refine wpAny_bind (m := oneArg "all" _) (wpAny_pure ?_)
  refine wpAny_bind (wpAny_pyIter_gen (G.gen _ G.obj) ?_)
  have ge_eq := G.env
  have hro := room_over2 hr (.compLoop (GE elt tg iter ifs scope gpos) 0 (.ref it) .none ge) rfl rfl
  have pg' := pg _ s4 H2 s4.heap.objs.size code fp hro
  have pt' := pt _ s4 H2 s4.heap.objs.size code fp hro
  have pe' := pe _ s4 H2 s4.heap.objs.size code fp hro
  rw [← ge_eq] at pg' pt' pe'
  obtain ⟨hA, hG⟩ := gmd_gst (A := X.A.in1.in1) (wr := []) (Acc := fun _ _ => True) (W := fun _ i m H => W i m H) (YP := fun _ i m v H6 => ∃ c, v = .bl c ∧ if c = true then ∃ m', m' < m ∧ W (i + 1) m' H6 else Q (.bl false) H6) (QE := fun _ H' => Q (.bl true) H')
    G S.ok hN S.co S.cell hr.hd G.i4.ok.frames pg' pt' pe' (fun b hb => nomatch hb) (fun _ i m H' w => turn i m H' w) w0 (fun _ _ e => e) rfl G.bare rfl (fun b hb => nomatch hb) True.intro
  refine wpAny_pure ⟨plainId_quiet F.plain_all_loop _, all_drain (Y := gY X X.A.in1.in1 elt tg iter ifs scope gpos H2 it fp s4 ge) (QF := fun H' => Q (.bl false) H') hr.hd hr.depth G.gen hA (fun i m y H' yp => yp) (fun σ' H' s1 s' I' q h1 h2 h3 => ?_) (fun σ' H' s' I' q => ?_) (m0 + 1) s5 hG⟩
  · exact ⟨.bl true, H', gmd_back G I' h1 h2 h3, rfl, q⟩
  · exact ⟨.bl false, H', gmd_back G I' rfl I'.bare (fun _ _ e => e), rfl, q⟩
theorem pe_anyG (hr : Room (k + 1) X.A) (hg : Gl X "any") (hm : X.mg "any" = none) (TB : TabB X.base X.mg c P) (hcode : X.env.code = .ref c) (hN : X.N.Nodup) (S : GSc X scope own) (hi : PI X tg iter wi) (pg : GPG X k scope tg g) (pt : GPT X k scope ifs tt) (pe : GPE X k scope elt te)
    (hs : ∀ v, genFold iter X.env v = pure v := by intro _; rfl)
    (he : starEach [GE elt tg iter ifs scope gpos] X.env = (false, eval (GE elt tg iter ifs scope gpos) X.env) :: starEach [] X.env := by rfl) :
    PE X (.Call (.Name "any" p) [GE elt tg iter ifs scope gpos] [] pos) (tAnyG P wi g tt te (own.map (·.2))) := by
  refine ⟨fun pins s σ H Q I h => ?_⟩
  refine wpAny_Call_Name_kw (ld_blt I hg hm (by decide +kernel : bootBuiltins "any" = some (.builtin "any")) ?_)
  refine PyProof.Rows.callWith_builtin1 ?_ he (by rfl)
  rw [he]
  show wpAny _ _ (spliced ((false, eval (GE elt tg iter ifs scope gpos) X.env) :: backTo pos (starEach [] X.env))) _ _ s
  refine Calls.spliced_cons (gen_make (k := k + 1) hr TB hcode S.ok S.co S.cell S.dot hi hs I h fun J H1 H2 a s5 it fp tn code go g0 s4 ge hR hGr G => ?_)
  obtain ⟨W, ⟨m0, w0⟩, turn⟩ := hR H2 hGr
  refine Calls.spliced_nil ?_
  refine call_function_tree F.kind_any F.plain_any F.entry_any (F.args_any1 _) ?_
  unfold Builtin.«any»
  refine wpAny_bind (m := oneArg "any" _) (wpAny_pure ?_)
  refine wpAny_bind (wpAny_pyIter_gen (G.gen _ G.obj) ?_)
  have ge_eq := G.env
  have hro := room_over2 hr (.compLoop (GE elt tg iter ifs scope gpos) 0 (.ref it) .none ge) rfl rfl
  have pg' := pg _ s4 H2 s4.heap.objs.size code fp hro
  have pt' := pt _ s4 H2 s4.heap.objs.size code fp hro
  have pe' := pe _ s4 H2 s4.heap.objs.size code fp hro
  rw [← ge_eq] at pg' pt' pe'
  obtain ⟨hA, hG⟩ := gmd_gst (A := X.A.in1.in1) (wr := []) (Acc := fun _ _ => True) (W := fun _ i m H => W i m H) (YP := fun _ i m v H6 => ∃ c, v = .bl c ∧ if c = true then Q (.bl true) H6 else ∃ m', m' < m ∧ W (i + 1) m' H6) (QE := fun _ H' => Q (.bl false) H')
    G S.ok hN S.co S.cell hr.hd G.i4.ok.frames pg' pt' pe' (fun b hb => nomatch hb) (fun _ i m H' w => turn i m H' w) w0 (fun _ _ e => e) rfl G.bare rfl (fun b hb => nomatch hb) True.intro
  refine wpAny_pure ⟨plainId_quiet F.plain_any_loop _, any_drain (Y := gY X X.A.in1.in1 elt tg iter ifs scope gpos H2 it fp s4 ge) (QF := fun H' => Q (.bl true) H') hr.hd hr.depth G.gen hA (fun i m y H' yp => yp) (fun σ' H' s1 s' I' q h1 h2 h3 => ?_) (fun σ' H' s' I' q => ?_) (m0 + 1) s5 hG⟩
  · exact ⟨.bl false, H', gmd_back G I' h1 h2 h3, rfl, q⟩
  · exact ⟨.bl true, H', gmd_back G I' rfl I'.bare (fun _ _ e => e), rfl, q⟩
end
end
end FW


set_option Elab.async false
set_option linter.all false
set_option maxRecDepth 100000
set_option maxHeartbeats 4000000
namespace FW
open PySem PySem.Spec PyProof.Rows L2 GenW
open LamX (TabB)

section
variable {prog : Program} {w : World} {A : Around} {E : Value → Shared → Prop} {s : Shared} {a : Addr} {g : Nat}
/-- collect over a generator: the list S is made, filled by the loop, read -/
theorem collect_gx {Q : List Value → Shared → Prop} (hg : s.heap.IsGen a g)
    (h : ∀ s2 : Shared, (∀ b o, s.heap.get? b = some o → s2.heap.get? b = some o) → s2.os = s.os → s2.gens = s.gens → (∃ c, s2.heap.get? s.heap.objs.size = some (lstObj #[] c)) →
      codeAny (model prog w) A (.builtin "list.extend.loop" ⟨[.ref s.heap.objs.size, .ref a, .ref s.heap.objs.size], []⟩) (fun r s' => r = .ok (.ret (.ref s.heap.objs.size)) ∧ ∃ acc c, s'.heap.get? s.heap.objs.size = some (lstObj acc c) ∧ Q acc.toList s') s2) :
    wpAny (model prog w) A (collect (.ref a)) Q E s := by
  have hSa : s.heap.objs.size ≠ a := by
    obtain ⟨o, nm, qn, ho, _⟩ := id hg
    exact Nat.ne_of_gt (Heap.lt_size ho)
  unfold collect
  refine wpAny_bind (wpAny_runValue (codeAny_builtin F.entry_proto_collect ?_))
  rw [Around.under_plainId F.plain_proto_collect _]
  show wpAny _ A.in1 (newList [] >>= fun l => again (.builtin "list.__iadd__" ⟨[l, .ref a], []⟩)) _ _ s
  refine wpAny_bind (wpAny_newObj_type ?_)
  refine wpAny_pure ⟨plainId_quiet F.plain_list_iadd _, codeAny_builtin F.entry_list_iadd ?_⟩
  rw [Around.under_plainId F.plain_list_iadd _]
  show wpAny _ A.in1 (Builtin.List.listExtendWith (.ref s.heap.objs.size) (.ref a) (.ref s.heap.objs.size)) _ _ _
  have k1 : ∀ b o, s.heap.get? b = some o → (s.heap.push { cls := .type "list", data := .seq ([] : List Value).toArray }).get? b = some o := fun b o e => Heap.get?_push_of_some _ e
  have gty : ∀ {h : Heap}, (∀ b o, s.heap.get? b = some o → h.get? b = some o) → h.IsGen a g := fun {h} q => hg.keeps q
  unfold Builtin.List.listExtendWith
  refine wpAny_bind (wpAny_typeOf (Heap.IsGen.typeIs (s := { s with heap := _ }) (gty k1)) ?_)
  have h1 : Builtin.List.listSameRef (.ref s.heap.objs.size) (.ref a) = false := by simp [Builtin.List.listSameRef, hSa]
  have h2 : (Value.type "generator" == Value.type "list") = false := by decide
  have h3 : (Value.type "generator" == Value.type "tuple") = false := by decide
  simp only [h1, h2, h3, Bool.or_false, Bool.false_eq_true, if_false]
  refine wpAny_bind (wpAny_pyIter_gen (s := { s with heap := _ }) (gty k1) ?_)
  refine wpAny_bind (wpAny_holding ?_)
  unfold Builtin.List.listLengthHint
  refine wpAny_bind (wpAny_specialOf (Heap.IsGen.typeIs (s := { s with heap := _ }) (gty k1)) F.gen_no_len ?_)
  show wpAny _ A.in1 (specialOf (Value.ref a) (Str.ofString "__length_hint__") >>= _) _ _ _
  refine wpAny_bind (wpAny_specialOf (Heap.IsGen.typeIs (s := { s with heap := _ }) (gty k1)) F.gen_no_hint ?_)
  refine wpAny_pure ?_
  show wpAny _ A.in1 (rule "list.extend.makes-room" >>= fun _ => Builtin.List.listTouch (.ref s.heap.objs.size) >>= fun _ =>
    again (.builtin "list.extend.loop" ⟨[.ref s.heap.objs.size, .ref a, .ref s.heap.objs.size], []⟩)) _ _ _
  refine wpAny_bind (wpAny_rule ?_)
  have hS₁ : (s.heap.push { cls := .type "list", data := .seq ([] : List Value).toArray }).get? s.heap.objs.size = some { cls := .type "list", data := .seq ([] : List Value).toArray } := Heap.get?_push_size _ rfl
  refine wpAny_bind ?_
  show wpAny _ A.in1 (updateSeq s.heap.objs.size (·.push .none) >>= fun _ => updateSeq s.heap.objs.size (·.pop)) _ _ _
  refine wpAny_bind (wpAny_updateSeq hS₁ rfl ?_)
  have hS₂ := Heap.get?_update_self (Obj.mapSeq (·.push Value.none)) hS₁ rfl
  refine wpAny_updateSeq hS₂ rfl ?_
  have hS₃ := Heap.get?_update_self (Obj.mapSeq (·.pop)) hS₂ rfl
  have up : ∀ (h : Heap) (f : Obj → Obj), (∀ b o, s.heap.get? b = some o → h.get? b = some o) → ∀ b o, s.heap.get? b = some o → (h.update s.heap.objs.size f).get? b = some o := fun h f q b o e =>
    (Heap.get?_update_other _ _ (Ne.symm (Nat.ne_of_lt (Heap.lt_size e)))).trans (q b o e)
  refine wpAny_pure ⟨plainId_quiet F.plain_extend_loop _, codeAny_mono (h _ (up _ _ (up _ _ k1)) rfl rfl ⟨_, hS₃⟩) fun r s' hr => ?_⟩
  obtain ⟨rfl, acc, c, eS, hq⟩ := hr
  show wpAny _ A (load s.heap.objs.size >>= _) _ _ s'
  refine wpAny_bind (wpAny_load eS ?_)
  exact wpAny_pure hq

theorem code_tuple_gx {Q₁ : Value → Shared → Prop} (hg : s.heap.IsGen a g)
    (h : ∀ s2 : Shared, (∀ b o, s.heap.get? b = some o → s2.heap.get? b = some o) → s2.os = s.os → s2.gens = s.gens → (∃ c, s2.heap.get? s.heap.objs.size = some (lstObj #[] c)) →
      codeAny (model prog w) A.in1 (.builtin "list.extend.loop" ⟨[.ref s.heap.objs.size, .ref a, .ref s.heap.objs.size], []⟩) (fun r s' => r = .ok (.ret (.ref s.heap.objs.size)) ∧ ∃ acc c, s'.heap.get? s.heap.objs.size = some (lstObj acc c) ∧ acc.size ≤ sizeLine ∧
        Q₁ (.ref s'.heap.objs.size) { s' with heap := s'.heap.push { cls := .type "tuple", data := .seq acc } }) s2) :
    codeAny (model prog w) A (.call (.builtin "tuple.__new__") ⟨[.type "tuple", .ref a], []⟩) (wants Q₁ E) s := by
  refine codeAny_of_tree ?_
  show wpAny _ A.in1 (do checkBuiltinCall "tuple.__new__" ⟨[.type "tuple", .ref a], []⟩; again (.builtin "tuple.__new__" ⟨[.type "tuple", .ref a], []⟩)) _ _ s
  refine wpAny_bind (wpAny_of_eq (F.newCall_tuple_1 _) (wpAny_pure ⟨plainId_quiet F.plain_tuple_new _, codeAny_builtin F.entry_tuple_new ?_⟩))
  rw [Around.under_plainId F.plain_tuple_new _]
  have hsub := sub_tuple_self
  have hinit := init_tuple_lookup
  have hmh := madeHere_tuple
  have hTI : s.TypeIs (.ref a) "generator" := hg.typeIs
  have hcol : ∀ (Q : List Value → Shared → Prop) (E : Value → Shared → Prop), (∀ s' acc, acc.size ≤ sizeLine → Q₁ (.ref s'.heap.objs.size) { s' with heap := s'.heap.push { cls := .type "tuple", data := .seq acc } } → Q acc.toList s') → wpAny (model prog w) A.in1 (collect (.ref a)) Q E s := fun Q E hQ =>
    collect_gx hg fun s2 h1 h2 h3 h4 => codeAny_mono (h s2 h1 h2 h3 h4) fun r s' ⟨e, acc, c, eS, hz, q⟩ => ⟨e, acc, c, eS, hQ s' acc hz q⟩
  wp_walk using wpAny_typeOf hTI, hcol
  intro s' acc hz hacc
  show wpAny _ _ (Builtin.Tuple.tupleExact acc.toList.toArray >>= fun v => ret v) _ _ _
  unfold Builtin.Tuple.tupleExact
  have e : acc.toList.toArray = acc := by simp
  refine wpAny_bind (wpAny_newObj_type ?_ (by show acc.toList.toArray.size ≤ sizeLine; rw [e]; exact hz))
  refine wpAny_pure ?_
  rw [e]
  exact hacc
theorem call_tuple_gx {Q : Value → Shared → Prop} (hg : s.heap.IsGen a g)
    (h : ∀ s2 : Shared, (∀ b o, s.heap.get? b = some o → s2.heap.get? b = some o) → s2.os = s.os → s2.gens = s.gens → (∃ c, s2.heap.get? s.heap.objs.size = some (lstObj #[] c)) →
      codeAny (model prog w) A.in1.in1 (.builtin "list.extend.loop" ⟨[.ref s.heap.objs.size, .ref a, .ref s.heap.objs.size], []⟩) (fun r s' => r = .ok (.ret (.ref s.heap.objs.size)) ∧ ∃ acc c, s'.heap.get? s.heap.objs.size = some (lstObj acc c) ∧ acc.size ≤ sizeLine ∧
        Q (.ref s'.heap.objs.size) { s' with heap := s'.heap.push { cls := .type "tuple", data := .seq acc } }) s2) :
    wpAny (model prog w) A (call (.type "tuple") [.ref a]) Q E s := by
  refine callType_codes (Q₁ := fun obj s₁ => s₁.TypeIs obj "tuple" ∧ Q obj s₁) F.called_tuple (F.typeCall_tuple_1 _) F.entry_object_init
    (code_tuple_gx hg fun s2 h1 h2 h3 h4 => codeAny_mono (h s2 h1 h2 h3 h4) fun r s' ⟨e, acc, c, eS, hz, q⟩ => ⟨e, acc, c, eS, hz, ⟨_, Heap.get?_push_size _ rfl, rfl⟩, q⟩) fun obj s₁ h₁ => ?_
  exact ⟨h₁.1, F.args_object_init_2 obj _, object_init_meets F.called_tuple.init.lookup F.called_tuple.made (by decide) prog w A.in1 _ s₁ ⟨h₁.1, rfl, h₁.2⟩⟩
end

section
variable {X : Cx} {pins : List (Addr × Obj)} {σ : L2.St} {H : Hp} {s : Shared}
variable {c P : Addr} {k : Nat} {elt tg iter : Expr} {ifs : List Expr} {scope : Scope} {own : List (Str × Nat)} {p gpos pos : Pos} {wi : TI} {g : TG} {tt : TT} {te : TE}
theorem pe_tupG (hr : Room (k + 1) X.A) (hg : Gl X "tuple") (hm : X.mg "tuple" = none) (TB : TabB X.base X.mg c P) (hcode : X.env.code = .ref c) (hN : X.N.Nodup) (S : GSc X scope own) (hi : PI X tg iter wi) (pg : GPG X k scope tg g) (pt : GPT X k scope ifs tt) (pe : GPE X k scope elt te)
    (hs : ∀ v, genFold iter X.env v = pure v := by intro _; rfl)
    (he : starEach [GE elt tg iter ifs scope gpos] X.env = (false, eval (GE elt tg iter ifs scope gpos) X.env) :: starEach [] X.env := by rfl) :
    PE X (.Call (.Name "tuple" p) [GE elt tg iter ifs scope gpos] [] pos) (tTupG P wi g tt te (own.map (·.2))) := by
  refine ⟨fun pins s σ H Q I h => ?_⟩
  refine wpAny_Call_Name_kw (ld_blt I hg hm (by decide +kernel : bootBuiltins "tuple" = some (.type "tuple")) ?_)
  refine PyProof.Rows.callWith_type1 ?_ he (by rfl)
  rw [he]
  show wpAny _ _ (spliced ((false, eval (GE elt tg iter ifs scope gpos) X.env) :: backTo pos (starEach [] X.env))) _ _ s
  refine Calls.spliced_cons (gen_make (k := k + 1) hr TB hcode S.ok S.co S.cell S.dot hi hs I h fun J H1 H2 a s5 it fp tn code go g0 s4 ge hR hGr G => ?_)
  obtain ⟨W, ⟨m0, w0⟩, turn⟩ := hR H2 hGr
  refine Calls.spliced_nil ?_
  have ge_eq := G.env
  have hro := room_over hr (.compLoop (GE elt tg iter ifs scope gpos) 0 (.ref it) .none ge) rfl rfl
  have pg' := pg _ s4 H2 s4.heap.objs.size code fp hro
  have pt' := pt _ s4 H2 s4.heap.objs.size code fp hro
  have pe' := pe _ s4 H2 s4.heap.objs.size code fp hro
  rw [← ge_eq] at pg' pt' pe'
  refine call_tuple_gx (G.gen _ G.obj) fun s2 h1 h2 h3 ⟨cS, h4⟩ => ?_
  have bare2 : AllBare s2.gens := by rw [h3]; exact G.bare
  obtain ⟨hA, hG⟩ := gmd_gst (A := X.A.in1.in1.in1.in1) (wr := [s5.heap.objs.size]) (Acc := AccS s5.heap.objs.size) (W := W) (YP := fun ys i m v H6 => ys.length < sizeLine ∧ ∃ m', m' < m ∧ W (ys ++ [v]) (i + 1) m' H6) (QE := fun ys H' => ys.length ≤ sizeLine ∧ ∀ p, H' p = none → Q (.ref p) (upd H' p (.tup ys)))
    G S.ok hN S.co S.cell hr.hd G.i4.ok.frames pg' pt' pe' (fun b hb => by rw [List.mem_singleton.mp hb]; exact Nat.le_refl _) turn w0 h1 h2 bare2 h3 (fun b hb => by rw [List.mem_singleton.mp hb]; exact ⟨_, h4, fun v z => by cases z⟩) ⟨_, _, h4, .nil⟩
  have hcl : cStatics < s5.heap.objs.size := let ⟨_, hn, _⟩ := G.i5.nolimit; hn.lt
  refine ext_drain (A := X.A.in1.in1) (Y := gY X X.A.in1.in1.in1.in1 elt tg iter ifs scope gpos H2 it fp s4 ge) hr.hd hr.depth G.gen hA (Nat.ne_of_gt hcl) (fun ys i m y H' yp => yp) (fun ys σ' H' s1 s' acc c I' r q e1 e2 e3 => ?_) (m0 + 1) s2 ⟨_, h4⟩ hG
  obtain ⟨hz, q⟩ := q
  have I6 := gmd_back G I' e1 e2 e3
  have eS : s'.heap.get? s5.heap.objs.size = some (lstObj acc c) := e3 _ _ (I'.pin (s5.heap.objs.size, lstObj acc c) (List.mem_append_right _ (List.mem_append_left _ (List.mem_singleton.mpr rfl)))).1
  have hz2 : acc.size ≤ sizeLine := by
    have e1 := r.length
    have e2 : acc.toList.length = acc.size := by simp
    omega
  have hf : H' s'.heap.objs.size = none := I6.hok.fresh (Nat.le_refl _)
  refine ⟨rfl, acc, c, eS, hz2, .ref s'.heap.objs.size, upd H' s'.heap.objs.size (.tup ys), ?_, rfl, q _ hf⟩
  refine I6.laid (t' := s'.toks) (fun b u e => Heap.get?_push_of_some _ e) (Nat.le_refl _) ⟨hz, acc.toList, r, ⟨_, Heap.get?_push_size _ rfl, rfl, 0, ?_⟩⟩
  simp
end
end FW


set_option Elab.async false
set_option linter.all false
set_option maxRecDepth 100000
set_option maxHeartbeats 4000000
namespace FW
open PySem PySem.Spec PyProof.Rows L2 StX

/-! ### what a pure call may change: new objects, tables that grow -/
structure Ext (H H' : Hp) : Prop where
  keep : ∀ b o, H b = some o → (∀ ps, o ≠ .tbl ps) → H' b = some o
  tab : ∀ P, TabG H P → TabG H' P
  free : ∀ b, H' b = none → H b = none
theorem Ext.refl (H : Hp) : Ext H H := ⟨fun _ _ h _ => h, fun _ h => h, fun _ h => h⟩
theorem Ext.trans {H H1 H2 : Hp} (a : Ext H H1) (b : Ext H1 H2) : Ext H H2 :=
  ⟨fun c o h n => b.keep c o (a.keep c o h n) n, fun P h => b.tab P (a.tab P h), fun c h => a.free c (b.free c h)⟩
theorem TabG.upd {H : Hp} {P p : Addr} {o : HO} (h : H p = none) (t : TabG H P) : TabG (upd H p o) P := by
  obtain ⟨ps, e, q⟩ := t
  exact ⟨ps, by rw [upd_ne (ne_of_none e h)]; exact e, q⟩
theorem Ext.new {H : Hp} {p : Addr} {o : HO} (h : H p = none) : Ext H (upd H p o) :=
  ⟨fun a u e _ => by rw [upd_ne (ne_of_none e h)]; exact e, fun P t => t.upd h, fun b e => by
    by_cases hb : b = p
    · rw [hb, upd_same] at e; cases e
    · rw [upd_ne hb] at e; exact e⟩
/-- an object that H does not know may change -/
theorem Ext.mut {H H' : Hp} {p : Addr} {o : HO} (e : Ext H H') (h : H p = none) : Ext H (upd H' p o) :=
  ⟨fun a u ha n => by rw [upd_ne (ne_of_none ha h)]; exact e.keep a u ha n, fun P t => by
    obtain ⟨ps, e1, q⟩ := t
    obtain ⟨ps', e2, q'⟩ := e.tab P ⟨ps, e1, q⟩
    exact ⟨ps', by rw [upd_ne (ne_of_none e1 h)]; exact e2, q'⟩, fun b e1 => by
    by_cases hb : b = p
    · rw [hb]; exact h
    · rw [upd_ne hb] at e1; exact e.free b e1⟩
theorem Ext.grown {H H' : Hp} {P : Addr} (t : TabG H P) (g : Grown P H H') : Ext H H' := by
  obtain ⟨t', k⟩ := g
  obtain ⟨ps, e, q⟩ := t
  obtain ⟨ps', e', q'⟩ := t'
  refine ⟨fun b o hb n => ?_, fun P' tt => ?_, fun b hb => ?_⟩
  · have nb : b ≠ P := fun z => by
      rw [z, e] at hb
      exact n ps (Option.some.inj hb).symm
    rw [k b nb]; exact hb
  · by_cases hP : P' = P
    · rw [hP]; exact ⟨ps', e', q'⟩
    · obtain ⟨qs, e2, q2⟩ := tt
      exact ⟨qs, by rw [k P' hP]; exact e2, q2⟩
  · by_cases hP : b = P
    · rw [hP, e'] at hb; cases hb
    · rw [k b hP] at hb; exact hb
/-- back to fresh -/
theorem Ext.fresh {H H' : Hp} {p : Addr} (e : Ext H H') (h : H' p = none) : H p = none := e.free p h
theorem Ext.lst {H H' : Hp} {a : Addr} {xs : List V} (e : Ext H H') (h : H a = some (.lst xs)) : H' a = some (.lst xs) := e.keep a _ h (fun _ z => by cases z)
theorem Ext.tup {H H' : Hp} {a : Addr} {xs : List V} (e : Ext H H') (h : H a = some (.tup xs)) : H' a = some (.tup xs) := e.keep a _ h (fun _ z => by cases z)
theorem Ext.ins {H H' : Hp} {a C dx : Addr} {fs : List (Str × V)} (e : Ext H H') (h : H a = some (.ins C dx fs)) : H' a = some (.ins C dx fs) := e.keep a _ h (fun _ z => by cases z)
theorem Ext.dK {H H' : Hp} {a : Addr} {kvs : List (Key × V)} (e : Ext H H') (h : H a = some (.dK kvs)) : H' a = some (.dK kvs) := e.keep a _ h (fun _ z => by cases z)

section
variable {K : PySem.W.Frag} {H H' : Hp} {a : Addr} {xs : List V}
theorem Ext.sqL (e : Ext H H') (h : SqL K H a xs) : SqL K H' a xs := by
  rcases h with (h | ⟨o, h⟩) | h
  · exact .inl (.inl (e.keep _ _ h (fun _ z => by cases z)))
  · exact .inl (.inr ⟨o, e.keep _ _ h (fun _ z => by cases z)⟩)
  · exact .inr h
theorem Ext.sqT (e : Ext H H') (h : SqT K H a xs) : SqT K H' a xs := by
  rcases h with (h | ⟨o, h⟩) | h
  · exact .inl (.inl (e.keep _ _ h (fun _ z => by cases z)))
  · exact .inl (.inr ⟨o, e.keep _ _ h (fun _ z => by cases z)⟩)
  · exact .inr h
theorem sqL_of (h : H a = some (.lst xs)) : SqL K H a xs := .inl (.inl h)
theorem sqT_of (h : H a = some (.tup xs)) : SqT K H a xs := .inl (.inl h)
theorem sz_of {n : Nat} (h : n ≤ 100000) : n ≤ sizeLine := Nat.le_trans h (by decide)
theorem sz_lt {n : Nat} (h : n < 100000) : n < sizeLine := Nat.lt_of_lt_of_le h (by decide)
mutual
theorem Ext.dp (e : Ext H H') : ∀ {v : V} {d : PyData}, Dp K H v d → Dp K H' v d
  | _, _, .non => .non
  | _, _, .bl b => .bl b
  | _, _, .int i => .int i
  | _, _, .str x => .str x
  | _, _, .lst h t => .lst (e.sqL h) (e.dps t)
  | _, _, .tup h t => .tup (e.sqT h) (e.dps t)
theorem Ext.dps (e : Ext H H') : ∀ {vs : List V} {ds : List PyData}, DpAll K H vs ds → DpAll K H' vs ds
  | _, _, .nil => .nil
  | _, _, .cons h t => .cons (e.dp h) (e.dps t)
end
end
end FW
namespace L2
section
variable {K : PySem.W.Frag} {H : Hp}
open PySem
theorem DpAll.len : ∀ {vs : List V} {ds : List PyData}, DpAll K H vs ds → vs.length = ds.length
  | _, _, .nil => rfl
  | _, _, .cons _ t => by rw [List.length_cons, List.length_cons, DpAll.len t]
theorem DpAll.get : ∀ {vs : List V} {ds : List PyData} {i : Nat} {v : V}, DpAll K H vs ds → vs[i]? = some v → ∃ d, ds[i]? = some d ∧ Dp K H v d
  | _, _, _, _, .nil, e => by simp at e
  | _, _, 0, _, .cons h _, e => by simp at e; subst e; exact ⟨_, rfl, h⟩
  | _, _, i + 1, v, .cons _ t, e => by
    obtain ⟨d, h1, h2⟩ := DpAll.get (i := i) (v := v) t (by simpa using e)
    exact ⟨d, by simpa using h1, h2⟩
theorem DpAll.got : ∀ {vs : List V} {ds : List PyData} {i : Nat} {d : PyData}, DpAll K H vs ds → ds[i]? = some d → ∃ v, vs[i]? = some v ∧ Dp K H v d
  | _, _, _, _, .nil, e => by simp at e
  | _, _, 0, _, .cons h _, e => by simp at e; subst e; exact ⟨_, rfl, h⟩
  | _, _, i + 1, d, .cons _ t, e => by
    obtain ⟨v, h1, h2⟩ := DpAll.got (i := i) (d := d) t (by simpa using e)
    exact ⟨v, by simpa using h1, h2⟩
theorem DpAll.app : ∀ {vs ws : List V} {ds es : List PyData}, DpAll K H vs ds → DpAll K H ws es → DpAll K H (vs ++ ws) (ds ++ es)
  | _, _, _, _, .nil, s => s
  | _, _, _, _, .cons h t, s => .cons h (DpAll.app t s)
theorem DpAll.take : ∀ {vs : List V} {ds : List PyData} (n : Nat), DpAll K H vs ds → DpAll K H (vs.take n) (ds.take n)
  | _, _, 0, _ => by simp; exact .nil
  | _, _, n + 1, .nil => by simp; exact .nil
  | _, _, n + 1, .cons h t => .cons h (DpAll.take n t)
theorem DpAll.drop : ∀ {vs : List V} {ds : List PyData} (n : Nat), DpAll K H vs ds → DpAll K H (vs.drop n) (ds.drop n)
  | _, _, 0, h => h
  | _, _, n + 1, .nil => .nil
  | _, _, n + 1, .cons _ t => DpAll.drop n t
theorem DpAll.rep {v : V} {d : PyData} (h : Dp K H v d) : ∀ n : Nat, DpAll K H (List.replicate n v) (List.replicate n d)
  | 0 => .nil
  | n + 1 => .cons h (DpAll.rep h n)
end
end L2
namespace FW
open PySem PySem.Spec PyProof.Rows L2 StX
section
variable {K : PySem.W.Frag} {H H' : Hp} {a : Addr} {xs : List V}
theorem dp_int {v : V} {i : Int} (h : Dp K H v (.int i)) : v = .int i := by cases h; rfl
theorem dp_bl {v : V} {b : Bool} (h : Dp K H v (.bool b)) : v = .bl b := by cases h; rfl
theorem dp_str {v : V} {x : Str} (h : Dp K H v (.str x)) : v = .str x := by cases h; rfl
theorem dp_non {v : V} (h : Dp K H v .none) : v = .non := by cases h; rfl
theorem dp_tup {v : V} {ds : List PyData} (h : Dp K H v (.tuple ds)) : ∃ a xs, v = .ref a ∧ SqT K H a xs ∧ DpAll K H xs ds := by cases h with | tup h t => exact ⟨_, _, rfl, h, t⟩
theorem dp_lst {v : V} {ds : List PyData} (h : Dp K H v (.list ds)) : ∃ a xs, v = .ref a ∧ SqL K H a xs ∧ DpAll K H xs ds := by cases h with | lst h t => exact ⟨_, _, rfl, h, t⟩
theorem dps_nil {vs : List V} (h : DpAll K H vs []) : vs = [] := by cases h; rfl
theorem dps_cons {vs : List V} {d : PyData} {ds : List PyData} (h : DpAll K H vs (d :: ds)) : ∃ v ws, vs = v :: ws ∧ Dp K H v d ∧ DpAll K H ws ds := by cases h with | cons h t => exact ⟨_, _, rfl, h, t⟩
theorem dps_ints : ∀ {ns : List Int}, DpAll K H (ns.map V.int) (ns.map PyData.int)
  | [] => .nil
  | n :: ns => .cons (.int n) dps_ints
theorem of_dps_ints : ∀ {ns : List Int} {vs : List V}, DpAll K H vs (ns.map PyData.int) → vs = ns.map V.int
  | [], vs, h => by cases h; rfl
  | n :: ns, vs, h => by
    obtain ⟨v, ws, rfl, h1, h2⟩ := dps_cons h
    rw [dp_int h1, of_dps_ints h2]; rfl
end

/-! ### what a reading comes to -/
def Ev (te : TE) (σ : L2.St) (H : Hp) (P : V → Hp → Prop) : Prop := ∀ H1, Ext H H1 → ∀ Q : VK, (∀ v H2, Ext H1 H2 → P v H2 → Q v H2) → te σ H1 Q
def EvT (tt : TT) (σ : L2.St) (H : Hp) (b : Bool) : Prop := ∀ H1, Ext H H1 → ∀ Q : Bool → Hp → Prop, (∀ H2, Ext H1 H2 → Q b H2) → tt σ H1 Q
def EvA (ta : TA) (σ : L2.St) (H : Hp) (P : List V → Hp → Prop) : Prop := ∀ H1, Ext H H1 → ∀ Q : List V → Hp → Prop, (∀ vs H2, Ext H1 H2 → P vs H2 → Q vs H2) → ta σ H1 Q
/-- a datum -/
abbrev EvD (K : PySem.W.Frag) (te : TE) (σ : L2.St) (H : Hp) (d : PyData) : Prop := Ev te σ H fun v H2 => Dp K H2 v d
abbrev EvDs (K : PySem.W.Frag) (ta : TA) (σ : L2.St) (H : Hp) (ds : List PyData) : Prop := EvA ta σ H fun vs H2 => DpAll K H2 vs ds
/-- a new list of data, its place fresh at H -/
abbrev EvL (K : PySem.W.Frag) (te : TE) (σ : L2.St) (H : Hp) (ds : List PyData) : Prop := Ev te σ H fun v H2 => ∃ p xs, v = .ref p ∧ H p = none ∧ H2 p = some (.lst xs) ∧ DpAll K H2 xs ds

section
variable {K : PySem.W.Frag} {σ : L2.St} {H H' : Hp} {ta tb te tx : TE} {t u : TT} {P : V → Hp → Prop} {d e : PyData} {ds : List PyData} {b : Bool}
theorem Ev.mono (x : Ext H H') (h : Ev te σ H P) : Ev te σ H' P := fun H1 a Q q => h H1 (x.trans a) Q q
theorem EvT.mono (x : Ext H H') (h : EvT t σ H b) : EvT t σ H' b := fun H1 a Q q => h H1 (x.trans a) Q q
theorem EvA.mono {ta : TA} {P : List V → Hp → Prop} (x : Ext H H') (h : EvA ta σ H P) : EvA ta σ H' P := fun H1 a Q q => h H1 (x.trans a) Q q
theorem Ev.imp {P' : V → Hp → Prop} (h : Ev te σ H P) (k : ∀ v H2, Ext H H2 → P v H2 → P' v H2) : Ev te σ H P' := fun H1 a Q q => h H1 a Q fun v H2 x p => q v H2 x (k v H2 (a.trans x) p)
theorem EvD.is {d' : PyData} (h : EvD K te σ H d) (e : d = d') : EvD K te σ H d' := by rw [← e]; exact h
theorem EvT.is {b' : Bool} (h : EvT t σ H b) (e : b = b') : EvT t σ H b' := by rw [← e]; exact h
/-- .. without asking how the heap is -/
theorem Ev.go (h : Ev te σ H P) {Q : VK} (k : ∀ v H1, Ext H H1 → P v H1 → Q v H1) : te σ H Q := h H (Ext.refl H) Q k
theorem EvT.go (h : EvT t σ H b) {Q : Bool → Hp → Prop} (k : ∀ H1, Ext H H1 → Q b H1) : t σ H Q := h H (Ext.refl H) Q k
theorem EvA.go {ta : TA} {P : List V → Hp → Prop} (h : EvA ta σ H P) {Q : List V → Hp → Prop} (k : ∀ vs H1, Ext H H1 → P vs H1 → Q vs H1) : ta σ H Q := h H (Ext.refl H) Q k

/-! names, constants -/
theorem ev_var {i : Nat} {v : V} (h : σ[i]? = some (some v)) (hp : ∀ H2, Ext H H2 → P v H2) : Ev (tVar i) σ H P := fun H1 x _ q => ⟨v, h, q v H1 (Ext.refl H1) (hp H1 x)⟩
theorem ed_var {i : Nat} {v : V} (h : σ[i]? = some (some v)) (hd : Dp K H v d) : EvD K (tVar i) σ H d := ev_var h fun _ x => x.dp hd
theorem ev_c {v : V} (hp : ∀ H2, Ext H H2 → P v H2) : Ev (tC v) σ H P := fun H1 x _ q => q v H1 (Ext.refl H1) (hp H1 x)
theorem ed_int {i : Int} : EvD K (tC (.int i)) σ H (.int i) := ev_c fun _ _ => .int i
theorem ed_bl {b : Bool} : EvD K (tC (.bl b)) σ H (.bool b) := ev_c fun _ _ => .bl b
theorem ed_str {x : Str} : EvD K (tC (.str x)) σ H (.str x) := ev_c fun _ _ => .str x
theorem ed_non : EvD K (tC .non) σ H .none := ev_c fun _ _ => .non

/-! operators -/
def RV (K : PySem.W.Frag) (r : R2) (d e : PyData) (H : Hp) (P : V → Hp → Prop) : Prop := ∀ x y H1, Ext H H1 → Dp K H1 x d → Dp K H1 y e → ∀ Q : VK, (∀ v H2, Ext H1 H2 → P v H2 → Q v H2) → r x y H1 Q
theorem ev_op {r : R2} (ha : EvD K ta σ H d) (hb : EvD K tb σ H e) (hr : RV K r d e H P) : Ev (tOp r ta tb) σ H P := fun H1 x Q q =>
  ha H1 x _ fun v H2 x2 dv => hb H2 (x.trans x2) _ fun w H3 x3 dw => hr v w H3 ((x.trans x2).trans x3) (x3.dp dv) dw Q fun z H4 x4 p => q z H4 ((x2.trans x3).trans x4) p
theorem rv_I0 {g : Int → Int → V} {i j : Int} (hp : ∀ H2, Ext H H2 → P (g i j) H2) : RV K (rI0 g) (.int i) (.int j) H P := fun x y H1 e h1 h2 Q q => ⟨i, j, dp_int h1, dp_int h2, q _ H1 (Ext.refl H1) (hp H1 e)⟩
theorem rv_I {C : Int → Int → Prop} {g : Int → Int → V} {i j : Int} (hc : C i j) (hp : ∀ H2, Ext H H2 → P (g i j) H2) : RV K (rI C g) (.int i) (.int j) H P := fun x y H1 e h1 h2 Q q => ⟨i, j, dp_int h1, dp_int h2, hc, q _ H1 (Ext.refl H1) (hp H1 e)⟩
theorem ed_I0i {g : Int → Int → Int} {i j : Int} (ha : EvD K ta σ H (.int i)) (hb : EvD K tb σ H (.int j)) : EvD K (tOp (rI0 fun a b => .int (g a b)) ta tb) σ H (.int (g i j)) := ev_op ha hb (rv_I0 fun _ _ => .int _)
theorem ed_Ii {C : Int → Int → Prop} {g : Int → Int → Int} {i j : Int} (ha : EvD K ta σ H (.int i)) (hb : EvD K tb σ H (.int j)) (hc : C i j) : EvD K (tOp (rI C fun a b => .int (g a b)) ta tb) σ H (.int (g i j)) := ev_op ha hb (rv_I hc fun _ _ => .int _)
theorem ed_I0b {g : Int → Int → Bool} {i j : Int} (ha : EvD K ta σ H (.int i)) (hb : EvD K tb σ H (.int j)) : EvD K (tOp (rI0 fun a b => .bl (g a b)) ta tb) σ H (.bool (g i j)) := ev_op ha hb (rv_I0 fun _ _ => .bl _)
theorem ed_un {g : Int → Int} {i : Int} (ha : EvD K ta σ H (.int i)) : EvD K (tUn (rU fun a => .int (g a)) ta) σ H (.int (g i)) := fun H1 x Q q =>
  ha H1 x _ fun v H2 x2 dv => ⟨i, dp_int dv, q _ H2 x2 (.int _)⟩
/-- == of ints, bools, texts, None -/
def scalD : PyData → Option V
  | .none => some .non
  | .bool b => some (.bl b)
  | .int i => some (.int i)
  | .str x => some (.str x)
  | _ => none
theorem dp_scal {v w : V} (h : Dp K H v d) (e : scalD d = some w) : v = w := by
  cases h <;> (simp only [scalD] at e; first | (cases e; rfl) | cases e)
theorem ed_eq {v w : V} (ha : EvD K ta σ H d) (hb : EvD K tb σ H e) (h1 : scalD d = some v := by rfl) (h2 : scalD e = some w := by rfl) (hs : scal v w = true := by rfl) : EvD K (tOp rEq ta tb) σ H (.bool (decide (v = w))) :=
  ev_op ha hb fun x y H1 _ p1 p2 Q q => by
    rw [dp_scal p1 h1, dp_scal p2 h2]
    exact ⟨hs, q _ H1 (Ext.refl H1) (.bl _)⟩
theorem ed_ne {v w : V} (ha : EvD K ta σ H d) (hb : EvD K tb σ H e) (h1 : scalD d = some v := by rfl) (h2 : scalD e = some w := by rfl) (hs : scal v w = true := by rfl) : EvD K (tOp rNe ta tb) σ H (.bool (!decide (v = w))) :=
  ev_op ha hb fun x y H1 _ p1 p2 Q q => by
    rw [dp_scal p1 h1, dp_scal p2 h2]
    exact ⟨hs, q _ H1 (Ext.refl H1) (.bl _)⟩
theorem ed_eqD (ha : EvD K ta σ H d) (hb : EvD K tb σ H e) (s1 : SeqAt.shaped d = true) (s2 : SeqAt.shaped e = true) : EvD K (tOp (rEqD K) ta tb) σ H (.bool (PyData.eqv d e)) :=
  ev_op ha hb fun x y H1 _ p1 p2 Q q => ⟨d, e, p1, p2, s1, s2, q _ H1 (Ext.refl H1) (.bl _)⟩
theorem ed_neD (ha : EvD K ta σ H d) (hb : EvD K tb σ H e) (s1 : SeqAt.shaped d = true) (s2 : SeqAt.shaped e = true) : EvD K (tOp (rNeD K) ta tb) σ H (.bool (!PyData.eqv d e)) :=
  ev_op ha hb fun x y H1 _ p1 p2 Q q => ⟨d, e, p1, p2, s1, s2, q _ H1 (Ext.refl H1) (.bl _)⟩
theorem atI_dp {vs : List V} {i : Int} (h : DpAll K H vs ds) (ha : atI ds i = some d) : ∃ v, atI vs i = some v ∧ Dp K H v d := by
  unfold atI at ha ⊢
  rw [h.len]
  cases hx : ixN ds.length i with
  | none => rw [hx] at ha; cases ha
  | some j =>
    rw [hx] at ha
    exact h.got ha
theorem ed_ixT {i : Int} (ha : EvD K ta σ H (.tuple ds)) (hb : EvD K tb σ H (.int i)) (h : atI ds i = some d) : EvD K (tOp (rIxT K) ta tb) σ H d :=
  ev_op ha hb fun x y H1 _ p1 p2 Q q => by
    obtain ⟨a, xs, rfl, hx, hs⟩ := dp_tup p1
    obtain ⟨v, hv, dv⟩ := atI_dp hs h
    exact ⟨a, xs, i, v, rfl, dp_int p2, hx, hv, q v H1 (Ext.refl H1) dv⟩
theorem ed_ixL {i : Int} (ha : EvD K ta σ H (.list ds)) (hb : EvD K tb σ H (.int i)) (h : atI ds i = some d) : EvD K (tOp (rIxL K) ta tb) σ H d :=
  ev_op ha hb fun x y H1 _ p1 p2 Q q => by
    obtain ⟨a, xs, rfl, hx, hs⟩ := dp_lst p1
    obtain ⟨v, hv, dv⟩ := atI_dp hs h
    exact ⟨a, xs, i, v, rfl, dp_int p2, hx, hv, q v H1 (Ext.refl H1) dv⟩
/-- flat data: what == and in may compare item by item -/
theorem flat_dp {v w : V} (h : Dp K H v d) (e : scalD d = some w) : flatV v = true := by rw [dp_scal h e]; cases d <;> (simp only [scalD] at e; first | (cases e; rfl) | cases e)
theorem ints_flat (ns : List Int) : (ns.map V.int).all flatV = true := by simp [List.all_map, flatV, Function.comp_def]
theorem inV_ints (i : Int) (ns : List Int) : inV (.int i) (ns.map V.int) = decide (i ∈ ns) := by
  unfold inV
  rw [List.any_map]
  rw [Bool.eq_iff_iff]
  simp only [List.any_eq_true, Function.comp, decide_eq_true_eq]
  constructor
  · rintro ⟨x, hx, h⟩
    have : x = i := by simpa [eqV] using h
    rw [← this]; exact hx
  · intro h
    exact ⟨i, h, by simp [eqV]⟩
/-- an int in a tuple of ints -/
theorem ed_inT {i : Int} {ns : List Int} {neg : Bool} (ha : EvD K ta σ H (.int i)) (hb : EvD K tb σ H (.tuple (ns.map .int))) : EvD K (tOp (rIn K neg) ta tb) σ H (.bool (if neg then !decide (i ∈ ns) else decide (i ∈ ns))) :=
  ev_op ha hb fun x y H1 _ p1 p2 Q q => by
    obtain ⟨a, xs, rfl, hx, hs⟩ := dp_tup p2
    rw [dp_int p1]
    have e := of_dps_ints hs
    subst e
    refine ⟨a, _, rfl, .inr hx, rfl, ints_flat ns, ?_⟩
    rw [inV_ints]
    exact q _ H1 (Ext.refl H1) (.bl _)

/-! truth -/
theorem et_test (h : EvD K te σ H (.bool b)) : EvT (tTest te) σ H b := fun H1 x _ q => h H1 x _ fun v H2 x2 dv => ⟨b, dp_bl dv, q H2 x2⟩
theorem et_B (h : EvD K te σ H (.bool b)) : EvT (tB te) σ H b := fun H1 x _ q => h H1 x _ fun v H2 x2 dv => ⟨b, dp_bl dv, q H2 x2⟩
theorem et_and {a : Bool} (h1 : EvT t σ H a) (h2 : a = true → EvT u σ H b) : EvT (tAnd t u) σ H (a && b) := fun H1 x Q q => h1 H1 x _ fun H2 x2 => by
  cases a with
  | true => exact h2 rfl H2 (x.trans x2) Q fun H3 x3 => q H3 (x2.trans x3)
  | false => exact q H2 x2
theorem et_or {a : Bool} (h1 : EvT t σ H a) (h2 : a = false → EvT u σ H b) : EvT (tOr t u) σ H (a || b) := fun H1 x Q q => h1 H1 x _ fun H2 x2 => by
  cases a with
  | true => exact q H2 x2
  | false => exact h2 rfl H2 (x.trans x2) Q fun H3 x3 => q H3 (x2.trans x3)
theorem et_not (h1 : EvT t σ H b) : EvT (tNot t) σ H (!b) := fun H1 x _ q => h1 H1 x _ fun H2 x2 => q H2 x2
theorem ed_and {a : Bool} (h1 : EvD K ta σ H (.bool a)) (h2 : a = true → EvD K tb σ H (.bool b)) : EvD K (tAndV ta tb) σ H (.bool (a && b)) := fun H1 x Q q => h1 H1 x _ fun v H2 x2 dv => ⟨a, dp_bl dv, by
  cases a with
  | true => exact h2 rfl H2 (x.trans x2) Q fun w H3 x3 => q w H3 (x2.trans x3)
  | false => exact q _ H2 x2 (.bl false)⟩
theorem ed_or {a : Bool} (h1 : EvD K ta σ H (.bool a)) (h2 : a = false → EvD K tb σ H (.bool b)) : EvD K (tOrV ta tb) σ H (.bool (a || b)) := fun H1 x Q q => h1 H1 x _ fun v H2 x2 dv => ⟨a, dp_bl dv, by
  cases a with
  | true => exact q _ H2 x2 (.bl true)
  | false => exact h2 rfl H2 (x.trans x2) Q fun w H3 x3 => q w H3 (x2.trans x3)⟩
theorem ed_not (h1 : EvD K ta σ H (.bool b)) : EvD K (tNotV ta) σ H (.bool (!b)) := fun H1 x Q q => h1 H1 x _ fun v H2 x2 dv => ⟨b, dp_bl dv, q _ H2 x2 (.bl _)⟩
theorem ev_if (h : EvT t σ H b) (h1 : b = true → Ev ta σ H P) (h2 : b = false → Ev tb σ H P) : Ev (tIf t ta tb) σ H P := fun H1 x Q q => h H1 x _ fun H2 x2 => by
  cases b with
  | true => exact h1 rfl H2 (x.trans x2) Q fun w H3 x3 => q w H3 (x2.trans x3)
  | false => exact h2 rfl H2 (x.trans x2) Q fun w H3 x3 => q w H3 (x2.trans x3)
theorem ed_isN (ha : EvD K ta σ H d) (hb : EvD K tb σ H .none) : True := True.intro

/-! argument lists, tuples, lists -/
theorem es_nil : EvDs K tNil σ H [] := fun H1 _ _ q => q [] H1 (Ext.refl H1) .nil
theorem es_cons {tr : TA} (h : EvD K ta σ H d) (hr : EvDs K tr σ H ds) : EvDs K (tCons ta tr) σ H (d :: ds) := fun H1 x _ q =>
  h H1 x _ fun v H2 x2 dv => hr H2 (x.trans x2) _ fun vs H3 x3 dvs => q _ H3 (x2.trans x3) (.cons (x3.dp dv) dvs)
theorem es_star {tr : TA} {es : List PyData} (h : EvD K ta σ H (.tuple es)) (hr : EvDs K tr σ H ds) : EvDs K (tStar K ta tr) σ H (es ++ ds) := fun H1 x _ q =>
  h H1 x _ fun v H2 x2 dv => by
    obtain ⟨a, xs, rfl, hx, hs⟩ := dp_tup dv
    exact ⟨a, xs, rfl, .inl hx, hr H2 (x.trans x2) _ fun vs H3 x3 dvs => q _ H3 (x2.trans x3) ((x3.dps hs).app dvs)⟩
theorem es_starL {tr : TA} {es : List PyData} (h : EvD K ta σ H (.list es)) (hr : EvDs K tr σ H ds) : EvDs K (tStar K ta tr) σ H (es ++ ds) := fun H1 x _ q =>
  h H1 x _ fun v H2 x2 dv => by
    obtain ⟨a, xs, rfl, hx, hs⟩ := dp_lst dv
    exact ⟨a, xs, rfl, .inr hx, hr H2 (x.trans x2) _ fun vs H3 x3 dvs => q _ H3 (x2.trans x3) ((x3.dps hs).app dvs)⟩
theorem ed_tup {ta : TA} (h : EvDs K ta σ H ds) (hl : ds.length ≤ 100000) : EvD K (tTup ta) σ H (.tuple ds) := fun H1 x _ q =>
  h H1 x _ fun vs H2 x2 dvs => ⟨sz_of (by rw [dvs.len]; exact hl), fun p hp => q _ _ (x2.trans (Ext.new hp)) (.tup (sqT_of upd_same) ((Ext.new hp).dps dvs))⟩
theorem el_lst {ta : TA} (h : EvDs K ta σ H ds) (hl : ds.length ≤ 100000) : EvL K (tLst ta) σ H ds := fun H1 x _ q =>
  h H1 x _ fun vs H2 x2 dvs => ⟨sz_of (by rw [dvs.len]; exact hl), fun p hp => q _ _ (x2.trans (Ext.new hp)) ⟨p, vs, rfl, (x.trans x2).fresh hp, upd_same, (Ext.new hp).dps dvs⟩⟩
/-- a new list is a datum -/
theorem el_ed (h : EvL K te σ H ds) : EvD K te σ H (.list ds) := h.imp fun v H2 _ ⟨p, xs, e, _, h1, h2⟩ => by rw [e]; exact .lst (sqL_of h1) h2

/-! calls of built-ins on data -/
theorem ev_cb {r : List V → Hp → VK → Prop} {ta : TA} (h : EvDs K ta σ H ds) (hr : ∀ vs H1, Ext H H1 → DpAll K H1 vs ds → ∀ Q : VK, (∀ v H2, Ext H1 H2 → P v H2 → Q v H2) → r vs H1 Q) : Ev (tCB r ta) σ H P := fun H1 x Q q =>
  h H1 x _ fun vs H2 x2 dvs => hr vs H2 (x.trans x2) dvs Q fun v H3 x3 => q v H3 (x2.trans x3)
def rLenS (K : PySem.W.Frag) : List V → Hp → VK → Prop := fun xs H Q => ∃ p ys, xs = [.ref p] ∧ (SqL K H p ys ∨ SqT K H p ys) ∧ Q (.int ys.length) H
theorem ed_lenT (h : EvD K ta σ H (.tuple ds)) : EvD K (tCB (rLenS K) (tCons ta tNil)) σ H (.int ds.length) := ev_cb (es_cons h es_nil) fun vs H1 _ dv Q q => by
  obtain ⟨v, ws, rfl, h1, h2⟩ := dps_cons dv
  obtain rfl := dps_nil h2
  obtain ⟨a, xs, rfl, hx, hs⟩ := dp_tup h1
  exact ⟨a, xs, rfl, .inr hx, q _ H1 (Ext.refl H1) (by rw [hs.len]; exact .int _)⟩
theorem ed_lenL (h : EvD K ta σ H (.list ds)) : EvD K (tCB (rLenS K) (tCons ta tNil)) σ H (.int ds.length) := ev_cb (es_cons h es_nil) fun vs H1 _ dv Q q => by
  obtain ⟨v, ws, rfl, h1, h2⟩ := dps_cons dv
  obtain rfl := dps_nil h2
  obtain ⟨a, xs, rfl, hx, hs⟩ := dp_lst h1
  exact ⟨a, xs, rfl, .inl hx, q _ H1 (Ext.refl H1) (by rw [hs.len]; exact .int _)⟩
/-- a datum's class -/
def tyD : PyData → String
  | .none => "NoneType"
  | .bool _ => "bool"
  | .int _ => "int"
  | .str _ => "str"
  | .list _ => "list"
  | .tuple _ => "tuple"
  | .dict _ => "dict"
theorem tyX_sqT {a : Addr} {xs : List V} (h : SqT K H a xs) : TyX K H (.ref a) (.type "tuple") := by
  rcases h with (h | ⟨o, h⟩) | ⟨o, its, n, h1, h2, _⟩
  · exact .base (.tup h)
  · exact .fTuple h
  · exact .kTuple h1 h2
theorem tyX_sqL {a : Addr} {xs : List V} (h : SqL K H a xs) : TyX K H (.ref a) (.type "list") := by
  rcases h with (h | ⟨o, h⟩) | ⟨o, its, n, h1, h2, _⟩
  · exact .base (.lst h)
  · exact .base (.frz h)
  · exact .kList h1 h2
theorem tyX_dp {v : V} (h : Dp K H v d) : TyX K H v (.type (tyD d)) := by
  cases h with
  | non => exact .base .non
  | bl b => exact .base (.bl b)
  | int i => exact .base (.int i)
  | str x => exact .base (.str x)
  | lst h _ => exact tyX_sqL h
  | tup h _ => exact tyX_sqT h
def isiD (n : String) (d : PyData) : Bool := match d with
  | .none => n == "NoneType"
  | .bool _ => n == "bool" || n == "int"
  | .int _ => n == "int"
  | .str _ => n == "str"
  | .list _ => n == "list"
  | .tuple _ => n == "tuple"
  | .dict _ => n == "dict"
def isiN (n : String) : Prop := n = "int" ∨ n = "bool" ∨ n = "tuple" ∨ n = "str" ∨ n = "list"
theorem kit_isi {n : String} (hn : isiN n) (d : PyData) : PySem.W.kitOne K (.type (tyD d)) (.type n) = some (isiD n d) := by
  rcases hn with rfl | rfl | rfl | rfl | rfl <;> cases d <;> exact kit_ty (by simp only [tyD, isiD]; decide +kernel)
theorem ed_isi {n : String} (hn : isiN n) (h : EvD K ta σ H d) : EvD K (tCB (rIsi K) (tCons ta (tCons (tC (.ty n)) tNil))) σ H (.bool (isiD n d)) := fun H1 x Q q =>
  h H1 x _ fun v H2 x2 dv => ⟨v, .ty n, .type (tyD d), .type n, isiD n d, rfl, .ty n, tyX_dp dv, kit_isi hn d, q _ H2 x2 (.bl _)⟩
end
end FW


set_option Elab.async false
set_option linter.all false
set_option maxRecDepth 100000
set_option maxHeartbeats 4000000
/-! FW.OB: C() of a class without __init__; -/
namespace FW
open PySem PySem.Spec PyProof.Rows L2
structure Mk0 (K : PySem.W.Frag) (C : Addr) : Prop where
  makes : PySem.W.makesIn K C = true
  init : PySem.W.findIn K (.ref C) "__init__" = some (some (.builtin "object.__init__"))
  kp : PySem.W.keepIn K (.ref C) = true
def tNew0 (C : Addr) : TE := fun _ H Q => ∀ x dx, H x = none → H dx = none → dx ≠ x → Q (.ref x) (upd (upd H dx (.own x)) x (.ins C dx []))
section
variable {X : Cx} {C : Addr} {x : Str} {p pos : Pos}
theorem run_new0 {pins : List (Addr × Obj)} {σ : L2.St} {H : Hp} {s : Shared} {Q : VK} (M : Mk0 X.K C) (I : Inv X pins σ H s) (h : tNew0 C σ H Q) :
    wpAny (model X.prog X.w) X.A (call (.ref C) []) (EP X pins σ Q) X.xe s := by
  have hq := h (s.heap.objs.size + 1) s.heap.objs.size (I.hok.fresh (Nat.le_succ _)) (I.hok.fresh (Nat.le_refl _)) (Nat.ne_of_lt (Nat.lt_succ_self _))
  have I2 := Inv.made (C := C) I
  have Y := PySem.W.makes_of (M := model X.prog X.w) I.kIn M.makes
  have hx : ((s.heap.push PySem.W.emptyDict).push (PySem.W.instObj C s.heap.objs.size)).get? (s.heap.objs.size + 1) = some (PySem.W.instObj C s.heap.objs.size) := by heap_get
  have t1 : PySem.W.Looks (model X.prog X.w) ((s.heap.push PySem.W.emptyDict).push (PySem.W.instObj C s.heap.objs.size)) (typeOf (.ref (s.heap.objs.size + 1))) (.ref C) := (PySem.W.Looks.ld hx).andThen .now
  have t2 : PySem.W.Looks (model X.prog X.w) ((s.heap.push PySem.W.emptyDict).push (PySem.W.instObj C s.heap.objs.size)) (isInstance (.ref (s.heap.objs.size + 1)) (.type "object")) true :=
    t1.andThen (Y.top.keeps fun b o e => Heap.get?_push_of_some _ (Heap.get?_push_of_some _ e))
  refine wpAny_call (make_map0 I.kIn M.makes M.init (fun self => PySem.W.Looks.of_pure (PySem.W.oi_bind self)) ?_)
  refine codeAny_call_builtin PySem.W.oi_plain PySem.W.entry_oi (@PySem.W.check_slot (model X.prog X.w) _ _ _ "object.__init__" "object" "__init__" (.ref (s.heap.objs.size + 1)) [] [] _ PySem.W.oi_kind PySem.W.oi_split t2 (PySem.W.oi_args (.ref (s.heap.objs.size + 1))) ?_)
  rw [PySem.W.oi_run]
  exact wpAny_pure (And.intro rfl ⟨V.ref (s.heap.objs.size + 1), _, I2, rfl, hq⟩)
theorem pe_new0 (M : Mk0 X.K C) (hg : Gl X x) (hm : X.mg x = some (.ref C)) (hdb : (x == ("__debug__" : Str)) = false := by decide) : PE X (.Call (.Name x p) [] [] pos) (tNew0 C) := by
  refine ⟨fun pins s σ H Q I h => ?_⟩
  refine wpAny_Call_Name_kw (ld_glob I hg hm ?_ hdb)
  exact PySem.W.callWith_K0 I.kIn M.kp (run_new0 M I h)
end
end FW


set_option Elab.async false
set_option linter.all false
set_option maxRecDepth 100000
set_option maxHeartbeats 4000000
/-! FW.W1: the weakest reading of a piece of syntax; its rules on data. -/
namespace FW
open PySem PySem.Spec PyProof.Rows L2 StX

/-- whatever some rule gives -/
def W (X : Cx) (e : Expr) : TE := fun σ H Q => ∀ pins s, L2.Inv X pins σ H s → wpAny (model X.prog X.w) X.A (eval e X.env) (EP X pins σ Q) X.xe s
def WT (X : Cx) (e : Expr) : TT := fun σ H Q => ∀ pins s, L2.Inv X pins σ H s → wpAny (model X.prog X.w) X.A (PySem.isTrue e X.env (eval e X.env)) (TP X pins σ Q) X.xe s
def WW (X : Cx) (e : Expr) : TT := fun σ H Q => ∀ whole pins s, L2.Inv X pins σ H s → wpAny (model X.prog X.w) X.A (PySem.isTrue e X.env whole) (TP X pins σ Q) X.xe s
def WA (X : Cx) (es : List Expr) : TA := fun σ H Q => ∀ t, PA X es t → True → t σ H Q → t σ H Q
def WS (X : Cx) (st : Stmt) : TS := fun D σ H => ∀ pins s, L2.Inv X pins σ H s → wpAny (model X.prog X.w) X.A (exec st X.env) (SP X pins D) X.xe s
def WB (X : Cx) (sts : List Stmt) : TS := fun D σ H => ∀ pins s, L2.Inv X pins σ H s → wpAny (model X.prog X.w) X.A (execs sts X.env) (SP X pins D) X.xe s
section
variable {X : Cx} {e : Expr} {σ : L2.St} {H : Hp} {st : Stmt} {sts rest : List Stmt}
theorem w_pe : PE X e (W X e) := ⟨fun pins s _ _ _ I h => h pins s I⟩
theorem w_pt : PT X e (WT X e) := ⟨fun pins s _ _ _ I h => h pins s I⟩
theorem w_pw : PW X e (WW X e) := ⟨fun wh pins s _ _ _ I h => h wh pins s I⟩
theorem w_ps : PS X st (WS X st) := ⟨fun pins s _ _ _ I h => h pins s I⟩
theorem w_pb : PSs X sts (WB X sts) := ⟨fun pins s _ _ _ I h => h pins s I⟩
theorem of_pe {t : TE} {Q : VK} (p : PE X e t) (h : t σ H Q) : W X e σ H Q := fun pins s I => p.run pins s σ H Q I h
theorem of_pt {t : TT} {Q : Bool → Hp → Prop} (p : PT X e t) (h : t σ H Q) : WT X e σ H Q := fun pins s I => p.run pins s σ H Q I h
theorem of_pw {t : TT} {Q : Bool → Hp → Prop} (p : PW X e t) (h : t σ H Q) : WW X e σ H Q := fun wh pins s I => p.run wh pins s σ H Q I h
theorem of_ps {t : TS} {D : Ends} (p : PS X st t) (h : t D σ H) : WS X st D σ H := fun pins s I => p.run pins s σ H D I h
theorem of_pb {t : TS} {D : Ends} (p : PSs X sts t) (h : t D σ H) : WB X sts D σ H := fun pins s I => p.run pins s σ H D I h
theorem ev_pe {t : TE} {P : V → Hp → Prop} (p : PE X e t) (h : Ev t σ H P) : Ev (W X e) σ H P := fun H1 x Q q => of_pe p (h H1 x Q q)
theorem et_pt {t : TT} {b : Bool} (p : PT X e t) (h : EvT t σ H b) : EvT (WT X e) σ H b := fun H1 x Q q => of_pt p (h H1 x Q q)
theorem et_pw {t : TT} {b : Bool} (p : PW X e t) (h : EvT t σ H b) : EvT (WW X e) σ H b := fun H1 x Q q => of_pw p (h H1 x Q q)
end

/-- e gives d -/
abbrev Wd (X : Cx) (e : Expr) (σ : L2.St) (H : Hp) (d : PyData) : Prop := EvD X.K (W X e) σ H d
/-- e gives a new list of ds -/
abbrev Wl (X : Cx) (e : Expr) (σ : L2.St) (H : Hp) (ds : List PyData) : Prop := EvL X.K (W X e) σ H ds
/-- the test e comes out as b -/
abbrev Wt (X : Cx) (e : Expr) (σ : L2.St) (H : Hp) (b : Bool) : Prop := EvT (WT X e) σ H b
abbrev Ww (X : Cx) (e : Expr) (σ : L2.St) (H : Hp) (b : Bool) : Prop := EvT (WW X e) σ H b
/-- arguments -/
def Wa (X : Cx) (es : List Expr) (σ : L2.St) (H : Hp) (ds : List PyData) : Prop := ∃ t, PA X es t ∧ EvDs X.K t σ H ds

section
variable {X : Cx} {a b c e : Expr} {es rest : List Expr} {σ : L2.St} {H : Hp} {d d1 d2 d3 : PyData} {ds : List PyData} {x : Str} {pos p p2 : Pos} {i j : Int}

theorem Wd.is {d' : PyData} (h : Wd X e σ H d) (q : d = d') : Wd X e σ H d' := q ▸ h
theorem Wt.is {k k' : Bool} (h : Wt X e σ H k) (q : k = k') : Wt X e σ H k' := q ▸ h

/-! names, constants -/
theorem wd_var (i : Nat) {v : V} (h : σ[i]? = some (some v)) (hd0 : Dp X.K H v d) (hN : X.N[i]? = some x := by rfl) (hv : Vis X.env.scope x := by first | exact Or.inl rfl | exact Or.inr (Or.inl rfl) | exact Or.inr (Or.inr rfl)) (hd : (x == Str.ofString "__debug__") = false := by decide) (hcd : (x == Str.ofString "__classdict__") = false := by decide) : Wd X (.Name x pos) σ H d :=
  ev_pe (pe_var hN hv hd hcd) (ed_var h hd0)
theorem wd_int {jt} : Wd X (.Constant (.int i) jt pos) σ H (.int i) := ev_pe pe_int ed_int
theorem wd_bl {k : Bool} {jt} : Wd X (.Constant (.bool k) jt pos) σ H (.bool k) := ev_pe pe_bl ed_bl
theorem wd_non {jt} : Wd X (.Constant .none jt pos) σ H .none := ev_pe pe_non ed_non
theorem wd_str {z : Str} {jt} : Wd X (.Constant (.str z) jt pos) σ H (.str z) := ev_pe pe_str ed_str
theorem wd_glob (hm : ∃ t, X.mg x = some (.int i t)) (hg : Gl X x := by rfl) (hd : (x == Str.ofString "__debug__") = false := by decide) : Wd X (.Name x pos) σ H (.int i) := by
  obtain ⟨t, hm⟩ := hm
  exact ev_pe (pe_glob (v := .int i) hg hm ⟨t, rfl⟩ hd) ed_int

/-! operators by data -/
/-- op on d1, d2 gives d3 -/
def Bn (X : Cx) (op : Operator) (d1 d2 d3 : PyData) : Prop := ∃ r, OpR X (binaryOp op) r ∧ ∀ H, RV X.K r d1 d2 H fun v H2 => Dp X.K H2 v d3
def Cm (X : Cx) (op : CmpOp) (d1 d2 : PyData) (k : Bool) : Prop := ∃ r, OpR X (compareOp op) r ∧ ∀ H, RV X.K r d1 d2 H fun v H2 => Dp X.K H2 v (.bool k)
def Ix (X : Cx) (d1 d2 d3 : PyData) : Prop := ∃ r, IxR X r ∧ ∀ H, RV X.K r d1 d2 H fun v H2 => Dp X.K H2 v d3
theorem wd_bin {op : Operator} (r : Bn X op d1 d2 d3) (h1 : Wd X a σ H d1) (h2 : Wd X b σ H d2) : Wd X (.BinOp a op b pos) σ H d3 := by
  obtain ⟨r, o, q⟩ := r
  exact ev_pe (pe_op o w_pe w_pe) (ev_op h1 h2 (q H))
theorem wd_cmp {op : CmpOp} {k : Bool} (r : Cm X op d1 d2 k) (h1 : Wd X a σ H d1) (h2 : Wd X b σ H d2) (hm : behindInMarks op b = false := by first | exact nomark _ | rfl) : Wd X (.Compare a [op] [b] pos) σ H (.bool k) := by
  obtain ⟨r, o, q⟩ := r
  exact ev_pe (pe_cmpR o w_pe w_pe hm) (ev_op h1 h2 (q H))
theorem wt_cmp {op : CmpOp} {k : Bool} (r : Cm X op d1 d2 k) (h1 : Wd X a σ H d1) (h2 : Wd X b σ H d2) (hm : behindInMarks op b = false := by first | exact nomark _ | rfl) : Wt X (.Compare a [op] [b] pos) σ H k := by
  obtain ⟨r, o, q⟩ := r
  exact et_pt (pt_cmpR o w_pe w_pe hm) (et_test (ev_op h1 h2 (q H)))
theorem ev_chain {K : PySem.W.Frag} {r r' : R2} {ta tb tc : TE} {k k' : Bool} (h1 : EvD K ta σ H d1) (h2 : EvD K tb σ H d2) (q : RV K r d1 d2 H fun v H2 => Dp K H2 v (.bool k)) (h3 : k = true → EvD K tc σ H d3) (q' : k = true → RV K r' d2 d3 H fun v H2 => Dp K H2 v (.bool k')) :
    EvD K (tChain r r' ta tb tc) σ H (.bool (k && k')) := fun H1 x Q z =>
  h1 H1 x _ fun v H2 x2 dv => h2 H2 (x.trans x2) _ fun w H3 x3 dw => q v w H3 ((x.trans x2).trans x3) (x3.dp dv) dw _ fun u H4 x4 du => ⟨k, dp_bl du, by
    cases k with
    | false => exact z _ H4 ((x2.trans x3).trans x4) (.bl false)
    | true => exact h3 rfl H4 (((x.trans x2).trans x3).trans x4) _ fun w' H5 x5 dw' => q' rfl w w' H5 ((((x.trans x2).trans x3).trans x4).trans x5) ((x4.trans x5).dp dw) dw' Q fun y H6 x6 dy => z y H6 ((((x2.trans x3).trans x4).trans x5).trans x6) dy⟩
theorem wd_chain {op op' : CmpOp} {k k' : Bool} (r : Cm X op d1 d2 k) (r' : Cm X op' d2 d3 k') (h1 : Wd X a σ H d1) (h2 : Wd X b σ H d2) (h3 : Wd X c σ H d3) (hm : lastMarks [op, op'] [b, c] = false := by with_unfolding_all rfl) :
    Wd X (.Compare a [op, op'] [b, c] pos) σ H (.bool (k && k')) := by
  obtain ⟨r, o, q⟩ := r
  obtain ⟨r', o', q'⟩ := r'
  exact ev_pe (pe_chain o o' w_pe w_pe w_pe hm) (ev_chain h1 h2 (q H) (fun _ => h3) (fun _ => q' H))
theorem wt_chain {op op' : CmpOp} {k k' : Bool} (r : Cm X op d1 d2 k) (r' : Cm X op' d2 d3 k') (h1 : Wd X a σ H d1) (h2 : Wd X b σ H d2) (h3 : Wd X c σ H d3) (hm : lastMarks [op, op'] [b, c] = false := by with_unfolding_all rfl) :
    Wt X (.Compare a [op, op'] [b, c] pos) σ H (k && k') := by
  obtain ⟨r, o, q⟩ := r
  obtain ⟨r', o', q'⟩ := r'
  exact et_pt (pt_chain o o' w_pe w_pe w_pe hm) (et_test (ev_chain h1 h2 (q H) (fun _ => h3) (fun _ => q' H)))
theorem bn_add : Bn X .Add (.int i) (.int j) (.int (i + j)) := ⟨_, op_add, fun _ => rv_I0 fun _ _ => .int _⟩
theorem bn_sub : Bn X .Sub (.int i) (.int j) (.int (i - j)) := ⟨_, op_sub, fun _ => rv_I0 fun _ _ => .int _⟩
theorem bn_mul (h : CMulW i j) : Bn X .Mult (.int i) (.int j) (.int (i * j)) := ⟨_, op_mulW, fun _ => rv_I h fun _ _ => .int _⟩
theorem bn_fdiv (h : CDivW i j) : Bn X .FloorDiv (.int i) (.int j) (.int (i / j)) := ⟨_, op_fdivW, fun _ => rv_I h fun _ _ => .int _⟩
theorem bn_fdivN (h : CDivN i j) : Bn X .FloorDiv (.int i) (.int j) (.int (i.fdiv j)) := ⟨_, op_fdivN, fun _ => rv_I h fun _ _ => .int _⟩
theorem bn_mod (h : 0 < j) : Bn X .Mod (.int i) (.int j) (.int (i % j)) := ⟨_, op_mod, fun _ => rv_I h fun _ _ => .int _⟩
theorem bn_catT {es : List PyData} (hz : ds.length + es.length ≤ 100000) : Bn X .Add (.tuple ds) (.tuple es) (.tuple (ds ++ es)) := ⟨_, op_catA, fun H x y H1 ex h1 h2 Q q => by
  obtain ⟨a, xs, rfl, hx, hs⟩ := dp_tup h1
  obtain ⟨b, ys, rfl, hy, ht⟩ := dp_tup h2
  refine ⟨a, b, xs, ys, rfl, rfl, hx, hy, sz_of (by rw [hs.len, ht.len]; exact hz), fun e => ?_, fun _ e => ?_, fun _ _ p hp => ?_⟩
  · subst e
    have e := hs.len
    cases ds with
    | nil => exact q _ H1 (Ext.refl H1) (.tup hy ht)
    | cons _ _ => cases e
  · subst e
    have e := ht.len
    cases es with
    | nil => rw [List.append_nil] at q; exact q _ H1 (Ext.refl H1) (.tup hx hs)
    | cons _ _ => cases e
  · exact q _ _ (Ext.new hp) (.tup (sqT_of upd_same) ((Ext.new hp).dps (hs.app ht)))⟩
theorem cm_lt : Cm X .Lt (.int i) (.int j) (decide (i < j)) := ⟨_, op_lt, fun _ => rv_I0 fun _ _ => .bl _⟩
theorem cm_le : Cm X .LtE (.int i) (.int j) (decide (i ≤ j)) := ⟨_, op_le, fun _ => rv_I0 fun _ _ => .bl _⟩
theorem cm_gt : Cm X .Gt (.int i) (.int j) (decide (j < i)) := ⟨_, op_gt, fun _ => rv_I0 fun _ _ => .bl _⟩
theorem cm_ge : Cm X .GtE (.int i) (.int j) (decide (j ≤ i)) := ⟨_, op_ge, fun _ => rv_I0 fun _ _ => .bl _⟩
theorem rv_eqS {K : PySem.W.Frag} {v w : V} (h1 : scalD d1 = some v) (h2 : scalD d2 = some w) (hs : scal v w = true) : RV K rEq d1 d2 H fun u H2 => Dp K H2 u (.bool (decide (v = w))) := fun x y H1 _ p1 p2 Q q => by
  rw [dp_scal p1 h1, dp_scal p2 h2]
  exact ⟨hs, q _ H1 (Ext.refl H1) (.bl _)⟩
theorem rv_neS {K : PySem.W.Frag} {v w : V} (h1 : scalD d1 = some v) (h2 : scalD d2 = some w) (hs : scal v w = true) : RV K rNe d1 d2 H fun u H2 => Dp K H2 u (.bool (!decide (v = w))) := fun x y H1 _ p1 p2 Q q => by
  rw [dp_scal p1 h1, dp_scal p2 h2]
  exact ⟨hs, q _ H1 (Ext.refl H1) (.bl _)⟩
theorem cm_eqI : Cm X .Eq (.int i) (.int j) (decide (i = j)) := ⟨_, op_eq, fun H => by
  have h := rv_eqS (K := X.K) (H := H) (d1 := .int i) (d2 := .int j) (v := .int i) (w := .int j) rfl rfl rfl
  have e : decide (V.int i = V.int j) = decide (i = j) := by simp only [V.int.injEq]
  rw [e] at h
  exact h⟩
theorem cm_neI : Cm X .NotEq (.int i) (.int j) (!decide (i = j)) := ⟨_, op_ne, fun H => by
  have h := rv_neS (K := X.K) (H := H) (d1 := .int i) (d2 := .int j) (v := .int i) (w := .int j) rfl rfl rfl
  have e : decide (V.int i = V.int j) = decide (i = j) := by simp only [V.int.injEq]
  rw [e] at h
  exact h⟩
theorem cm_eqS {x y : Str} : Cm X .Eq (.str x) (.str y) (decide (x = y)) := ⟨_, op_eq, fun H => by
  have h := rv_eqS (K := X.K) (H := H) (d1 := .str x) (d2 := .str y) (v := .str x) (w := .str y) rfl rfl rfl
  have e : decide (V.str x = V.str y) = decide (x = y) := by simp only [V.str.injEq]
  rw [e] at h
  exact h⟩
theorem cm_neS {x y : Str} : Cm X .NotEq (.str x) (.str y) (!decide (x = y)) := ⟨_, op_ne, fun H => by
  have h := rv_neS (K := X.K) (H := H) (d1 := .str x) (d2 := .str y) (v := .str x) (w := .str y) rfl rfl rfl
  have e : decide (V.str x = V.str y) = decide (x = y) := by simp only [V.str.injEq]
  rw [e] at h
  exact h⟩
theorem cm_eqB {x y : Bool} : Cm X .Eq (.bool x) (.bool y) (x == y) := ⟨_, op_eq, fun H => by
  have h := rv_eqS (K := X.K) (H := H) (d1 := .bool x) (d2 := .bool y) (v := .bl x) (w := .bl y) rfl rfl rfl
  have e : decide (V.bl x = V.bl y) = (x == y) := by cases x <;> cases y <;> rfl
  rw [e] at h
  exact h⟩
theorem cm_neB {x y : Bool} : Cm X .NotEq (.bool x) (.bool y) (x != y) := ⟨_, op_ne, fun H => by
  have h := rv_neS (K := X.K) (H := H) (d1 := .bool x) (d2 := .bool y) (v := .bl x) (w := .bl y) rfl rfl rfl
  have e : (!decide (V.bl x = V.bl y)) = (x != y) := by cases x <;> cases y <;> rfl
  rw [e] at h
  exact h⟩
theorem cm_eqD (hu : X.A.units + 64 < cLine) (s1 : SeqAt.shaped d1 = true := by rfl) (s2 : SeqAt.shaped d2 = true := by rfl) : Cm X .Eq d1 d2 (PyData.eqv d1 d2) := ⟨_, op_eqD hu, fun H x y H1 _ p1 p2 Q q => ⟨d1, d2, p1, p2, s1, s2, q _ H1 (Ext.refl H1) (.bl _)⟩⟩
theorem cm_neD (hu : X.A.units + 64 < cLine) (s1 : SeqAt.shaped d1 = true := by rfl) (s2 : SeqAt.shaped d2 = true := by rfl) : Cm X .NotEq d1 d2 (!PyData.eqv d1 d2) := ⟨_, op_neD hu, fun H x y H1 _ p1 p2 Q q => ⟨d1, d2, p1, p2, s1, s2, q _ H1 (Ext.refl H1) (.bl _)⟩⟩
theorem cm_inT {ns : List Int} : Cm X .In (.int i) (.tuple (ns.map .int)) (decide (i ∈ ns)) := ⟨_, op_in_seq, fun H x y H1 _ p1 p2 Q q => by
  obtain ⟨a, xs, rfl, hx, hs⟩ := dp_tup p2
  rw [dp_int p1]
  obtain rfl := of_dps_ints hs
  refine ⟨a, _, rfl, .inr hx, rfl, ints_flat ns, ?_⟩
  rw [inV_ints]
  exact q _ H1 (Ext.refl H1) (.bl _)⟩
theorem cm_ninT {ns : List Int} : Cm X .NotIn (.int i) (.tuple (ns.map .int)) (!decide (i ∈ ns)) := ⟨_, op_notIn_seq, fun H x y H1 _ p1 p2 Q q => by
  obtain ⟨a, xs, rfl, hx, hs⟩ := dp_tup p2
  rw [dp_int p1]
  obtain rfl := of_dps_ints hs
  refine ⟨a, _, rfl, .inr hx, rfl, ints_flat ns, ?_⟩
  rw [inV_ints]
  exact q _ H1 (Ext.refl H1) (.bl _)⟩
theorem cm_inL {ns : List Int} : Cm X .In (.int i) (.list (ns.map .int)) (decide (i ∈ ns)) := ⟨_, op_in_seq, fun H x y H1 _ p1 p2 Q q => by
  obtain ⟨a, xs, rfl, hx, hs⟩ := dp_lst p2
  rw [dp_int p1]
  obtain rfl := of_dps_ints hs
  refine ⟨a, _, rfl, .inl hx, rfl, ints_flat ns, ?_⟩
  rw [inV_ints]
  exact q _ H1 (Ext.refl H1) (.bl _)⟩
theorem cm_ninL {ns : List Int} : Cm X .NotIn (.int i) (.list (ns.map .int)) (!decide (i ∈ ns)) := ⟨_, op_notIn_seq, fun H x y H1 _ p1 p2 Q q => by
  obtain ⟨a, xs, rfl, hx, hs⟩ := dp_lst p2
  rw [dp_int p1]
  obtain rfl := of_dps_ints hs
  refine ⟨a, _, rfl, .inl hx, rfl, ints_flat ns, ?_⟩
  rw [inV_ints]
  exact q _ H1 (Ext.refl H1) (.bl _)⟩
/-- is None -/
def isNone : PyData → Bool
  | .none => true
  | _ => false
theorem dp_isNone {K : PySem.W.Frag} {v : V} (h : Dp K H v d) : decide (v = .non) = isNone d := by cases h <;> simp [isNone]
theorem cm_isN : Cm X .Is d .none (isNone d) := ⟨_, op_isN, fun H x y H1 _ p1 p2 Q q => ⟨dp_non p2, by rw [dp_isNone p1]; exact q _ H1 (Ext.refl H1) (.bl _)⟩⟩
theorem cm_notN : Cm X .IsNot d .none (!isNone d) := ⟨_, op_notN, fun H x y H1 _ p1 p2 Q q => ⟨dp_non p2, by rw [dp_isNone p1]; exact q _ H1 (Ext.refl H1) (.bl _)⟩⟩
theorem wd_neg (h : Wd X a σ H (.int i)) : Wd X (.UnaryOp .USub a pos) σ H (.int (-i)) := ev_pe (pe_un un_neg w_pe) (ed_un h)
theorem wd_not {k : Bool} (h : Wd X a σ H (.bool k)) : Wd X (.UnaryOp .Not a pos) σ H (.bool (!k)) := ev_pe (pe_not w_pe) (ed_not h)
theorem wt_not {k : Bool} (h : Wt X a σ H k) : Wt X (.UnaryOp .Not a pos) σ H (!k) := et_pt (pt_not w_pt) (et_not h)
theorem wd_one (h : Wd X a σ H d) {op : BoolOp} : Wd X (.BoolOp op [a] pos) σ H d := ev_pe (pe_one w_pe) h
theorem wd_and {k k' : Bool} (h1 : Wd X a σ H (.bool k)) (h2 : k = true → Wd X (.BoolOp .And (b :: rest) pos) σ H (.bool k')) : Wd X (.BoolOp .And (a :: b :: rest) pos) σ H (.bool (k && k')) := ev_pe (pe_and w_pe w_pe) (ed_and h1 h2)
theorem wd_or {k k' : Bool} (h1 : Wd X a σ H (.bool k)) (h2 : k = false → Wd X (.BoolOp .Or (b :: rest) pos) σ H (.bool k')) : Wd X (.BoolOp .Or (a :: b :: rest) pos) σ H (.bool (k || k')) := ev_pe (pe_or w_pe w_pe) (ed_or h1 h2)
/-- a value as a test -/
theorem wt_val {k : Bool} (h : Wd X e σ H (.bool k)) (he : ∀ whole, PySem.isTrue e X.env whole = (do let v ← whole; standAt e.pos; holding [v] (truthy v)) := by intro _; rfl) : Wt X e σ H k := et_pt (pt_val w_pe he) (et_B h)
end
end FW


set_option Elab.async false
set_option linter.all false
set_option maxRecDepth 100000
set_option maxHeartbeats 4000000
/-! FW.W2: tests, if, subscripts, displays, calls; defs and their promises. -/
namespace FW
open PySem PySem.Spec PyProof.Rows L2 StX
section
variable {X : Cx} {a b c e : Expr} {es rest : List Expr} {σ : L2.St} {H : Hp} {d d1 d2 d3 : PyData} {ds : List PyData} {x : Str} {pos p p2 : Pos} {i j : Int} {k k' : Bool}
theorem ww_and1 (h : Wt X a σ H k) : Ww X (.BoolOp .And [a] pos) σ H k := et_pw (pw_and1 w_pt) h
theorem ww_or1 (h : Wt X a σ H k) : Ww X (.BoolOp .Or [a] pos) σ H k := et_pw (pw_or1 w_pt) h
theorem ww_and (h1 : Wt X a σ H k) (h2 : k = true → Ww X (.BoolOp .And (b :: rest) pos) σ H k') : Ww X (.BoolOp .And (a :: b :: rest) pos) σ H (k && k') := et_pw (pw_and w_pt w_pw) (et_and h1 h2)
theorem ww_or (h1 : Wt X a σ H k) (h2 : k = false → Ww X (.BoolOp .Or (b :: rest) pos) σ H k') : Ww X (.BoolOp .Or (a :: b :: rest) pos) σ H (k || k') := et_pw (pw_or w_pt w_pw) (et_or h1 h2)
theorem wt_w (h : Ww X e σ H k) : Wt X e σ H k := et_pt (PW.pt w_pw) h
theorem wv_if {P : V → Hp → Prop} (h : Wt X c σ H k) (h1 : k = true → Ev (W X a) σ H P) (h2 : k = false → Ev (W X b) σ H P) : Ev (W X (.IfExp c a b pos)) σ H P := ev_pe (pe_ifExp w_pt w_pe w_pe) (ev_if h h1 h2)
theorem wd_if (h : Wt X c σ H k) (h1 : k = true → Wd X a σ H d) (h2 : k = false → Wd X b σ H d) : Wd X (.IfExp c a b pos) σ H d := wv_if h h1 h2

/-! subscripts, slices -/
theorem ix_T (h : atI ds i = some d) : Ix X (.tuple ds) (.int i) d := ⟨_, ix_tup, fun H x y H1 _ p1 p2 Q q => by
  obtain ⟨a, xs, rfl, hx, hs⟩ := dp_tup p1
  obtain ⟨v, hv, dv⟩ := atI_dp hs h
  exact ⟨a, xs, i, v, rfl, dp_int p2, hx, hv, q v H1 (Ext.refl H1) dv⟩⟩
theorem ix_L (h : atI ds i = some d) : Ix X (.list ds) (.int i) d := ⟨_, ix_list, fun H x y H1 _ p1 p2 Q q => by
  obtain ⟨a, xs, rfl, hx, hs⟩ := dp_lst p1
  obtain ⟨v, hv, dv⟩ := atI_dp hs h
  exact ⟨a, xs, i, v, rfl, dp_int p2, hx, hv, q v H1 (Ext.refl H1) dv⟩⟩
theorem wd_ix (r : Ix X d1 d2 d3) (h1 : Wd X a σ H d1) (h2 : Wd X b σ H d2) (hs : PlainIx b := by intro _ _; rfl) : Wd X (.Subscript a b pos) σ H d3 := by
  obtain ⟨r, o, q⟩ := r
  exact ev_pe (pe_ix o w_pe w_pe hs) (ev_op h1 h2 (q H))
theorem wd_ixT (h : atI ds i = some d) (h1 : Wd X a σ H (.tuple ds)) (h2 : Wd X b σ H (.int i)) (hs : PlainIx b := by intro _ _; rfl) : Wd X (.Subscript a b pos) σ H d := wd_ix (ix_T h) h1 h2 hs
theorem wd_ixL (h : atI ds i = some d) (h1 : Wd X a σ H (.list ds)) (h2 : Wd X b σ H (.int i)) (hs : PlainIx b := by intro _ _; rfl) : Wd X (.Subscript a b pos) σ H d := wd_ix (ix_L h) h1 h2 hs
/-- a slice's part -/
def Wo (X : Cx) (e : Option Expr) (σ : L2.St) (H : Hp) (o : Option Int) : Prop := match e with
  | none => o = none
  | some e => ∃ i, o = some i ∧ Wd X e σ H (.int i)
theorem wo_none : Wo X none σ H none := rfl
theorem wo_some (h : Wd X e σ H (.int i)) : Wo X (some e) σ H (some i) := ⟨i, rfl, h⟩
def WO (X : Cx) : Option Expr → L2.TO
  | none => tNoPart
  | some e => tPart (W X e)
theorem w_po : ∀ {e : Option Expr}, PO X e (WO X e)
  | none => po_none
  | some _ => po_some w_pe
theorem wo_go {e : Option Expr} {o : Option Int} (h : Wo X e σ H o) {H1 : Hp} (x : Ext H H1) {Q : Option Int → Hp → Prop} (q : ∀ H2, Ext H1 H2 → Q o H2) : WO X e σ H1 Q := by
  cases e with
  | none =>
    have e1 : o = none := h
    subst e1
    exact q H1 (Ext.refl H1)
  | some e =>
    obtain ⟨i, rfl, hi⟩ := h
    exact hi H1 x _ fun v H2 x2 dv => ⟨i, dp_int dv, q H2 x2⟩
/-- xs[lo:hi] -/
def cutL {α : Type} (xs : List α) (lo hi : Option Int) : List α := (xs.drop (HT.sIx xs.length 0 lo)).take (HT.sIx xs.length xs.length hi - HT.sIx xs.length 0 lo)
theorem cut_dp {K : PySem.W.Frag} {vs : List V} (lo hi : Option Int) (h : DpAll K H vs ds) : DpAll K H (cutV vs lo hi) (cutL ds lo hi) := by
  unfold cutV cutL
  rw [h.len]
  exact (h.drop _).take _
theorem cut_all {K : PySem.W.Frag} {α : Type} {xs : List α} {lo hi : Option Int} (h : HT.sIx xs.length 0 lo = 0 ∧ HT.sIx xs.length xs.length hi = xs.length) : cutL xs lo hi = xs := by
  unfold cutL
  rw [h.1, h.2]
  simp
theorem wd_slT {lo hi : Option Expr} {l u : Option Int} (h : Wd X e σ H (.tuple ds)) (hl : Wo X lo σ H l) (hu : Wo X hi σ H u) : Wd X (.Subscript e (.Slice lo hi none p2) pos) σ H (.tuple (cutL ds l u)) :=
  ev_pe (pe_slice sl_tupA w_pe w_po w_po) fun H1 x Q q => h H1 x _ fun v H2 x2 dv => wo_go hl (x.trans x2) fun H3 x3 => wo_go hu ((x.trans x2).trans x3) fun H4 x4 => by
    obtain ⟨a, xs, rfl, hx, hs⟩ := dp_tup ((x3.trans x4).dp dv)
    refine ⟨a, xs, rfl, hx, fun e => ?_, fun _ p hp => ?_⟩
    · rw [hs.len] at e
      refine q _ H4 (x2.trans (x3.trans x4)) ?_
      rw [cut_all (K := X.K) e]
      exact .tup hx hs
    · exact q _ _ ((x2.trans (x3.trans x4)).trans (Ext.new hp)) (.tup (sqT_of upd_same) ((Ext.new hp).dps (cut_dp l u hs)))
theorem wd_slL {lo hi : Option Expr} {l u : Option Int} (h : Wd X e σ H (.list ds)) (hl : Wo X lo σ H l) (hu : Wo X hi σ H u) : Wl X (.Subscript e (.Slice lo hi none p2) pos) σ H (cutL ds l u) :=
  ev_pe (pe_slice sl_list w_pe w_po w_po) fun H1 x Q q => h H1 x _ fun v H2 x2 dv => wo_go hl (x.trans x2) fun H3 x3 => wo_go hu ((x.trans x2).trans x3) fun H4 x4 => by
    obtain ⟨a, xs, rfl, hx, hs⟩ := dp_lst ((x3.trans x4).dp dv)
    refine ⟨a, xs, rfl, hx, fun p hp => ?_⟩
    exact q _ _ ((x2.trans (x3.trans x4)).trans (Ext.new hp)) ⟨p, _, rfl, (x.trans (x2.trans (x3.trans x4))).fresh hp, upd_same, (Ext.new hp).dps (cut_dp l u hs)⟩

/-! displays, arguments -/
theorem wa_nil : Wa X [] σ H [] := ⟨_, pa_nil, es_nil⟩
theorem wa_cons (h : Wd X e σ H d) (t : Wa X es σ H ds) (he : starEach (e :: es) X.env = (false, eval e X.env) :: starEach es X.env := by rfl) : Wa X (e :: es) σ H (d :: ds) := by
  obtain ⟨t, p, q⟩ := t
  exact ⟨_, pa_cons w_pe p he, es_cons h q⟩
theorem wa_star {ds2 : List PyData} (h : Wd X e σ H (.tuple ds)) (t : Wa X es σ H ds2) (hs : starEach (.Starred e p :: es) X.env = (true, eval e X.env) :: starEach es X.env := by rfl) : Wa X (.Starred e p :: es) σ H (ds ++ ds2) := by
  obtain ⟨t, q, r⟩ := t
  exact ⟨_, pa_star w_pe q hs, es_star h r⟩
theorem wa_starL {ds2 : List PyData} (h : Wd X e σ H (.list ds)) (t : Wa X es σ H ds2) (hs : starEach (.Starred e p :: es) X.env = (true, eval e X.env) :: starEach es X.env := by rfl) : Wa X (.Starred e p :: es) σ H (ds ++ ds2) := by
  obtain ⟨t, q, r⟩ := t
  exact ⟨_, pa_star w_pe q hs, es_starL h r⟩
theorem wd_tup {x1} (h : Wa X es σ H ds) (hl : ds.length ≤ 100000 := by exact Nat.le_of_ble_eq_true rfl) : Wd X (.Tuple es x1 pos) σ H (.tuple ds) := by
  obtain ⟨t, q, r⟩ := h
  exact ev_pe (pe_tup q) (ed_tup r hl)
theorem wl_lst (h : Wa X es σ H ds) (hl : ds.length ≤ 100000 := by exact Nat.le_of_ble_eq_true rfl) : Wl X (.List es pos) σ H ds := by
  obtain ⟨t, q, r⟩ := h
  exact ev_pe (pe_lst q) (el_lst r hl)
/-- a new list is a datum -/
theorem Wl.wd (h : Wl X e σ H ds) : Wd X e σ H (.list ds) := el_ed h

/-! built-ins -/
/-- the built-in names that the module leaves alone -/
structure Bi (mg : Str → Option Value) : Prop where
  all : mg "all" = none
  any : mg "any" = none
  tuple : mg "tuple" = none
  list : mg "list" = none
  len : mg "len" = none
  range : mg "range" = none
  zip : mg "zip" = none
  enumerate : mg "enumerate" = none
  isinstance : mg "isinstance" = none
  sum : mg "sum" = none
  min : mg "min" = none
  max : mg "max" = none
  abs : mg "abs" = none
  int : mg "int" = none
  str : mg "str" = none
  bool : mg "bool" = none
  sorted : mg "sorted" = none
theorem wv_cb {id : String} {r : List V → Hp → VK → Prop} {P : V → Hp → Prop} (hc : CallR X (.builtin id) r) (hm : X.mg x = none) (hv : bootBuiltins x = some (.builtin id)) (h : Wa X (e :: es) σ H ds)
    (hr : ∀ vs H1, Ext H H1 → DpAll X.K H1 vs ds → ∀ Q : VK, (∀ v H2, Ext H1 H2 → P v H2 → Q v H2) → r vs H1 Q) (hg : Gl X x) (hn : x ≠ "__name__" := by decide) (hdb : (x == ("__debug__" : Str)) = false := by decide)
    (he : starEach (e :: es) X.env = (false, eval e X.env) :: starEach es X.env := by rfl) (hpl : (backTo pos (starEach es X.env)).any (·.1) = false := by rfl) : Ev (W X (.Call (.Name x p) (e :: es) [] pos)) σ H P := by
  obtain ⟨t, q, z⟩ := h
  exact ev_pe (pe_callB hc hg hm hv q hn hdb he hpl) (ev_cb z hr)
theorem wv_ct {id : String} {r : List V → Hp → VK → Prop} {P : V → Hp → Prop} (hc : CallR X (.type id) r) (hm : X.mg x = none) (hv : bootBuiltins x = some (.type id)) (h : Wa X (e :: es) σ H ds)
    (hr : ∀ vs H1, Ext H H1 → DpAll X.K H1 vs ds → ∀ Q : VK, (∀ v H2, Ext H1 H2 → P v H2 → Q v H2) → r vs H1 Q) (hg : Gl X x) (hn : x ≠ "__name__" := by decide) (hdb : (x == ("__debug__" : Str)) = false := by decide)
    (he : starEach (e :: es) X.env = (false, eval e X.env) :: starEach es X.env := by rfl) (hpl : (backTo pos (starEach es X.env)).any (·.1) = false := by rfl) : Ev (W X (.Call (.Name x p) (e :: es) [] pos)) σ H P := by
  obtain ⟨t, q, z⟩ := h
  exact ev_pe (pe_callTy hc hg hm hv q hn hdb he hpl) (ev_cb z hr)
variable (B : Bi X.mg)
include B
theorem wd_lenT (h : Wd X a σ H (.tuple ds)) (hg : Gl X "len" := by rfl) (he : starEach [a] X.env = (false, eval a X.env) :: starEach [] X.env := by rfl) : Wd X (.Call (.Name "len" p) [a] [] pos) σ H (.int ds.length) :=
  wv_cb call_len_seq B.len boot_len (wa_cons h wa_nil he) (fun vs H1 _ dv Q q => by
    obtain ⟨v, ws, rfl, h1, h2⟩ := dps_cons dv
    obtain rfl := dps_nil h2
    obtain ⟨a, xs, rfl, hx, hs⟩ := dp_tup h1
    exact ⟨a, xs, rfl, .inr hx, q _ H1 (Ext.refl H1) (by rw [hs.len]; exact .int _)⟩) hg (he := he)
theorem wd_lenL (h : Wd X a σ H (.list ds)) (hg : Gl X "len" := by rfl) (he : starEach [a] X.env = (false, eval a X.env) :: starEach [] X.env := by rfl) : Wd X (.Call (.Name "len" p) [a] [] pos) σ H (.int ds.length) :=
  wv_cb call_len_seq B.len boot_len (wa_cons h wa_nil he) (fun vs H1 _ dv Q q => by
    obtain ⟨v, ws, rfl, h1, h2⟩ := dps_cons dv
    obtain rfl := dps_nil h2
    obtain ⟨a, xs, rfl, hx, hs⟩ := dp_lst h1
    exact ⟨a, xs, rfl, .inl hx, q _ H1 (Ext.refl H1) (by rw [hs.len]; exact .int _)⟩) hg (he := he)
theorem wd_abs (h : Wd X a σ H (.int i)) (hg : Gl X "abs" := by rfl) (he : starEach [a] X.env = (false, eval a X.env) :: starEach [] X.env := by rfl) : Wd X (.Call (.Name "abs" p) [a] [] pos) σ H (.int (if i < 0 then -i else i)) :=
  wv_cb call_abs B.abs (by decide +kernel) (wa_cons h wa_nil he) (fun vs H1 _ dv Q q => by
    obtain ⟨v, ws, rfl, h1, h2⟩ := dps_cons dv
    obtain rfl := dps_nil h2
    exact ⟨i, by rw [dp_int h1], q _ H1 (Ext.refl H1) (.int _)⟩) hg (he := he)
theorem wd_int1 (h : Wd X a σ H (.int i)) (hg : Gl X "int" := by rfl) (he : starEach [a] X.env = (false, eval a X.env) :: starEach [] X.env := by rfl) : Wd X (.Call (.Name "int" p) [a] [] pos) σ H (.int i) :=
  wv_ct call_int1 B.int (by decide +kernel) (wa_cons h wa_nil he) (fun vs H1 _ dv Q q => by
    obtain ⟨v, ws, rfl, h1, h2⟩ := dps_cons dv
    obtain rfl := dps_nil h2
    exact .inl ⟨i, by rw [dp_int h1], q _ H1 (Ext.refl H1) (.int _)⟩) hg (he := he)
theorem wd_max2 (hc : X.calm = true) (h1 : Wd X a σ H (.int i)) (h2 : Wd X b σ H (.int j)) (hg : Gl X "max" := by rfl) (he : starEach [a, b] X.env = (false, eval a X.env) :: starEach [b] X.env := by rfl) (he2 : starEach [b] X.env = (false, eval b X.env) :: starEach [] X.env := by rfl) (hpl : (backTo pos (starEach [b] X.env)).any (·.1) = false := by rfl) :
    Wd X (.Call (.Name "max" p) [a, b] [] pos) σ H (.int (if j > i then j else i)) :=
  wv_cb (call_max2 hc) B.max (by decide +kernel) (wa_cons h1 (wa_cons h2 wa_nil he2) he) (fun vs H1 _ dv Q q => by
    obtain ⟨v, ws, rfl, h1, h2⟩ := dps_cons dv
    obtain ⟨v2, ws, rfl, h4, h3⟩ := dps_cons h2
    obtain rfl := dps_nil h3
    exact ⟨i, j, by rw [dp_int h1, dp_int h4], q _ H1 (Ext.refl H1) (.int _)⟩) hg (he := he) (hpl := hpl)
theorem wd_min2 (hc : X.calm = true) (h1 : Wd X a σ H (.int i)) (h2 : Wd X b σ H (.int j)) (hg : Gl X "min" := by rfl) (he : starEach [a, b] X.env = (false, eval a X.env) :: starEach [b] X.env := by rfl) (he2 : starEach [b] X.env = (false, eval b X.env) :: starEach [] X.env := by rfl) (hpl : (backTo pos (starEach [b] X.env)).any (·.1) = false := by rfl) :
    Wd X (.Call (.Name "min" p) [a, b] [] pos) σ H (.int (if j < i then j else i)) :=
  wv_cb (call_min2 hc) B.min (by decide +kernel) (wa_cons h1 (wa_cons h2 wa_nil he2) he) (fun vs H1 _ dv Q q => by
    obtain ⟨v, ws, rfl, h1, h2⟩ := dps_cons dv
    obtain ⟨v2, ws, rfl, h4, h3⟩ := dps_cons h2
    obtain rfl := dps_nil h3
    exact ⟨i, j, by rw [dp_int h1, dp_int h4], q _ H1 (Ext.refl H1) (.int _)⟩) hg (he := he) (hpl := hpl)
theorem wd_sum {ns : List Int} (hc : X.calm = true) (h : Wd X a σ H (.list (ns.map .int))) (hg : Gl X "sum" := by rfl) (he : starEach [a] X.env = (false, eval a X.env) :: starEach [] X.env := by rfl) : Wd X (.Call (.Name "sum" p) [a] [] pos) σ H (.int ns.sum) :=
  wv_cb (cr_sum hc) B.sum (by decide +kernel) (wa_cons h wa_nil he) (fun vs H1 _ dv Q q => by
    obtain ⟨v, ws, rfl, h1, h2⟩ := dps_cons dv
    obtain rfl := dps_nil h2
    obtain ⟨a, xs, rfl, hx, hs⟩ := dp_lst h1
    obtain rfl := of_dps_ints hs
    exact ⟨a, ns, rfl, hx, q _ H1 (Ext.refl H1) (.int _)⟩) hg (he := he)
theorem wd_tupL (h : Wd X a σ H (.list ds)) (hg : Gl X "tuple" := by rfl) (he : starEach [a] X.env = (false, eval a X.env) :: starEach [] X.env := by rfl) : Wd X (.Call (.Name "tuple" p) [a] [] pos) σ H (.tuple ds) :=
  wv_ct call_tuple_of B.tuple (by decide +kernel) (wa_cons h wa_nil he) (fun vs H1 _ dv Q q => by
    obtain ⟨v, ws, rfl, h1, h2⟩ := dps_cons dv
    obtain rfl := dps_nil h2
    obtain ⟨a, xs, rfl, hx, hs⟩ := dp_lst h1
    exact ⟨a, xs, rfl, .inl ⟨hx, fun l hl => q _ _ (Ext.new hl) (.tup (sqT_of upd_same) ((Ext.new hl).dps hs))⟩⟩) hg (he := he)
theorem wd_tupT (h : Wd X a σ H (.tuple ds)) (hg : Gl X "tuple" := by rfl) (he : starEach [a] X.env = (false, eval a X.env) :: starEach [] X.env := by rfl) : Wd X (.Call (.Name "tuple" p) [a] [] pos) σ H (.tuple ds) :=
  wv_ct call_tuple_of B.tuple (by decide +kernel) (wa_cons h wa_nil he) (fun vs H1 _ dv Q q => by
    obtain ⟨v, ws, rfl, h1, h2⟩ := dps_cons dv
    obtain rfl := dps_nil h2
    obtain ⟨a, xs, rfl, hx, hs⟩ := dp_tup h1
    exact ⟨a, xs, rfl, .inr ⟨hx, q _ H1 (Ext.refl H1) (.tup hx hs)⟩⟩) hg (he := he)
theorem wl_ofL (h : Wd X a σ H (.list ds)) (hg : Gl X "list" := by rfl) (he : starEach [a] X.env = (false, eval a X.env) :: starEach [] X.env := by rfl) : Wl X (.Call (.Name "list" p) [a] [] pos) σ H ds := by
  obtain ⟨t, q, z⟩ := wa_cons h wa_nil he
  refine ev_pe (pe_callTy call_list_of hg B.list (by decide +kernel) q (he := he)) fun H0 x0 Q q => z H0 x0 _ fun vs H1 x1 dv => ?_
  obtain ⟨v, ws, rfl, h1, h2⟩ := dps_cons dv
  obtain rfl := dps_nil h2
  obtain ⟨a, xs, rfl, hx, hs⟩ := dp_lst h1
  exact ⟨a, xs, rfl, .inl hx, fun l hl => q _ _ (x1.trans (Ext.new hl)) ⟨l, xs, rfl, (x0.trans x1).fresh hl, upd_same, (Ext.new hl).dps hs⟩⟩
theorem wl_ofT (h : Wd X a σ H (.tuple ds)) (hg : Gl X "list" := by rfl) (he : starEach [a] X.env = (false, eval a X.env) :: starEach [] X.env := by rfl) : Wl X (.Call (.Name "list" p) [a] [] pos) σ H ds := by
  obtain ⟨t, q, z⟩ := wa_cons h wa_nil he
  refine ev_pe (pe_callTy call_list_of hg B.list (by decide +kernel) q (he := he)) fun H0 x0 Q q => z H0 x0 _ fun vs H1 x1 dv => ?_
  obtain ⟨v, ws, rfl, h1, h2⟩ := dps_cons dv
  obtain rfl := dps_nil h2
  obtain ⟨a, xs, rfl, hx, hs⟩ := dp_tup h1
  exact ⟨a, xs, rfl, .inr hx, fun l hl => q _ _ (x1.trans (Ext.new hl)) ⟨l, xs, rfl, (x0.trans x1).fresh hl, upd_same, (Ext.new hl).dps hs⟩⟩
theorem wd_isi {n : Str} {ty : String} (hn : isiN ty) (hv : bootBuiltins n = some (.type ty)) (hmn : X.mg n = none) (h : Wd X a σ H d) (hg : Gl X "isinstance" := by rfl) (hgn : Gl X n := by rfl) (he : starEach [a, .Name n p2] X.env = (false, eval a X.env) :: starEach [.Name n p2] X.env := by rfl)
    (hn1 : n ≠ "__name__" := by decide) (hdb : (n == ("__debug__" : Str)) = false := by decide) : Wd X (.Call (.Name "isinstance" p) [a, .Name n p2] [] pos) σ H (.bool (isiD ty d)) :=
  ev_pe (pe_callB call_isi hg B.isinstance (by decide +kernel) (pa_cons w_pe (pa_cons (pe_bltn (v := .ty ty) hgn hmn hv rfl hn1 hdb) pa_nil) he) (he := he)) (ed_isi hn h)
theorem wd_isiInt (h : Wd X a σ H d) (hg : Gl X "isinstance" := by rfl) (hgn : Gl X "int" := by rfl) (he : starEach [a, .Name "int" p2] X.env = (false, eval a X.env) :: starEach [.Name "int" p2] X.env := by rfl) : Wd X (.Call (.Name "isinstance" p) [a, .Name "int" p2] [] pos) σ H (.bool (isiD "int" d)) := wd_isi B (.inl rfl) (by decide +kernel) B.int h hg hgn he
theorem wd_isiBool (h : Wd X a σ H d) (hg : Gl X "isinstance" := by rfl) (hgn : Gl X "bool" := by rfl) (he : starEach [a, .Name "bool" p2] X.env = (false, eval a X.env) :: starEach [.Name "bool" p2] X.env := by rfl) : Wd X (.Call (.Name "isinstance" p) [a, .Name "bool" p2] [] pos) σ H (.bool (isiD "bool" d)) := wd_isi B (.inr (.inl rfl)) (by decide +kernel) B.bool h hg hgn he
theorem wd_isiTup (h : Wd X a σ H d) (hg : Gl X "isinstance" := by rfl) (hgn : Gl X "tuple" := by rfl) (he : starEach [a, .Name "tuple" p2] X.env = (false, eval a X.env) :: starEach [.Name "tuple" p2] X.env := by rfl) : Wd X (.Call (.Name "isinstance" p) [a, .Name "tuple" p2] [] pos) σ H (.bool (isiD "tuple" d)) := wd_isi B (.inr (.inr (.inl rfl))) (by decide +kernel) B.tuple h hg hgn he
theorem wd_isiStr (h : Wd X a σ H d) (hg : Gl X "isinstance" := by rfl) (hgn : Gl X "str" := by rfl) (he : starEach [a, .Name "str" p2] X.env = (false, eval a X.env) :: starEach [.Name "str" p2] X.env := by rfl) : Wd X (.Call (.Name "isinstance" p) [a, .Name "str" p2] [] pos) σ H (.bool (isiD "str" d)) := wd_isi B (.inr (.inr (.inr (.inl rfl)))) (by decide +kernel) B.str h hg hgn he
theorem wd_isiList (h : Wd X a σ H d) (hg : Gl X "isinstance" := by rfl) (hgn : Gl X "list" := by rfl) (he : starEach [a, .Name "list" p2] X.env = (false, eval a X.env) :: starEach [.Name "list" p2] X.env := by rfl) : Wd X (.Call (.Name "isinstance" p) [a, .Name "list" p2] [] pos) σ H (.bool (isiD "list" d)) := wd_isi B (.inr (.inr (.inr (.inr rfl)))) (by decide +kernel) B.list h hg hgn he
end
end FW


set_option Elab.async false
set_option linter.all false
set_option maxRecDepth 100000
set_option maxHeartbeats 4000000
/-! FW.W3: targets, statements; defs and their promises on data. -/
namespace FW
open PySem PySem.Spec PyProof.Rows L2 StX

/-! ### targets -/
def WG (X : Cx) (tg : Expr) : TG := fun v σ H Q => ∀ pins s u, L2.Inv X pins σ H s → RelV v u → wpAny (model X.prog X.w) X.A (assign tg X.env u) (fun _ s' => ∃ σ' H', L2.Inv X pins σ' H' s' ∧ Q σ' H') X.xe s
def WGs (X : Cx) (ts : List Expr) : TGs := fun vs σ H Q => ∀ pins s us, L2.Inv X pins σ H s → Vals vs us → wpAny (model X.prog X.w) X.A (assignInOrder ((assignEach ts X.env).map (·.2)) us) (fun _ s' => ∃ σ' H', L2.Inv X pins σ' H' s' ∧ Q σ' H') X.xe s
section
variable {X : Cx} {e tg : Expr} {es : List Expr} {σ : L2.St} {H : Hp} {x : Str} {pos : Pos} {d : PyData} {ds : List PyData}
theorem w_pg : PG X tg (WG X tg) := ⟨fun pins s _ _ _ u _ I r h => h pins s u I r⟩
theorem w_pgs : PGs X es (WGs X es) := ⟨fun pins s _ _ _ us _ I r h => h pins s us I r⟩
theorem of_pg {t : TG} {v : V} {Q : L2.St → Hp → Prop} (p : PG X tg t) (h : t v σ H Q) : WG X tg v σ H Q := fun pins s u I r => p.run pins s σ H v u Q I r h
theorem of_pgs {t : TGs} {vs : List V} {Q : L2.St → Hp → Prop} (p : PGs X es t) (h : t vs σ H Q) : WGs X es vs σ H Q := fun pins s us I r => p.run pins s σ H vs us Q I r h
/-- slots filled one after another -/
def setAll (σ : L2.St) : List Nat → List V → L2.St
  | i :: is, v :: vs => setAll (σ.set i (some v)) is vs
  | _, _ => σ
theorem setAll_app : ∀ {is js : List Nat} {vs ws : List V} {σ : L2.St}, vs.length = is.length → setAll σ (is ++ js) (vs ++ ws) = setAll (setAll σ is vs) js ws
  | [], js, vs, ws, σ, h => by
    have e : vs = [] := by simpa using h
    subst e
    rfl
  | i :: is, js, v :: vs, ws, σ, h => setAll_app (is := is) (vs := vs) (by simpa using h)
  | i :: is, js, [], ws, σ, h => by simp at h
/-- the target takes the datum apart: bs, slots with what they get -/
structure Gj (X : Cx) (tg : Expr) (d : PyData) (is : List Nat) (bs : List PyData) : Prop where
  len : is.length = bs.length
  go : ∀ (σ : L2.St) (H : Hp) (v : V), Dp X.K H v d → ∀ Q : L2.St → Hp → Prop, (∀ vs, DpAll X.K H vs bs → Q (setAll σ is vs) H) → WG X tg v σ H Q
structure Gjs (X : Cx) (ts : List Expr) (ds : List PyData) (is : List Nat) (bs : List PyData) : Prop where
  len : is.length = bs.length
  go : ∀ (σ : L2.St) (H : Hp) (ws : List V), DpAll X.K H ws ds → ∀ Q : L2.St → Hp → Prop, (∀ vs, DpAll X.K H vs bs → Q (setAll σ is vs) H) → WGs X ts ws σ H Q
theorem gj_nm (i : Nat) (nd : X.N.Nodup) (hi : X.N[i]? = some x := by rfl) (hx : Loc X.env.scope x := by first | exact Or.inl rfl | exact Or.inr rfl) (hf : X.fn x = true ∨ X.env.scope.names.lookup x = some .local := by first | exact .inl rfl | exact .inr rfl) : Gj X (.Name x pos) d [i] [d] :=
  ⟨rfl, fun σ H v h Q q => of_pg (pg_name nd hi hx hf) (q [v] (.cons h .nil))⟩
theorem gj_nil : Gjs X [] [] [] [] := ⟨rfl, fun σ H ws h Q q => of_pgs pgs_nil ⟨dps_nil h, q [] .nil⟩⟩
theorem gj_cons {is js : List Nat} {bs cs : List PyData} (h1 : Gj X e d is bs) (h2 : Gjs X es ds js cs) (hs : (assignEach (e :: es) X.env).map (·.2) = assign e X.env :: (assignEach es X.env).map (·.2) := by rfl) :
    Gjs X (e :: es) (d :: ds) (is ++ js) (bs ++ cs) :=
  ⟨by rw [List.length_append, List.length_append, h1.len, h2.len], fun σ H ws h Q q => by
    obtain ⟨v, ws, rfl, a, b⟩ := dps_cons h
    refine of_pgs (pgs_cons w_pg w_pgs hs) ⟨v, ws, rfl, h1.go σ H v a _ fun vs hv => h2.go _ H ws b _ fun us hu => ?_⟩
    rw [← setAll_app (by rw [h1.len, hv.len])]
    exact q _ (hv.app hu)⟩
theorem gj_tup {k : Nat} {is : List Nat} {bs : List PyData} (hc : X.calm = true) (h : Gjs X es ds is bs) (hn : (assignEach es X.env).length = ds.length := by rfl) (hst : (assignEach es X.env).findIdx? (·.1) = none := by rfl) : Gj X (.Tuple es k pos) (.tuple ds) is bs :=
  ⟨h.len, fun σ H v hv Q q => by
    obtain ⟨a, xs, rfl, hx, hs⟩ := dp_tup hv
    exact of_pg (pg_tup hc w_pgs hn hst) ⟨a, xs, rfl, hx, hs.len, h.go σ H xs hs Q q⟩⟩
end

/-! ### statements -/
section
variable {X : Cx} {a b c e tg : Expr} {st : Stmt} {p q rest : List Stmt} {σ : L2.St} {H : Hp} {x : Str} {pos pos' : Pos} {d : PyData} {ds : List PyData} {D : Ends} {k : Bool} {P : V → Hp → Prop}
theorem wb_nil (h : D.nx σ H) : WB X [] D σ H := of_pb pss_nil h
theorem wb_cons (h : WS X st { D with nx := WB X rest D } σ H) : WB X (st :: rest) D σ H := of_pb (pss_cons w_ps w_pb) h
theorem wb_ret (h : Ev (W X e) σ H P) (q : ∀ v H', Ext H H' → P v H' → D.rt v H') : WB X (.Return (some e) pos :: rest) D σ H := wb_cons (of_ps (ps_ret w_pe) (h.go q))
theorem wb_retN (q : D.rt .non H) : WB X (.Return none pos :: rest) D σ H := wb_cons (of_ps ps_retN q)
theorem wb_if (h : Wt X c σ H k) (h1 : k = true → ∀ H', Ext H H' → WB X p { D with nx := WB X rest D } σ H') (h2 : k = false → ∀ H', Ext H H' → WB X q { D with nx := WB X rest D } σ H') : WB X (.If c p q pos :: rest) D σ H :=
  wb_cons (of_ps (ps_if w_pt w_pb w_pb) (h.go fun H1 x1 => by
    cases k with
    | true => exact h1 rfl H1 x1
    | false => exact h2 rfl H1 x1))
theorem wb_set (i : Nat) (nd : X.N.Nodup) (h : Ev (W X e) σ H P) (q : ∀ v H', Ext H H' → P v H' → WB X rest D (σ.set i (some v)) H') (hi : X.N[i]? = some x := by rfl) (hx : Loc X.env.scope x := by first | exact Or.inl rfl | exact Or.inr rfl)
    (hs : swapsWith e (some (.Name x pos')) pos.line X.env = pure false := by rfl) (hf : X.fn x = true ∨ X.env.scope.names.lookup x = some .local := by first | exact .inl rfl | exact .inr rfl) : WB X (.Assign [.Name x pos'] e pos :: rest) D σ H :=
  wb_cons (of_ps (ps_set nd hi hx w_pe hs hf) (h.go q))
theorem wb_asg {is : List Nat} {bs : List PyData} (h : Wd X e σ H d) (g : Gj X tg d is bs) (q : ∀ vs H', Ext H H' → DpAll X.K H' vs bs → WB X rest D (setAll σ is vs) H') (hs : swapsWithSole [tg] e pos.line X.env = pure false := by rfl) (hw : swappedStores [tg] e X.env = pure none := by rfl)
    (h1 : (assignEach [tg] X.env).map (·.2) = [assign tg X.env] := by rfl) : WB X (.Assign [tg] e pos :: rest) D σ H :=
  wb_cons (of_ps (ps_asg w_pe w_pg hs hw h1) (h.go fun v H1 x1 dv => g.go σ H1 v dv _ fun vs hv => q vs H1 x1 hv))
theorem wb_expr (h : Ev (W X e) σ H P) (q : ∀ v H', Ext H H' → P v H' → WB X rest D σ H') (hs : swapsWith e none pos.line X.env = pure false := by rfl) : WB X (.Expr e pos :: rest) D σ H := wb_cons (of_ps (ps_expr w_pe hs) (h.go q))
theorem wb_pass (q : WB X rest D σ H) : WB X (.Pass pos :: rest) D σ H := wb_cons (of_ps ps_pass q)
/-- a, b = x, y -/
theorem wb_par {i j : Nat} {x y : Str} {px py pt pt2 : Pos} {kt k2} (nd : X.N.Nodup) (hc : X.calm = true) {d1 d2 : PyData} (h1 : Wd X a σ H d1) (h2 : Wd X b σ H d2) (q : ∀ v w H', Ext H H' → Dp X.K H' v d1 → Dp X.K H' w d2 → WB X rest D ((σ.set i (some v)).set j (some w)) H')
    (hi : X.N[i]? = some x := by rfl) (hj : X.N[j]? = some y := by rfl) (hij : i ≠ j := by decide) (hx : X.env.scope.names.lookup x = some .local := by rfl) (hy : X.env.scope.names.lookup y = some .local := by rfl)
    (ha : starEach [a, b] X.env = (false, eval a X.env) :: starEach [b] X.env := by rfl) (ha2 : starEach [b] X.env = (false, eval b X.env) :: starEach [] X.env := by rfl)
    (hw : swappedStores [.Tuple [.Name x px, .Name y py] kt pt] (.Tuple [a, b] k2 pt2) X.env = pure (some [x, y]) := by rfl) : WB X (.Assign [.Tuple [.Name x px, .Name y py] kt pt] (.Tuple [a, b] k2 pt2) pos :: rest) D σ H := by
  obtain ⟨t, p, z⟩ := wa_cons h1 (wa_cons h2 wa_nil ha2) ha
  refine wb_cons (of_ps (ps_par hc nd hi hj hij hx hy p hw) (z.go fun vs H1 x1 dv => ?_))
  obtain ⟨v, ws, rfl, d1, d2⟩ := dps_cons dv
  obtain ⟨w, ws, rfl, d4, d3⟩ := dps_cons d2
  obtain rfl := dps_nil d3
  exact ⟨v, w, rfl, q v w H1 x1 d1 d4⟩
end

/-! ### defs -/
/-- the tables of code objects are tracked -/
def Tabs (cs : List (Addr × Addr)) (H : Hp) : Prop := ∀ p ∈ cs, TabG H p.2
theorem Tabs.ext {cs : List (Addr × Addr)} {H H' : Hp} (t : Tabs cs H) (x : Ext H H') : Tabs cs H' := fun p hp => x.tab _ (t p hp)
/-- the promise of a def that changes nothing: data to a datum -/
def spD (K : PySem.W.Frag) (cs : List (Addr × Addr)) (F : List PyData → PyData → Prop) : Sp := fun vs H Q _ => ∃ ds d, DpAll K H vs ds ∧ F ds d ∧ Tabs cs H ∧ ∀ v H', Ext H H' → Dp K H' v d → Q v H'
/-- the def x of the module does so -/
structure Fn (P : Program) (w : World) (K : PySem.W.Frag) (mg : Str → Option Value) (base : Heap) (cs : List (Addr × Addr)) (k : Nat) (x : Str) (F : List PyData → PyData → Prop) : Prop where
  ex : ∃ (f : Addr) (fd : FuncData) (ps : List Str), FnOk P w K mg base CX0 k f fd ps (spD K cs F) ∧ mg x = some (.ref f) ∧ PySem.W.keepIn K (.ref f) = true ∧ Binds K fd ps []
section
variable {X : Cx} {e : Expr} {es : List Expr} {σ : L2.St} {H : Hp} {x : Str} {p pos : Pos} {d : PyData} {ds : List PyData} {cs : List (Addr × Addr)} {k j : Nat} {F : List PyData → PyData → Prop}
theorem wd_call (f : Fn X.prog X.w X.K X.mg X.base cs k x F) (hr : Room j X.A) (hk : k ≤ j) (T : Tabs cs H) (ha : Wa X (e :: es) σ H ds) (hF : F ds d) (hg : Gl X x := by rfl)
    (hdb : (x == ("__debug__" : Str)) = false := by decide) (he : starEach (e :: es) X.env = (false, eval e X.env) :: starEach es X.env := by rfl) (hpl : (backTo pos (starEach es X.env)).any (·.1) = false := by rfl) :
    Wd X (.Call (.Name x p) (e :: es) [] pos) σ H d := by
  obtain ⟨f, fd, ps, G, hm, kp, b⟩ := f.ex
  obtain ⟨t, pa, z⟩ := ha
  exact ev_pe (pe_call (E := E0) G (hr.mono hk) hg hm kp b .nil pass0 pa hdb he hpl) fun H1 x1 Q q => z H1 x1 _ fun vs H2 x2 dv => by
    rw [List.append_nil]
    exact ⟨ds, d, dv, hF, T.ext (x1.trans x2), fun v H3 x3 d3 => q v H3 (x2.trans x3) d3⟩
end
/-- a promise by a type of arguments: what they must be, how they lie, what comes -/
def Sg {α : Type} (pre : α → Prop) (enc : α → List PyData) (out : α → PyData) : List PyData → PyData → Prop := fun ds d => ∃ a, pre a ∧ ds = enc a ∧ d = out a
theorem Sg.len {α : Type} {pre : α → Prop} {enc : α → List PyData} {out : α → PyData} {n : Nat} (h : ∀ a, (enc a).length = n) : ∀ ds d, Sg pre enc out ds d → ds.length = n := fun ds d ⟨a, _, e, _⟩ => by rw [e]; exact h a
/-- the context of a def's body -/
abbrev fx (P : Program) (w : World) (K : PySem.W.Frag) (mg : Str → Option Value) (base : Heap) (N : List Str) (q : Str) (sc : Scope) (f : Addr) (cdv : Value) (A : Around) (outer : List Env) (s : Shared) (H : Hp) (E : XK) : Cx :=
  (cxOf CX0 P w K mg base N q sc f cdv A outer s H E).nox
/-- a def of the top as it stands: its object at f, its code object at c -/
structure Stands (K : PySem.W.Frag) (mg : Str → Option Value) (x q : Str) (st : Stmt) (f : Addr) (fd : FuncData) (c : Addr) : Prop where
  fn : FunD K x q (defArgs st) (defBody st) (defScope st) [] [] f fd
  code : fd.code = .ref c
theorem okC {P : Program} {w : World} {K : PySem.W.Frag} {mg : Str → Option Value} {base : Heap} {x qual : Str} {params : Arguments} {body : List Stmt} {scope : Scope} {dvs : List V} {kws : List (Str × V)} {f : Addr} {fd : FuncData} {CX : CXT} {N ps : List Str} {k : Nat} {sp : Sp}
    (F : FunD K x qual params body scope dvs kws f fd) (S : FnScope N ps scope) (len : ∀ vs H Q E, sp vs H Q E → vs.length = ps.length)
    (hbody : ∀ (A : Around) (outer : List Env) (s : Shared) (H : Hp) (vs : List V) (Q : VK) (E : XK), Room k (A.deeper (envOfC qual scope s.heap.objs.size f fd.code)) → sp vs H Q E →
      ∃ t, PSs (cxOf CX P w K mg base N qual scope f fd.code A outer s H E) body t ∧ t { nx := fun _ H' => Q .non H', rt := Q } (L2.start N vs) H) : FnOk P w K mg base CX (k + 1) f fd ps sp := by
  obtain ⟨oc, od, dV, kV, doc, pm, an, cdv, ct, osl, rfl, lk, hcd, _, _⟩ := F.ex
  exact fn_of lk hcd S len fun A outer s H vs Q E hr hsp => hbody A outer s H vs Q E hr hsp
/-- THE RULE for a def that changes nothing -/
theorem fn_data {P : Program} {w : World} {K : PySem.W.Frag} {mg : Str → Option Value} {base : Heap} {cs : List (Addr × Addr)} {x : Str} {st : Stmt} {f c : Addr} {fd : FuncData} {N ps : List Str} {k : Nat} {F : List PyData → PyData → Prop}
    (h : Stands K mg x x st f fd c) (hm : mg x = some (.ref f)) (S : FnScope N ps (defScope st)) (b : Binds K fd ps []) (len : ∀ ds d, F ds d → ds.length = ps.length)
    (body : ∀ (A : Around) (outer : List Env) (s : Shared) (H : Hp) (vs : List V) (E : XK) (ds : List PyData) (d : PyData), Room k (A.deeper (envOfC x (defScope st) s.heap.objs.size f fd.code)) → DpAll K H vs ds → F ds d → Tabs cs H →
      ∀ D : Ends, (∀ v H', Ext H H' → Dp K H' v d → D.rt v H') → WB (fx P w K mg base N x (defScope st) f fd.code A outer s H E) (defBody st) D (L2.start N vs) H) : Fn P w K mg base cs (k + 1) x F :=
  ⟨f, fd, ps, okC h.fn S (fun vs H Q E ⟨ds, d, a, b, _⟩ => by rw [a.len]; exact len ds d b) (fun A outer s H vs Q E hr ⟨ds, d, a, b, t, q⟩ => ⟨_, PSs.nox w_pb, body A outer s H vs E ds d hr a b t _ q⟩), hm, h.fn.kp, b⟩
end FW


set_option Elab.async false
set_option linter.all false
set_option maxRecDepth 100000
set_option maxHeartbeats 4000000
/-! FW.W4: what is walked; list comprehensions and generator expressions on data. -/
namespace FW
open PySem PySem.Spec PyProof.Rows L2 StX

/-! ### data without lists stays, whatever happens to lists, dicts, instances -/
mutual
def frz : PyData → Bool
  | .list _ => false
  | .dict _ => false
  | .tuple ds => frzs ds
  | _ => true
def frzs : List PyData → Bool
  | [] => true
  | d :: ds => frz d && frzs ds
end
/-- tuples and locked things are kept -/
structure Fz (H H' : Hp) : Prop where
  tup : ∀ b xs, H b = some (.tup xs) → H' b = some (.tup xs)
  fz : ∀ b o u, H b = some (.frz o u) → H' b = some (.frz o u)
theorem Fz.refl (H : Hp) : Fz H H := ⟨fun _ _ h => h, fun _ _ _ h => h⟩
theorem Fz.trans {H H1 H2 : Hp} (a : Fz H H1) (b : Fz H1 H2) : Fz H H2 := ⟨fun c xs h => b.tup c xs (a.tup c xs h), fun c o u h => b.fz c o u (a.fz c o u h)⟩
theorem Ext.toFz {H H' : Hp} (x : Ext H H') : Fz H H' := ⟨fun b xs h => x.keep b _ h (fun _ z => by cases z), fun b o u h => x.keep b _ h (fun _ z => by cases z)⟩
theorem Fz.lst {H : Hp} {p : Addr} {xs ys : List V} (h : H p = some (.lst xs)) : Fz H (upd H p (.lst ys)) :=
  ⟨fun b zs hb => by
    by_cases e : b = p
    · rw [e, h] at hb; cases hb
    · rw [upd_ne e]; exact hb, fun b o u hb => by
    by_cases e : b = p
    · rw [e, h] at hb; cases hb
    · rw [upd_ne e]; exact hb⟩
section
variable {K : PySem.W.Frag} {H H' : Hp}
theorem Fz.sqT {a : Addr} {xs : List V} (x : Fz H H') (h : SqT K H a xs) : SqT K H' a xs := by
  rcases h with (h | ⟨o, h⟩) | h
  · exact .inl (.inl (x.tup _ _ h))
  · exact .inl (.inr ⟨o, x.fz _ _ _ h⟩)
  · exact .inr h
mutual
theorem Fz.dp (x : Fz H H') : ∀ {v : V} {d : PyData}, frz d = true → Dp K H v d → Dp K H' v d
  | _, _, _, .non => .non
  | _, _, _, .bl b => .bl b
  | _, _, _, .int i => .int i
  | _, _, _, .str z => .str z
  | _, _, h, .lst _ _ => by simp [frz] at h
  | _, _, h, .tup a t => .tup (x.sqT a) (Fz.dps x (by simpa [frz] using h) t)
theorem Fz.dps (x : Fz H H') : ∀ {vs : List V} {ds : List PyData}, frzs ds = true → DpAll K H vs ds → DpAll K H' vs ds
  | _, _, _, .nil => .nil
  | _, _, h, .cons a t => .cons (Fz.dp x (by simp [frzs] at h; exact h.1) a) (Fz.dps x (by simp [frzs] at h; exact h.2) t)
end
theorem frzs_iff : ∀ {ds : List PyData}, frzs ds = true ↔ ∀ d ∈ ds, frz d = true
  | [] => by simp [frzs]
  | d :: ds => by simp [frzs, frzs_iff (ds := ds)]
theorem frzs_app {ds es : List PyData} (h1 : frzs ds = true) (h2 : frzs es = true) : frzs (ds ++ es) = true := by
  rw [frzs_iff] at *
  intro d hd
  rcases List.mem_append.mp hd with h | h
  · exact h1 d h
  · exact h2 d h
end

/-! ### what is walked -/
structure Walks (K : PySem.W.Frag) (J : It) (I : Hp → Prop) (ds : List PyData) : Prop where
  go : ∀ i H, I H → i < ds.length → J.go i H
  yld : ∀ i H x H', I H → i < ds.length → J.yld i H x H' → Ext H H' ∧ ∃ d, ds[i]? = some d ∧ Dp K H' x d
  stop : ∀ i H, I H → ds.length ≤ i → J.stop i H
/-- iter gives ds, one after another, as long as the heap changes by M alone -/
def Src (M : Hp → Hp → Prop) (X : Cx) (tg iter : Expr) (σ : L2.St) (H : Hp) (ds : List PyData) : Prop :=
  ∃ wi, PI X tg iter wi ∧ ∀ H1, Ext H H1 → ∀ R, (∀ J I H2, Ext H1 H2 → I H2 → (∀ H' H'', M H' H'' → I H' → I H'') → Walks X.K J I ds → R J H2) → wi σ H1 R
/-- M keeps these data and what holds them -/
structure Keeps (K : PySem.W.Frag) (M : Hp → Hp → Prop) (ds : List PyData) : Prop where
  sq : ∀ H H' a xs, M H H' → SqT K H a xs → SqT K H' a xs
  dp : ∀ H H' vs, M H H' → DpAll K H vs ds → DpAll K H' vs ds
theorem keeps_ext {K : PySem.W.Frag} {ds : List PyData} : Keeps K Ext ds := ⟨fun _ _ _ _ x h => x.sqT h, fun _ _ _ x h => x.dps h⟩
theorem keeps_fz {K : PySem.W.Frag} {ds : List PyData} (h : frzs ds = true) : Keeps K Fz ds := ⟨fun _ _ _ _ x q => x.sqT q, fun _ _ _ x q => x.dps h q⟩
section
variable {M : Hp → Hp → Prop} {X : Cx} {a b e tg : Expr} {σ : L2.St} {H : Hp} {ds es : List PyData} {p pos tpos : Pos} {i j : Int} {elts : List Expr} {kk : Nat}
theorem src_T (kp : Keeps X.K M ds) (h : Wd X e σ H (.tuple ds)) (pi : PI X tg e (iTup X.K (W X e)) := by exact pi_tup w_pe) : Src M X tg e σ H ds :=
  ⟨_, pi, fun H1 x R q => h H1 x _ fun v H2 x2 dv => by
    obtain ⟨a, xs, rfl, hx, hs⟩ := dp_tup dv
    refine ⟨a, rfl, ⟨xs, hx⟩, q _ (fun H' => SqT X.K H' a xs ∧ DpAll X.K H' xs ds) H2 x2 ⟨hx, hs⟩ (fun H' H'' m ⟨y1, y2⟩ => ⟨kp.sq _ _ _ _ m y1, kp.dp _ _ _ m y2⟩) ⟨fun i H' ⟨y1, y2⟩ hi => ?_, fun i H' v H'' ⟨y1, y2⟩ hi y => ?_, fun i H' ⟨y1, y2⟩ hi => ?_⟩⟩
    · obtain ⟨v, hv, _⟩ := y2.got (List.getElem?_eq_getElem hi)
      exact ⟨xs, v, y1, hv⟩
    · obtain ⟨rfl, y⟩ := y
      obtain ⟨d, hd, dd⟩ := y2.get (y xs y1)
      exact ⟨Ext.refl _, d, hd, dd⟩
    · exact ⟨xs, y1, by rw [y2.len]; exact hi⟩⟩
theorem src_L (h : Wd X e σ H (.list ds)) (pi : PI X tg e (iList X.K (W X e)) := by exact pi_list w_pe) : Src Ext X tg e σ H ds :=
  ⟨_, pi, fun H1 x R q => h H1 x _ fun v H2 x2 dv => by
    obtain ⟨a, xs, rfl, hx, hs⟩ := dp_lst dv
    refine ⟨a, rfl, ⟨xs, hx⟩, q _ (fun H' => SqL X.K H' a xs ∧ DpAll X.K H' xs ds) H2 x2 ⟨hx, hs⟩ (fun H' H'' m ⟨y1, y2⟩ => ⟨m.sqL y1, m.dps y2⟩) ⟨fun i H' ⟨y1, y2⟩ hi => ?_, fun i H' v H'' ⟨y1, y2⟩ hi y => ?_, fun i H' ⟨y1, y2⟩ hi => ?_⟩⟩
    · obtain ⟨v, hv, _⟩ := y2.got (List.getElem?_eq_getElem hi)
      exact ⟨xs, v, y1, hv⟩
    · obtain ⟨rfl, y⟩ := y
      obtain ⟨d, hd, dd⟩ := y2.get (y xs y1)
      exact ⟨Ext.refl _, d, hd, dd⟩
    · exact ⟨xs, y1, by rw [y2.len]; exact hi⟩⟩
def rngD (lo : Int) (n : Nat) : List PyData := (List.range n).map fun (k : Nat) => PyData.int (lo + (k : Int))
theorem walks_rng {K : PySem.W.Frag} {lo : Int} {n : Nat} : Walks K (Itr lo n) (fun _ => True) (rngD lo n) := by
  have hl : (rngD lo n).length = n := by simp [rngD]
  refine ⟨fun i H _ hi => by rw [hl] at hi; exact hi, fun i H x H' _ hi y => ?_, fun i H _ hi => by rw [hl] at hi; exact hi⟩
  obtain ⟨rfl, rfl⟩ := y
  rw [hl] at hi
  exact ⟨Ext.refl _, _, by simp [rngD, hi], .int _⟩
theorem src_range1 (B : Bi X.mg) (h : Wd X a σ H (.int j)) (h1 : -(2 ^ 62) ≤ j) (h2 : j < 2 ^ 62) (hg : Gl X "range" := by rfl) (he : starEach [a] X.env = (false, eval a X.env) :: starEach [] X.env := by rfl) : Src M X tg (.Call (.Name "range" p) [a] [] pos) σ H (rngD 0 j.toNat) := by
  obtain ⟨t, q, z⟩ := wa_cons h wa_nil he
  refine ⟨_, pi_range1 hg B.range q (by first | exact he | rfl), fun H1 x R r => z H1 x _ fun vs H2 x2 dv => ?_⟩
  obtain ⟨v, ws, rfl, h1', h2'⟩ := dps_cons dv
  obtain rfl := dps_nil h2'
  exact ⟨j, by rw [dp_int h1'], h1, h2, r _ _ H2 x2 True.intro (fun _ _ _ _ => True.intro) walks_rng⟩
theorem src_range2 (B : Bi X.mg) (h : Wd X a σ H (.int i)) (h' : Wd X b σ H (.int j)) (h1 : -(2 ^ 62) ≤ i ∧ i < 2 ^ 62 ∧ -(2 ^ 62) ≤ j ∧ j < 2 ^ 62) (hg : Gl X "range" := by rfl) (he : starEach [a, b] X.env = (false, eval a X.env) :: starEach [b] X.env := by rfl) (he2 : starEach [b] X.env = (false, eval b X.env) :: starEach [] X.env := by rfl)
    (hpl : (backTo pos (starEach [b] X.env)).any (·.1) = false := by rfl) : Src M X tg (.Call (.Name "range" p) [a, b] [] pos) σ H (rngD i (j - i).toNat) := by
  obtain ⟨t, q, z⟩ := wa_cons h (wa_cons h' wa_nil he2) he
  refine ⟨_, pi_range2 hg B.range q (by rw [he, he2]; rfl) (by rw [he2]; rfl), fun H1 x R r => z H1 x _ fun vs H2 x2 dv => ?_⟩
  obtain ⟨v, ws, rfl, h1', h2'⟩ := dps_cons dv
  obtain ⟨v2, ws, rfl, h3', h4'⟩ := dps_cons h2'
  obtain rfl := dps_nil h4'
  exact ⟨i, j, by rw [dp_int h1', dp_int h3'], h1, r _ _ H2 x2 True.intro (fun _ _ _ _ => True.intro) walks_rng⟩
def zipD (ds es : List PyData) : List PyData := List.zipWith (fun a b => .tuple [a, b]) ds es
theorem zipD_get {ds es : List PyData} {i : Nat} {d e : PyData} (h1 : ds[i]? = some d) (h2 : es[i]? = some e) : (zipD ds es)[i]? = some (.tuple [d, e]) := by
  unfold zipD
  rw [List.getElem?_zipWith, h1, h2]
theorem src_zipT (B : Bi X.mg) (k1 : Keeps X.K M ds) (k2 : Keeps X.K M es) (h1 : Wd X a σ H (.tuple ds)) (h2 : Wd X b σ H (.tuple es)) (hg : Gl X "zip" := by rfl) (he : starEach [a, b] X.env = (false, eval a X.env) :: starEach [b] X.env := by rfl) (he2 : starEach [b] X.env = (false, eval b X.env) :: starEach [] X.env := by rfl)
    (hpl : (backTo pos (starEach [b] X.env)).any (·.1) = false := by rfl) : Src M X (.Tuple elts kk tpos) (.Call (.Name "zip" p) [a, b] [] pos) σ H (zipD ds es) := by
  obtain ⟨t, q, z⟩ := wa_cons h1 (wa_cons h2 wa_nil he2) he
  refine ⟨_, RZ.pi_zipA hg B.zip q (by first | exact he | rfl) (by first | exact hpl | rfl), fun H1 x R r => z H1 x _ fun vs H2 x2 dv => ?_⟩
  obtain ⟨v, ws, rfl, h1', h2'⟩ := dps_cons dv
  obtain ⟨v2, ws, rfl, h3', h4'⟩ := dps_cons h2'
  obtain rfl := dps_nil h4'
  obtain ⟨p1, xs, rfl, hx, hs⟩ := dp_tup h1'
  obtain ⟨p2, ys, rfl, hy, ht⟩ := dp_tup h3'
  have hl : (zipD ds es).length = min ds.length es.length := by simp [zipD]
  refine ⟨p1, p2, xs, ys, rfl, .inr ⟨hx, hy, r _ (fun H' => (SqT X.K H' p1 xs ∧ DpAll X.K H' xs ds) ∧ SqT X.K H' p2 ys ∧ DpAll X.K H' ys es) H2 x2 ⟨⟨hx, hs⟩, hy, ht⟩ (fun H' H'' m ⟨⟨y1, y2⟩, y3, y4⟩ => ⟨⟨k1.sq _ _ _ _ m y1, k1.dp _ _ _ m y2⟩, k2.sq _ _ _ _ m y3, k2.dp _ _ _ m y4⟩)
    ⟨fun i H' ⟨⟨y1, y2⟩, y3, y4⟩ hi => ?_, fun i H' v H'' ⟨⟨y1, y2⟩, y3, y4⟩ hi y => ?_, fun i H' ⟨⟨y1, y2⟩, y3, y4⟩ hi => ?_⟩⟩⟩
  · rw [hl] at hi
    obtain ⟨v, hv, _⟩ := y2.got (List.getElem?_eq_getElem (show i < ds.length by omega))
    obtain ⟨w, hw, _⟩ := y4.got (List.getElem?_eq_getElem (show i < es.length by omega))
    exact ⟨xs, ys, v, w, y1, y3, hv, hw⟩
  · obtain ⟨T, x', y', rfl, hT, rfl, f1, f2⟩ := y
    obtain ⟨d, hd, dd⟩ := y2.get (f1 xs y1)
    obtain ⟨e, he, de⟩ := y4.get (f2 ys y3)
    exact ⟨Ext.new hT, _, zipD_get hd he, .tup (sqT_of upd_same) (.cons ((Ext.new hT).dp dd) (.cons ((Ext.new hT).dp de) .nil))⟩
  · refine ⟨xs, ys, y1, y3, ?_⟩
    rw [hl] at hi
    have l1 := y2.len
    have l2 := y4.len
    omega
end

/-! ### wiped slots -/
theorem wipe_set {σ : L2.St} {i : Nat} {x : Option V} : ∀ {vs : List Nat}, i ∈ vs → wipe (σ.set i x) vs = wipe σ vs
  | [], h => by cases h
  | v :: vs, h => by
    unfold wipe
    by_cases hv : i ∈ vs
    · rw [wipe_set hv]
    · have e : i = v := by
        rcases List.mem_cons.mp h with e | e
        · exact e
        · exact absurd e hv
      subst e
      clear h
      have key : ∀ {ws : List Nat}, i ∉ ws → wipe (σ.set i x) ws = (wipe σ ws).set i x := by
        intro ws
        induction ws with
        | nil => intro _; rfl
        | cons w ws ih =>
          intro hw
          rw [List.mem_cons, not_or] at hw
          show (wipe (σ.set i x) ws).set w none = ((wipe σ ws).set w none).set i x
          rw [ih hw.2, List.set_comm _ _ (fun e => hw.1 e)]
      rw [key hv, List.set_set]
theorem wipe_idem {σ : L2.St} : ∀ {vs : List Nat}, wipe (wipe σ vs) vs = wipe σ vs
  | [] => rfl
  | v :: vs => by
    have h : ∀ (τ : L2.St) (ws : List Nat), wipe (τ.set v none) ws = (wipe τ ws).set v none := by
      intro τ ws
      induction ws with
      | nil => rfl
      | cons w ws ih =>
        show (wipe (τ.set v none) ws).set w none = ((wipe τ ws).set w none).set v none
        rw [ih]
        by_cases e : v = w
        · rw [e]
        · rw [List.set_comm _ _ e]
    show (wipe ((wipe σ vs).set v none) vs).set v none = (wipe σ vs).set v none
    rw [h, List.set_set, wipe_idem (vs := vs)]
theorem wipe_setAll : ∀ {is : List Nat} {ws : List V} {σ : L2.St} {vs : List Nat}, (∀ i ∈ is, i ∈ vs) → wipe (setAll σ is ws) vs = wipe σ vs
  | [], ws, σ, vs, _ => by cases ws <;> rfl
  | i :: is, [], σ, vs, _ => rfl
  | i :: is, w :: ws, σ, vs, h => by
    show wipe (setAll (σ.set i (some w)) is ws) vs = _
    rw [wipe_setAll (fun j hj => h j (List.mem_cons_of_mem _ hj)), wipe_set (h i List.mem_cons_self)]
theorem wipe_ok {is : List Nat} {ws : List V} {σ : L2.St} {vs : List Nat} (h : ∀ i ∈ is, i ∈ vs) : wipe (setAll (wipe σ vs) is ws) vs = wipe σ vs := by
  rw [wipe_setAll h, wipe_idem]
end FW


set_option Elab.async false
set_option linter.all false
set_option maxRecDepth 100000
set_option maxHeartbeats 4000000
/-! FW.W5: list comprehensions and generator expressions on data. -/
namespace FW
open PySem PySem.Spec PyProof.Rows L2 StX
/-! ### tests of a comprehension -/
def WTs (X : Cx) (ifs : List Expr) : TT := fun σ H Q => ∀ t, PTs X ifs t → False → t σ H Q
section
variable {X : Cx} {σ : L2.St} {H : Hp}
/-- the tests come out as b -/
inductive Ifs (X : Cx) (σ : L2.St) (H : Hp) : List Expr → Bool → Prop
  | nil : Ifs X σ H [] true
  | one {c : Expr} {b : Bool} (h : Wt X c σ H b) : Ifs X σ H [c] b
end
/-- the uniform readings of a family of contexts -/
def UE {ι : Type} (Y : ι → Cx) (e : Expr) : TE := fun σ H Q => ∀ i, W (Y i) e σ H Q
def UG {ι : Type} (Y : ι → Cx) (tg : Expr) : TG := fun v σ H Q => ∀ i, WG (Y i) tg v σ H Q
def UT {ι : Type} (Y : ι → Cx) : List Expr → TT
  | [] => tYes
  | [c] => fun σ H Q => ∀ i, WT (Y i) c σ H Q
  | _ => fun _ _ _ => False
theorem ue_pe {ι : Type} {Y : ι → Cx} {e : Expr} (i : ι) : PE (Y i) e (UE Y e) := ⟨fun pins s _ _ _ I h => h i pins s I⟩
theorem ug_pg {ι : Type} {Y : ι → Cx} {tg : Expr} (i : ι) : PG (Y i) tg (UG Y tg) := ⟨fun pins s _ _ _ u _ I r h => h i pins s u I r⟩
theorem ut_pt {ι : Type} {Y : ι → Cx} (i : ι) : ∀ {ifs : List Expr}, PTs (Y i) ifs (UT Y ifs)
  | [] => pts_nil
  | [c] => pts_one ⟨fun pins s _ _ _ I h => h i pins s I⟩
  | _ :: _ :: _ => ⟨fun _ _ _ _ _ _ h => h.elim⟩
/-- one turn: the target taken apart, the tests, the element -/
theorem ifs_le {X : Cx} {σ : L2.St} {H : Hp} {ifs : List Expr} {b : Bool} (h : Ifs X σ H ifs b) : ifs.length ≤ 1 := by cases h <;> simp
structure Turn1 {ι : Type} (K : PySem.W.Frag) (Y : ι → Cx) (tg : Expr) (ifs : List Expr) (elt : Expr) (σ : L2.St) (H : Hp) (vs : List Nat) (d : PyData) (is : List Nat) (bs : List PyData) (b : Bool) (g : PyData) : Prop where
  ne : ifs = [] → b = true
  one : ifs.length ≤ 1
  tgt : ∀ i, Gj (Y i) tg d is bs
  ifs : ∀ i H' ws, Ext H H' → DpAll K H' ws bs → Ifs (Y i) (setAll (wipe σ vs) is ws) H' ifs b
  elt : b = true → ∀ i H' ws, Ext H H' → DpAll K H' ws bs → Wd (Y i) elt (setAll (wipe σ vs) is ws) H' g
section
variable {ι : Type} {K : PySem.W.Frag} {Y : ι → Cx} {tg elt : Expr} {ifs : List Expr} {σ : L2.St} {H H' : Hp} {vs is : List Nat} {bs : List PyData} {b : Bool} {g : PyData}
theorem ue_of {d : PyData} (hK : ∀ i, (Y i).K = K) (h : ∀ i H1, Ext H H1 → Wd (Y i) elt σ H1 d) : EvD K (UE Y elt) σ H d := fun H1 x Q q i => by
  have z := h i H1 x
  unfold Wd at z
  rw [hK i] at z
  exact z H1 (Ext.refl H1) Q q
theorem ug_of {d : PyData} (hK : ∀ i, (Y i).K = K) (h : ∀ i, Gj (Y i) tg d is bs) {v : V} (dv : Dp K H' v d) {Q : L2.St → Hp → Prop} (q : ∀ ws, DpAll K H' ws bs → Q (setAll σ is ws) H') : UG Y tg v σ H' Q := fun i => by
  refine (h i).go σ H' v (by rw [hK i]; exact dv) Q fun ws hw => q ws (by rw [hK i] at hw; exact hw)
theorem ut_of (h : ∀ i H1, Ext H H1 → Ifs (Y i) σ H1 ifs b) (ne : ifs = [] → b = true) (le : ifs.length ≤ 1) : EvT (UT Y ifs) σ H b := fun H1 x Q q => by
  cases ifs with
  | nil =>
    rw [ne rfl] at q
    exact q H1 (Ext.refl H1)
  | cons c r =>
    cases r with
    | nil =>
      intro i
      cases h i H1 x with
      | one z => exact z H1 (Ext.refl H1) Q q
    | cons c2 r =>
      simp at le
theorem turn_nil {d : PyData} (tgt : ∀ i, Gj (Y i) tg d is bs) (he : ∀ i H' ws, Ext H H' → DpAll K H' ws bs → Wd (Y i) elt (setAll (wipe σ vs) is ws) H' g) : Turn1 K Y tg [] elt σ H vs d is bs true g :=
  ⟨fun _ => rfl, Nat.zero_le _, tgt, fun _ _ _ _ _ => .nil, fun _ => he⟩
theorem turn_one {d : PyData} {c : Expr} (tgt : ∀ i, Gj (Y i) tg d is bs) (test : ∀ i H' ws, Ext H H' → DpAll K H' ws bs → Wt (Y i) c (setAll (wipe σ vs) is ws) H' b) (he : b = true → ∀ i H' ws, Ext H H' → DpAll K H' ws bs → Wd (Y i) elt (setAll (wipe σ vs) is ws) H' g) :
    Turn1 K Y tg [c] elt σ H vs d is bs b g := ⟨(fun h => nomatch h), Nat.le_refl _, tgt, fun i H' ws x y => .one (test i H' ws x y), he⟩
end
/-- what the first i give -/
def got {α : Type} (xs : List α) (b : α → Bool) (g : α → PyData) (i : Nat) : List PyData := ((xs.take i).filter b).map g
theorem got_succ {α : Type} {xs : List α} {b : α → Bool} {g : α → PyData} {i : Nat} {x : α} (h : xs[i]? = some x) : got xs b g (i + 1) = got xs b g i ++ (if b x = true then [g x] else []) := by
  unfold got
  rw [List.take_add_one, h]
  simp only [Option.toList_some, List.filter_append, List.map_append]
  congr 1
  by_cases e : b x = true
  · rw [if_pos e, List.filter_cons_of_pos e]; rfl
  · rw [if_neg e, List.filter_cons_of_neg e]; rfl
theorem got_all {α : Type} {xs : List α} {b : α → Bool} {g : α → PyData} : got xs b g xs.length = (xs.filter b).map g := by unfold got; rw [List.take_length]
theorem got_len {α : Type} {xs : List α} {b : α → Bool} {g : α → PyData} {i : Nat} : (got xs b g i).length ≤ xs.length := by
  unfold got
  rw [List.length_map]
  exact Nat.le_trans (List.length_filter_le _ _) (by rw [List.length_take]; omega)
theorem got_len_lt {α : Type} {xs : List α} {b : α → Bool} {g : α → PyData} {i : Nat} (h : i < xs.length) : (got xs b g i).length < xs.length := by
  unfold got
  rw [List.length_map]
  exact Nat.lt_of_le_of_lt (List.length_filter_le _ _) (by rw [List.length_take]; omega)
section
variable {X : Cx} {elt tg iter : Expr} {ifs : List Expr} {scope : Scope} {own : List (Str × Nat)} {p gpos pos : Pos} {σ : L2.St} {H : Hp} {α : Type}
/-- the contexts of a list comprehension's block -/
abbrev bx (X : Cx) (scope : Scope) (i : Shared × Hp × Addr × List (Str × Addr) × List Addr) : Cx := X.blk i.1 i.2.1 scope (compEnvC scope i.2.2.2.1 i.2.2.1 X.env) i.2.2.2.2
/-- [elt for tg in iter if ..] -/
theorem wl_lc (own : List (Str × Nat)) (is : List Nat) {xs : List α} {enc : α → PyData} (bs : α → List PyData) (b : α → Bool) (g : α → PyData) (hc : X.calm = true) (nd : X.N.Nodup) (ok : BlkOk X.N X.env.scope scope own) (S : Src Ext X tg iter σ H (xs.map enc))
    (his : ∀ i ∈ is, i ∈ own.map (·.2)) (hl : xs.length ≤ 100000) (hz : ∀ x ∈ xs, b x = true → frz (g x) = true)
    (T : ∀ x ∈ xs, Turn1 X.K (bx X scope) tg ifs elt σ H (own.map (·.2)) (enc x) is (bs x) (b x) (g x)) (hs : ∀ x, foldedSetIterable iter X.env x = pure x := by intro _; rfl) :
    Wl X (.ListComp elt [⟨tg, iter, ifs, 0⟩] scope pos) σ H ((xs.filter b).map g) := by
  obtain ⟨wi, pi, src⟩ := S
  refine ev_pe (pe_lc (wi := wi) (g := UG (bx X scope) tg) (tt := UT (bx X scope) ifs) (te := UE (bx X scope) elt) (own := own) hc nd pi ok (fun s H C cl fp => ug_pg (Y := bx X scope) (s, H, C, cl, fp)) (fun s H C cl fp => ut_pt (Y := bx X scope) (s, H, C, cl, fp)) (fun s H C cl fp => ue_pe (Y := bx X scope) (s, H, C, cl, fp)) hs) fun H1 x1 Q q => ?_
  refine src H1 x1 _ fun J I H2 x2 I2 st wk D hD => ?_
  have hDH : H D = none := (x1.trans x2).fresh hD
  have len : (xs.map enc).length = xs.length := List.length_map ..
  refine ⟨fun i m H' => m = xs.length - i ∧ i ≤ xs.length ∧ Ext H2 H' ∧ ∃ acc, H' D = some (.lst acc) ∧ DpAll X.K H' acc (got xs b g i) ∧ frzs (got xs b g i) = true, ⟨xs.length, rfl, Nat.zero_le _, Ext.new hD, [], upd_same, .nil, rfl⟩, ?_⟩
  rintro i m H' ⟨rfl, hi, x3, acc, hacc, dacc, zacc⟩
  have iH := st _ _ x3 I2
  by_cases hlt : i < xs.length
  · obtain ⟨x, hx⟩ : ∃ x, xs[i]? = some x := ⟨_, List.getElem?_eq_getElem hlt⟩
    have hmem : x ∈ xs := List.mem_of_getElem? hx
    refine .inr ⟨wk.go i H' iH (by rw [len]; exact hlt), fun H'' => i + 1 ≤ xs.length ∧ Ext H2 H'' ∧ ∃ acc, H'' D = some (.lst acc) ∧ DpAll X.K H'' acc (got xs b g (i + 1)) ∧ frzs (got xs b g (i + 1)) = true, fun H'' ⟨z1, z2⟩ => ⟨xs.length - (i + 1), by omega, rfl, z1, z2⟩, fun v H'' y => ?_⟩
    obtain ⟨x4, d, hd, dv⟩ := wk.yld i H' v H'' iH (by rw [len]; exact hlt) y
    have hd2 : enc x = d := by
      rw [List.getElem?_map, hx] at hd
      exact Option.some.inj hd
    subst hd2
    have t := T x hmem
    refine ug_of (Y := bx X scope) (K := X.K) (fun _ => rfl) t.tgt dv fun ws hw => ⟨wipe_ok his, ?_⟩
    have x5 : Ext H H'' := ((x1.trans x2).trans x3).trans x4
    refine ut_of (Y := bx X scope) (H := H'') (fun i H3 x6 => t.ifs i H3 ws (x5.trans x6) (x6.dps hw)) t.ne t.one H'' (Ext.refl _) _ fun H3 x6 => ?_
    have lacc : acc.length < sizeLine := by
      rw [dacc.len]
      exact sz_lt (Nat.lt_of_lt_of_le (got_len_lt hlt) hl)
    cases hb : b x with
    | true =>
      rw [if_pos rfl]
      refine ue_of (Y := bx X scope) (K := X.K) (H := H3) (d := g x) (fun _ => rfl) (fun i H4 x7 => t.elt hb i H4 ws ((x5.trans x6).trans x7) ((x6.trans x7).dps hw)) H3 (Ext.refl _) _ fun u H4 x7 du => ?_
      have x8 : Ext H' H4 := (x4.trans x6).trans x7
      have h4 : H4 D = some (.lst acc) := x8.lst hacc
      have e : got xs b g (i + 1) = got xs b g i ++ [g x] := by rw [got_succ hx, if_pos hb]
      have zg := hz x hmem hb
      refine ⟨acc, h4, lacc, hlt, ?_, acc ++ [u], upd_same, ?_, ?_⟩
      · exact (x3.trans x8).mut hD
      · rw [e]
        exact ((Fz.lst h4).dps zacc (x8.dps dacc)).app (.cons ((Fz.lst h4).dp zg du) .nil)
      · rw [e]
        exact frzs_app zacc (by simp [frzs, zg])
    | false =>
      rw [if_neg (by decide)]
      have e : got xs b g (i + 1) = got xs b g i := by rw [got_succ hx, if_neg (by rw [hb]; decide), List.append_nil]
      refine ⟨hlt, (x3.trans x4).trans x6, acc, (x4.trans x6).lst hacc, ?_, ?_⟩
      · rw [e]; exact (x4.trans x6).dps dacc
      · rw [e]; exact zacc
  · have ei : i = xs.length := by omega
    subst ei
    refine .inl ⟨wk.stop _ H' iH (by rw [len]; exact Nat.le_refl _), q _ H' (x2.trans x3) ⟨D, acc, rfl, hDH, hacc, ?_⟩⟩
    rw [got_all] at dacc
    exact dacc
/-- the contexts of a generator expression's frame -/
abbrev yx (X : Cx) (k : Nat) (scope : Scope) (i : { z : Around × Shared × Hp × Addr × Value × List Addr // Room k z.1 }) : Cx :=
  gx X i.1.1 i.1.2.1 i.1.2.2.1 (genEnv scope (cloFrom X.env.cells scope.names []) i.1.2.2.2.1 i.1.2.2.2.2.1 builtinsNs X.env) i.1.2.2.2.2.2
section
variable {k : Nat} {c T : Addr} {cs : List (Addr × Addr)} {xs : List α} {enc : α → PyData}
/-- all(elt for tg in iter if ..) -/
theorem wd_all (own : List (Str × Nat)) (is : List Nat) (bs : α → List PyData) (b : α → Bool) (g : α → Bool) (B : Bi X.mg) (hr : Room (k + 1) X.A) (TB : LamX.TabB X.base X.mg c T) (hcode : X.env.code = .ref c) (TT : Tabs cs H) (hT : (c, T) ∈ cs) (nd : X.N.Nodup) (SC : GSc X scope own)
    (S : Src Ext X tg iter σ H (xs.map enc)) (his : ∀ i ∈ is, i ∈ own.map (·.2)) (tn : ∀ x ∈ xs, Turn1 X.K (yx X k scope) tg ifs elt σ H (own.map (·.2)) (enc x) is (bs x) (b x) (.bool (g x)))
    (hg : Gl X "all" := by rfl) (hs : ∀ v, genFold iter X.env v = pure v := by intro _; rfl) (he : starEach [GE elt tg iter ifs scope gpos] X.env = (false, eval (GE elt tg iter ifs scope gpos) X.env) :: starEach [] X.env := by rfl) :
    Wd X (.Call (.Name "all" p) [GE elt tg iter ifs scope gpos] [] pos) σ H (.bool ((xs.filter b).all g)) := by
  obtain ⟨wi, pi, src⟩ := S
  refine ev_pe (pe_allG (P := T) (k := k) (wi := wi) (g := UG (yx X k scope) tg) (tt := UT (yx X k scope) ifs) (te := UE (yx X k scope) elt) (own := own) hr hg B.all TB hcode nd SC pi (fun A' s H C code fp hr' => ug_pg (Y := yx X k scope) ⟨(A', s, H, C, code, fp), hr'⟩) (fun A' s H C code fp hr' => ut_pt (Y := yx X k scope) ⟨(A', s, H, C, code, fp), hr'⟩) (fun A' s H C code fp hr' => ue_pe (Y := yx X k scope) ⟨(A', s, H, C, code, fp), hr'⟩) hs he) fun H1 x1 Q q => ?_
  refine src H1 x1 _ fun J I H2 x2 I2 st wk => ?_
  have tab : TabG H2 T := (TT.ext (x1.trans x2)) _ hT
  refine ⟨tab, fun H3 gr => ?_⟩
  have x3 : Ext H2 H3 := Ext.grown tab gr
  have len : (xs.map enc).length = xs.length := List.length_map ..
  refine ⟨fun i m H' => m = xs.length - i ∧ i ≤ xs.length ∧ Ext H3 H' ∧ ((xs.take i).filter b).all g = true, ⟨xs.length, rfl, Nat.zero_le _, Ext.refl _, rfl⟩, ?_⟩
  rintro i m H' ⟨rfl, hi, x4, hall⟩
  have iH := st _ _ (x3.trans x4) I2
  by_cases hlt : i < xs.length
  · obtain ⟨x, hx⟩ : ∃ x, xs[i]? = some x := ⟨_, List.getElem?_eq_getElem hlt⟩
    have hmem : x ∈ xs := List.mem_of_getElem? hx
    have tk : xs.take (i + 1) = xs.take i ++ [x] := by rw [List.take_add_one, hx]; rfl
    refine .inr ⟨wk.go i H' iH (by rw [len]; exact hlt), fun v H'' y => ?_⟩
    obtain ⟨x5, d, hd, dv⟩ := wk.yld i H' v H'' iH (by rw [len]; exact hlt) y
    have hd2 : enc x = d := by
      rw [List.getElem?_map, hx] at hd
      exact Option.some.inj hd
    subst hd2
    have t := tn x hmem
    refine ug_of (Y := yx X k scope) (K := X.K) (fun _ => rfl) t.tgt dv fun ws hw => ⟨wipe_ok his, ?_⟩
    have x6 : Ext H H'' := ((((x1.trans x2).trans x3).trans x4)).trans x5
    refine ut_of (Y := yx X k scope) (H := H'') (fun i H3 x7 => t.ifs i H3 ws (x6.trans x7) (x7.dps hw)) t.ne t.one H'' (Ext.refl _) _ fun H4 x7 => ?_
    cases hb : b x with
    | true =>
      rw [if_pos rfl]
      refine ue_of (Y := yx X k scope) (K := X.K) (H := H4) (d := .bool (g x)) (fun _ => rfl) (fun i H5 x8 => t.elt hb i H5 ws ((x6.trans x7).trans x8) ((x7.trans x8).dps hw)) H4 (Ext.refl _) _ fun u H5 x8 du => ⟨g x, dp_bl du, ?_⟩
      cases hgx : g x with
      | true =>
        rw [if_pos rfl]
        refine ⟨xs.length - (i + 1), by omega, rfl, hlt, ((x4.trans x5).trans x7).trans x8, ?_⟩
        rw [tk, List.filter_append, List.all_append, hall, List.filter_cons_of_pos hb]
        simp [hgx]
      | false =>
        rw [if_neg (by decide)]
        refine q _ H5 ((((x2.trans x3).trans x4).trans (x5.trans x7)).trans x8) ?_
        have e : (xs.filter b).all g = false := by
          rw [Bool.eq_false_iff]
          intro z
          rw [List.all_eq_true] at z
          rw [z x (List.mem_filter.mpr ⟨hmem, hb⟩)] at hgx
          cases hgx
        rw [e]
        exact .bl false
    | false =>
      rw [if_neg (by decide)]
      refine ⟨xs.length - (i + 1), by omega, rfl, hlt, (x4.trans x5).trans x7, ?_⟩
      rw [tk, List.filter_append, List.all_append, hall, List.filter_cons_of_neg (by rw [hb]; decide)]
      rfl
  · have ei : i = xs.length := by omega
    subst ei
    rw [List.take_length] at hall
    rw [hall] at q
    exact .inl ⟨wk.stop _ H' iH (by rw [len]; exact Nat.le_refl _), q _ H' ((x2.trans x3).trans x4) (.bl true)⟩
/-- any(elt for tg in iter if ..) -/
theorem wd_any (own : List (Str × Nat)) (is : List Nat) (bs : α → List PyData) (b : α → Bool) (g : α → Bool) (B : Bi X.mg) (hr : Room (k + 1) X.A) (TB : LamX.TabB X.base X.mg c T) (hcode : X.env.code = .ref c) (TT : Tabs cs H) (hT : (c, T) ∈ cs) (nd : X.N.Nodup) (SC : GSc X scope own)
    (S : Src Ext X tg iter σ H (xs.map enc)) (his : ∀ i ∈ is, i ∈ own.map (·.2)) (tn : ∀ x ∈ xs, Turn1 X.K (yx X k scope) tg ifs elt σ H (own.map (·.2)) (enc x) is (bs x) (b x) (.bool (g x)))
    (hg : Gl X "any" := by rfl) (hs : ∀ v, genFold iter X.env v = pure v := by intro _; rfl) (he : starEach [GE elt tg iter ifs scope gpos] X.env = (false, eval (GE elt tg iter ifs scope gpos) X.env) :: starEach [] X.env := by rfl) :
    Wd X (.Call (.Name "any" p) [GE elt tg iter ifs scope gpos] [] pos) σ H (.bool ((xs.filter b).any g)) := by
  obtain ⟨wi, pi, src⟩ := S
  refine ev_pe (pe_anyG (P := T) (k := k) (wi := wi) (g := UG (yx X k scope) tg) (tt := UT (yx X k scope) ifs) (te := UE (yx X k scope) elt) (own := own) hr hg B.any TB hcode nd SC pi (fun A' s H C code fp hr' => ug_pg (Y := yx X k scope) ⟨(A', s, H, C, code, fp), hr'⟩) (fun A' s H C code fp hr' => ut_pt (Y := yx X k scope) ⟨(A', s, H, C, code, fp), hr'⟩) (fun A' s H C code fp hr' => ue_pe (Y := yx X k scope) ⟨(A', s, H, C, code, fp), hr'⟩) hs he) fun H1 x1 Q q => ?_
  refine src H1 x1 _ fun J I H2 x2 I2 st wk => ?_
  have tab : TabG H2 T := (TT.ext (x1.trans x2)) _ hT
  refine ⟨tab, fun H3 gr => ?_⟩
  have x3 : Ext H2 H3 := Ext.grown tab gr
  have len : (xs.map enc).length = xs.length := List.length_map ..
  refine ⟨fun i m H' => m = xs.length - i ∧ i ≤ xs.length ∧ Ext H3 H' ∧ ((xs.take i).filter b).any g = false, ⟨xs.length, rfl, Nat.zero_le _, Ext.refl _, rfl⟩, ?_⟩
  rintro i m H' ⟨rfl, hi, x4, hall⟩
  have iH := st _ _ (x3.trans x4) I2
  by_cases hlt : i < xs.length
  · obtain ⟨x, hx⟩ : ∃ x, xs[i]? = some x := ⟨_, List.getElem?_eq_getElem hlt⟩
    have hmem : x ∈ xs := List.mem_of_getElem? hx
    have tk : xs.take (i + 1) = xs.take i ++ [x] := by rw [List.take_add_one, hx]; rfl
    refine .inr ⟨wk.go i H' iH (by rw [len]; exact hlt), fun v H'' y => ?_⟩
    obtain ⟨x5, d, hd, dv⟩ := wk.yld i H' v H'' iH (by rw [len]; exact hlt) y
    have hd2 : enc x = d := by
      rw [List.getElem?_map, hx] at hd
      exact Option.some.inj hd
    subst hd2
    have t := tn x hmem
    refine ug_of (Y := yx X k scope) (K := X.K) (fun _ => rfl) t.tgt dv fun ws hw => ⟨wipe_ok his, ?_⟩
    have x6 : Ext H H'' := ((((x1.trans x2).trans x3).trans x4)).trans x5
    refine ut_of (Y := yx X k scope) (H := H'') (fun i H3 x7 => t.ifs i H3 ws (x6.trans x7) (x7.dps hw)) t.ne t.one H'' (Ext.refl _) _ fun H4 x7 => ?_
    cases hb : b x with
    | true =>
      rw [if_pos rfl]
      refine ue_of (Y := yx X k scope) (K := X.K) (H := H4) (d := .bool (g x)) (fun _ => rfl) (fun i H5 x8 => t.elt hb i H5 ws ((x6.trans x7).trans x8) ((x7.trans x8).dps hw)) H4 (Ext.refl _) _ fun u H5 x8 du => ⟨g x, dp_bl du, ?_⟩
      cases hgx : g x with
      | false =>
        rw [if_neg (by decide)]
        refine ⟨xs.length - (i + 1), by omega, rfl, hlt, ((x4.trans x5).trans x7).trans x8, ?_⟩
        rw [tk, List.filter_append, List.any_append, hall, List.filter_cons_of_pos hb]
        simp [hgx]
      | true =>
        rw [if_pos rfl]
        refine q _ H5 ((((x2.trans x3).trans x4).trans (x5.trans x7)).trans x8) ?_
        have e : (xs.filter b).any g = true := List.any_eq_true.mpr ⟨x, List.mem_filter.mpr ⟨hmem, hb⟩, hgx⟩
        rw [e]
        exact .bl true
    | false =>
      rw [if_neg (by decide)]
      refine ⟨xs.length - (i + 1), by omega, rfl, hlt, (x4.trans x5).trans x7, ?_⟩
      rw [tk, List.filter_append, List.any_append, hall, List.filter_cons_of_neg (by rw [hb]; decide)]
      rfl
  · have ei : i = xs.length := by omega
    subst ei
    rw [List.take_length] at hall
    rw [hall] at q
    exact .inl ⟨wk.stop _ H' iH (by rw [len]; exact Nat.le_refl _), q _ H' ((x2.trans x3).trans x4) (.bl false)⟩
/-- tuple(elt for tg in iter if ..) -/
theorem wd_tupG (own : List (Str × Nat)) (is : List Nat) (bs : α → List PyData) (b : α → Bool) (g : α → PyData) (B : Bi X.mg) (hr : Room (k + 1) X.A) (TB : LamX.TabB X.base X.mg c T) (hcode : X.env.code = .ref c) (TT : Tabs cs H) (hT : (c, T) ∈ cs) (nd : X.N.Nodup) (SC : GSc X scope own)
    (S : Src Ext X tg iter σ H (xs.map enc)) (his : ∀ i ∈ is, i ∈ own.map (·.2)) (hl : xs.length ≤ 100000) (tn : ∀ x ∈ xs, Turn1 X.K (yx X k scope) tg ifs elt σ H (own.map (·.2)) (enc x) is (bs x) (b x) (g x))
    (hg : Gl X "tuple" := by rfl) (hs : ∀ v, genFold iter X.env v = pure v := by intro _; rfl) (he : starEach [GE elt tg iter ifs scope gpos] X.env = (false, eval (GE elt tg iter ifs scope gpos) X.env) :: starEach [] X.env := by rfl) :
    Wd X (.Call (.Name "tuple" p) [GE elt tg iter ifs scope gpos] [] pos) σ H (.tuple ((xs.filter b).map g)) := by
  obtain ⟨wi, pi, src⟩ := S
  refine ev_pe (pe_tupG (P := T) (k := k) (wi := wi) (g := UG (yx X k scope) tg) (tt := UT (yx X k scope) ifs) (te := UE (yx X k scope) elt) (own := own) hr hg B.tuple TB hcode nd SC pi (fun A' s H C code fp hr' => ug_pg (Y := yx X k scope) ⟨(A', s, H, C, code, fp), hr'⟩) (fun A' s H C code fp hr' => ut_pt (Y := yx X k scope) ⟨(A', s, H, C, code, fp), hr'⟩) (fun A' s H C code fp hr' => ue_pe (Y := yx X k scope) ⟨(A', s, H, C, code, fp), hr'⟩) hs he) fun H1 x1 Q q => ?_
  refine src H1 x1 _ fun J I H2 x2 I2 st wk => ?_
  have tab : TabG H2 T := (TT.ext (x1.trans x2)) _ hT
  refine ⟨tab, fun H3 gr => ?_⟩
  have x3 : Ext H2 H3 := Ext.grown tab gr
  have len : (xs.map enc).length = xs.length := List.length_map ..
  refine ⟨fun ys i m H' => m = xs.length - i ∧ i ≤ xs.length ∧ Ext H3 H' ∧ DpAll X.K H' ys (got xs b g i), ⟨xs.length, rfl, Nat.zero_le _, Ext.refl _, .nil⟩, ?_⟩
  rintro ys i m H' ⟨rfl, hi, x4, dys⟩
  have iH := st _ _ (x3.trans x4) I2
  by_cases hlt : i < xs.length
  · obtain ⟨x, hx⟩ : ∃ x, xs[i]? = some x := ⟨_, List.getElem?_eq_getElem hlt⟩
    have hmem : x ∈ xs := List.mem_of_getElem? hx
    refine .inr ⟨wk.go i H' iH (by rw [len]; exact hlt), fun v H'' y => ?_⟩
    obtain ⟨x5, d, hd, dv⟩ := wk.yld i H' v H'' iH (by rw [len]; exact hlt) y
    have hd2 : enc x = d := by
      rw [List.getElem?_map, hx] at hd
      exact Option.some.inj hd
    subst hd2
    have t := tn x hmem
    refine ug_of (Y := yx X k scope) (K := X.K) (fun _ => rfl) t.tgt dv fun ws hw => ⟨wipe_ok his, ?_⟩
    have x6 : Ext H H'' := ((((x1.trans x2).trans x3).trans x4)).trans x5
    refine ut_of (Y := yx X k scope) (H := H'') (fun i H3 x7 => t.ifs i H3 ws (x6.trans x7) (x7.dps hw)) t.ne t.one H'' (Ext.refl _) _ fun H4 x7 => ?_
    cases hb : b x with
    | true =>
      rw [if_pos rfl]
      refine ue_of (Y := yx X k scope) (K := X.K) (H := H4) (d := g x) (fun _ => rfl) (fun i H5 x8 => t.elt hb i H5 ws ((x6.trans x7).trans x8) ((x7.trans x8).dps hw)) H4 (Ext.refl _) _ fun u H5 x8 du => ⟨?_, ?_⟩
      · rw [dys.len]
        exact sz_lt (Nat.lt_of_lt_of_le (got_len_lt hlt) hl)
      · refine ⟨xs.length - (i + 1), by omega, rfl, hlt, ((x4.trans x5).trans x7).trans x8, ?_⟩
        rw [got_succ hx, if_pos hb]
        exact (((x5.trans x7).trans x8).dps dys).app (.cons du .nil)
    | false =>
      rw [if_neg (by decide)]
      refine ⟨xs.length - (i + 1), by omega, rfl, hlt, (x4.trans x5).trans x7, ?_⟩
      rw [got_succ hx, if_neg (by rw [hb]; decide), List.append_nil]
      exact (x5.trans x7).dps dys
  · have ei : i = xs.length := by omega
    subst ei
    rw [got_all] at dys
    refine .inl ⟨wk.stop _ H' iH (by rw [len]; exact Nat.le_refl _), sz_of ?_, fun p hp => q _ _ (((x2.trans x3).trans x4).trans (Ext.new hp)) (.tup (sqT_of upd_same) ((Ext.new hp).dps dys))⟩
    rw [dys.len, List.length_map]
    exact Nat.le_trans (List.length_filter_le _ _) hl
end
end
end FW


set_option Elab.async false
set_option linter.all false
set_option maxRecDepth 100000
set_option maxHeartbeats 4000000
/-! FW.W6: short forms. -/
namespace FW
open PySem PySem.Spec PyProof.Rows L2 StX
section
variable {ι : Type} {K : PySem.W.Frag} {Y : ι → Cx} {elt c : Expr} {x : Str} {pos : Pos} {σ : L2.St} {H H' : Hp} {vs : List Nat} {d g : PyData} {b : Bool}
/-- for x in ..: x in slot i -/
theorem turn_x (i : Nat) (nd : ∀ z, (Y z).N.Nodup) (hi : ∀ z, (Y z).N[i]? = some x) (hx : ∀ z, Loc (Y z).env.scope x) (hf : ∀ z, (Y z).fn x = true ∨ (Y z).env.scope.names.lookup x = some .local)
    (he : ∀ z H' v, Ext H H' → Dp K H' v d → Wd (Y z) elt ((wipe σ vs).set i (some v)) H' g) : Turn1 K Y (.Name x pos) [] elt σ H vs d [i] [d] true g :=
  turn_nil (fun z => gj_nm i (nd z) (hi z) (hx z) (hf z)) fun z H' ws e dw => by
    obtain ⟨v, ws, rfl, hv, hw⟩ := dps_cons dw
    obtain rfl := dps_nil hw
    exact he z H' v e hv
theorem turn_xi (i : Nat) (nd : ∀ z, (Y z).N.Nodup) (hi : ∀ z, (Y z).N[i]? = some x) (hx : ∀ z, Loc (Y z).env.scope x) (hf : ∀ z, (Y z).fn x = true ∨ (Y z).env.scope.names.lookup x = some .local)
    (ht : ∀ z H' v, Ext H H' → Dp K H' v d → Wt (Y z) c ((wipe σ vs).set i (some v)) H' b)
    (he : b = true → ∀ z H' v, Ext H H' → Dp K H' v d → Wd (Y z) elt ((wipe σ vs).set i (some v)) H' g) : Turn1 K Y (.Name x pos) [c] elt σ H vs d [i] [d] b g :=
  turn_one (fun z => gj_nm i (nd z) (hi z) (hx z) (hf z)) (fun z H' ws e dw => by
    obtain ⟨v, ws, rfl, hv, hw⟩ := dps_cons dw
    obtain rfl := dps_nil hw
    exact ht z H' v e hv) fun hb z H' ws e dw => by
    obtain ⟨v, ws, rfl, hv, hw⟩ := dps_cons dw
    obtain rfl := dps_nil hw
    exact he hb z H' v e hv
end
theorem Src.id {M : Hp → Hp → Prop} {X : Cx} {tg iter : Expr} {σ : L2.St} {H : Hp} {ds : List PyData} (h : Src M X tg iter σ H ds) : Src M X tg iter σ H (ds.map fun d => d) := by
  rw [List.map_id']
  exact h
theorem Src.as {α : Type} {M : Hp → Hp → Prop} {X : Cx} {tg iter : Expr} {σ : L2.St} {H : Hp} {ds : List PyData} {xs : List α} {enc : α → PyData} (h : Src M X tg iter σ H ds) (e : ds = xs.map enc) : Src M X tg iter σ H (xs.map enc) := e ▸ h
theorem atI0 {α : Type} {d : α} {ds : List α} : atI (d :: ds) 0 = some d := by
  have e : ((0 : Int) < ((d :: ds).length : Int)) := by simp only [List.length_cons]; omega
  simp only [atI, ixN, if_pos (show (0 : Int) ≤ 0 from Int.le_refl _), if_pos e]
  rfl
theorem atI_nat' {α : Type} {ds : List α} {k : Nat} (h : k < ds.length) : atI ds (k : Int) = ds[k]? := by
  have e : ((k : Int) < (ds.length : Int)) := by omega
  simp only [atI, ixN, if_pos (show (0 : Int) ≤ (k : Int) by omega), if_pos e]
  rfl
/-- a def of the top, told by the head; gen: it makes code objects -/
structure Def1 (K : PySem.W.Frag) (mg : Str → Option Value) (base : Heap) (cs : List (Addr × Addr)) (x : Str) (st : Stmt) (gen : Bool) : Prop where
  ex : ∃ f fd c, Stands K mg x x st f fd c ∧ mg x = some (.ref f) ∧ (gen = true → ∃ T, (c, T) ∈ cs ∧ LamX.TabB base mg c T)
end FW


set_option Elab.async false
set_option linter.all false
set_option maxRecDepth 100000
set_option maxHeartbeats 4000000
/-! FW.W7: loops; heaps that change at some places alone. -/
namespace FW
open PySem PySem.Spec PyProof.Rows L2 StX
section
variable {α : Type} {M : Hp → Hp → Prop} {X : Cx} {tg iter c : Expr} {body rest : List Stmt} {σ : L2.St} {H : Hp} {xs : List α} {enc : α → PyData} {pos : Pos} {D : Ends} {ds : List PyData}
/-- for tg in iter: body -/
theorem wb_for (is : List Nat) (bs : α → List PyData) (Pv : Hp → Nat → L2.St → Hp → Prop) (S : Src M X tg iter σ H (xs.map enc)) (hp : PassesOwn (model X.prog X.w) X.A X.env X.xe) (hc : X.calm = true) (tgt : ∀ x ∈ xs, Gj X tg (enc x) is (bs x))
    (start : ∀ H2, Ext H H2 → Pv H2 0 σ H2) (keep : ∀ H2 i σ' H', Pv H2 i σ' H' → M H2 H')
    (turn : ∀ H2 i x σ' H' H'' ws, Ext H H2 → xs[i]? = some x → Pv H2 i σ' H' → Ext H' H'' → DpAll X.K H'' ws (bs x) → WB X body { D with nx := Pv H2 (i + 1), ct := Pv H2 (i + 1), bk := WB X rest D } (setAll σ' is ws) H'')
    (fin : ∀ H2 σ' H', Ext H H2 → Pv H2 xs.length σ' H' → WB X rest D σ' H') (hs : ∀ x, foldedSetIterable iter X.env x = pure x := by intro _; rfl) : WB X (.For tg iter body [] pos :: rest) D σ H := by
  obtain ⟨wi, pi, src⟩ := S
  refine wb_cons (of_ps (ps_for hp hc pi w_pg w_pb hs) (src H (Ext.refl H) _ fun J I H2 x2 I2 st wk => ?_))
  have len : (xs.map enc).length = xs.length := List.length_map ..
  refine ⟨fun i m σ' H' => m = xs.length - i ∧ i ≤ xs.length ∧ Pv H2 i σ' H', ⟨xs.length, rfl, Nat.zero_le _, start H2 x2⟩, ?_⟩
  rintro i m σ' H' ⟨rfl, hi, pv⟩
  have iH := st _ _ (keep _ _ _ _ pv) I2
  by_cases hlt : i < xs.length
  · obtain ⟨x, hx⟩ : ∃ x, xs[i]? = some x := ⟨_, List.getElem?_eq_getElem hlt⟩
    refine .inr ⟨wk.go i H' iH (by rw [len]; exact hlt), Pv H2 (i + 1), fun σ'' H'' z => ⟨xs.length - (i + 1), by omega, rfl, hlt, z⟩, fun v H'' y => ?_⟩
    obtain ⟨x5, d, hd, dv⟩ := wk.yld i H' v H'' iH (by rw [len]; exact hlt) y
    have hd2 : enc x = d := by
      rw [List.getElem?_map, hx] at hd
      exact Option.some.inj hd
    subst hd2
    exact (tgt x (List.mem_of_getElem? hx)).go σ' H'' v dv _ fun ws hw => turn H2 i x σ' H' H'' ws x2 hx pv x5 hw
  · have ei : i = xs.length := by omega
    subst ei
    exact .inl ⟨wk.stop _ H' iH (by rw [len]; exact Nat.le_refl _), fin H2 σ' H' x2 pv⟩
/-- while c: body; a measure of the state -/
theorem wb_while (Pv : Nat → L2.St → Hp → Prop) (hp : PassesOwn (model X.prog X.w) X.A X.env X.xe) (m0 : Nat) (start : Pv m0 σ H)
    (turn : ∀ m σ' H', Pv m σ' H' → ∃ b, Wt X c σ' H' b ∧ (b = true → ∀ H'', Ext H' H'' → WB X body { D with nx := fun σ2 H2 => ∃ m', m' < m ∧ Pv m' σ2 H2, ct := fun σ2 H2 => ∃ m', m' < m ∧ Pv m' σ2 H2, bk := WB X rest D } σ' H'') ∧ (b = false → ∀ H'', Ext H' H'' → WB X rest D σ' H'')) : WB X (.While c body [] pos :: rest) D σ H := by
  refine wb_cons (of_ps (ps_while hp w_pt w_pb) ⟨Pv, ⟨m0, start⟩, fun m σ' H' pv => ?_⟩)
  obtain ⟨b, t, h1, h2⟩ := turn m σ' H' pv
  refine t.go fun H'' x => ?_
  cases b with
  | true => exact ⟨_, fun _ _ h => h, h1 rfl H'' x⟩
  | false => exact h2 rfl H'' x
end
/-- H' is H but at the places S (and new things, tables) -/
structure ExtB (S : Addr → Prop) (H H' : Hp) : Prop where
  keep : ∀ b o, ¬ S b → H b = some o → (∀ ps, o ≠ .tbl ps) → H' b = some o
  tab : ∀ P, TabG H P → TabG H' P
  free : ∀ b, H' b = none → H b = none
section
variable {S : Addr → Prop} {H H' H1 : Hp}
theorem ExtB.of (x : Ext H H') : ExtB S H H' := ⟨fun b o _ h n => x.keep b o h n, x.tab, x.free⟩
theorem ExtB.refl (S : Addr → Prop) (H : Hp) : ExtB S H H := .of (Ext.refl H)
theorem ExtB.trans (a : ExtB S H H1) (b : ExtB S H1 H') : ExtB S H H' := ⟨fun c o s h n => b.keep c o s (a.keep c o s h n) n, fun P h => b.tab P (a.tab P h), fun c h => a.free c (b.free c h)⟩
theorem ExtB.upd {p : Addr} {o u : HO} (s : S p) (h : H p = some u) (n : ∀ ps, u ≠ .tbl ps) : ExtB S H (upd H p o) :=
  ⟨fun b o' sb hb _ => by
    have e : b ≠ p := fun z => sb (z ▸ s)
    rw [upd_ne e]; exact hb, fun P t => by
    obtain ⟨ps, e1, q⟩ := t
    have e : P ≠ p := fun z => by
      rw [z, h] at e1
      exact n _ (Option.some.inj e1)
    exact ⟨ps, by rw [upd_ne e]; exact e1, q⟩, fun b hb => by
    by_cases e : b = p
    · rw [e, upd_same] at hb; cases hb
    · rw [upd_ne e] at hb; exact hb⟩
theorem ExtB.mono {S' : Addr → Prop} (h : ∀ b, S b → S' b) (x : ExtB S H H') : ExtB S' H H' := ⟨fun b o s => x.keep b o fun z => s (h b z), x.tab, x.free⟩
theorem ExtB.fz (x : ExtB S H H') (l : ∀ b, S b → ∃ xs, H b = some (.lst xs)) : Fz H H' :=
  ⟨fun b xs h => x.keep b _ (fun z => by
    obtain ⟨ys, e⟩ := l b z
    rw [h] at e; cases e) h (fun _ z => by cases z), fun b o u h => x.keep b _ (fun z => by
    obtain ⟨ys, e⟩ := l b z
    rw [h] at e; cases e) h (fun _ z => by cases z)⟩
/-- S was not there -/
theorem ExtB.ext (x : ExtB S H1 H') (x1 : Ext H H1) (n : ∀ b, S b → H b = none) : Ext H H' :=
  ⟨fun b o h nt => x.keep b o (fun z => by rw [n b z] at h; cases h) (x1.keep b o h nt) nt, fun P t => x.tab P (x1.tab P t), fun b h => x1.free b (x.free b h)⟩
end
/-- what a turn brings for a name -/
theorem setAll1 {σ : L2.St} {i : Nat} {v : V} : setAll σ [i] [v] = σ.set i (some v) := rfl
end FW


set_option Elab.async false
set_option linter.all false
set_option maxRecDepth 100000
set_option maxHeartbeats 4000000
/-! FW.W8: ranges by naturals; methods. -/
namespace FW
open PySem PySem.Spec PyProof.Rows L2 StX
theorem rngD0 (n : Nat) : rngD 0 n = (List.range n).map fun (k : Nat) => PyData.int (k : Int) := by
  unfold rngD
  simp
theorem rngD_len {lo : Int} {n : Nat} : (rngD lo n).length = n := by simp [rngD]
theorem atI_ints {ns : List Int} {k : Nat} (h : k < ns.length) : atI (ns.map PyData.int) (k : Int) = some (.int (ns.getD k 0)) := by
  refine atI_nat ?_
  rw [List.getElem?_map, List.getElem?_eq_getElem h]
  simp [List.getD, List.getElem?_eq_getElem h]
section
variable {M : Hp → Hp → Prop} {X : Cx} {a b tg : Expr} {σ : L2.St} {H : Hp} {p pos : Pos} {i j : Int} {n : Nat}
theorem src_range (B : Bi X.mg) (h : Wd X a σ H (.int j)) (hn : j.toNat = n) (h1 : -(2 ^ 62) ≤ j := by omega) (h2 : j < 2 ^ 62 := by omega) (hg : Gl X "range" := by rfl) (he : starEach [a] X.env = (false, eval a X.env) :: starEach [] X.env := by rfl) : Src M X tg (.Call (.Name "range" p) [a] [] pos) σ H ((List.range n).map fun (k : Nat) => PyData.int (k : Int)) := by
  rw [← rngD0, ← hn]
  exact src_range1 B h h1 h2 hg he
end
/-! ### methods -/
/-- the promise of a method that changes nothing; the instance has no attributes -/
def spM (K : PySem.W.Frag) (cs : List (Addr × Addr)) (C : Addr) (F : List PyData → PyData → Prop) : Sp := fun vs H Q _ => ∃ a dx ws ds d, vs = .ref a :: ws ∧ H a = some (.ins C dx []) ∧ DpAll K H ws ds ∧ F ds d ∧ Tabs cs H ∧ ∀ v H', Ext H H' → Dp K H' v d → Q v H'
structure Mt (P : Program) (w : World) (K : PySem.W.Frag) (mg : Str → Option Value) (base : Heap) (cs : List (Addr × Addr)) (k : Nat) (C : Addr) (m : Str) (F : List PyData → PyData → Prop) : Prop where
  ex : ∃ (f : Addr) (fd : FuncData) (ps : List Str), FnOk P w K mg base CX0 k f fd ps (spM K cs C F) ∧ Cls K C ∧ Meth K C m f ∧ Binds K fd ps []
section
variable {X : Cx} {o e : Expr} {es : List Expr} {σ : L2.St} {H : Hp} {m : Str} {pos apos : Pos} {d : PyData} {ds : List PyData} {cs : List (Addr × Addr)} {k j : Nat} {C : Addr} {F : List PyData → PyData → Prop}
theorem wd_meth {pl : Sem Bool} (f : Mt X.prog X.w X.K X.mg X.base cs k C m F) (hr : Room j X.A) (hk : k ≤ j) (T : Tabs cs H) (ho : Ev (W X o) σ H fun v H' => ∃ a dx, v = .ref a ∧ H' a = some (.ins C dx [])) (ha : Wa X (e :: es) σ H ds) (hF : F ds d)
    (he : starEach (e :: es) X.env = (false, eval e X.env) :: starEach es X.env := by rfl) (hpl : (backTo pos (starEach es X.env)).any (·.1) = false := by rfl)
    (ht : eval (.Call (.Attribute o m apos) (e :: es) [] pos) X.env = (do
      let ov ← eval o X.env
      standAt apos.atName
      let (f, first) ← holding [ov] (getMethod ov m pl)
      callWith pos f first (backTo pos (starEach (e :: es) X.env)) (backToKw pos (keywordEach [] X.env))) := by rfl) : Wd X (.Call (.Attribute o m apos) (e :: es) [] pos) σ H d := by
  obtain ⟨f, fd, ps, G, c, hm, b⟩ := f.ex
  obtain ⟨t, pa, z⟩ := ha
  exact ev_pe (pe_meth (pl := pl) (E := E0) w_pe c hm G (hr.mono hk) b .nil pass0 pa he hpl ht) fun H1 x1 Q q => ho H1 x1 _ fun v H2 x2 ⟨a, dx, ev, ia⟩ => ⟨a, dx, [], ev, ia, rfl, z H2 (x1.trans x2) _ fun vs H3 x3 dv => by
    rw [List.append_nil]
    exact ⟨a, dx, vs, ds, d, by rw [ev], x3.ins ia, dv, hF, T.ext ((x1.trans x2).trans x3), fun u H4 x4 d4 => q u H4 ((x2.trans x3).trans x4) d4⟩⟩
end
/-- a method of the top's class, told by the head -/
structure Def2 (K : PySem.W.Frag) (mg : Str → Option Value) (base : Heap) (cs : List (Addr × Addr)) (C : Addr) (m q : Str) (st : Stmt) (gen : Bool) : Prop where
  ex : ∃ f fd c, Stands K mg m q st f fd c ∧ Cls K C ∧ Meth K C m f ∧ (gen = true → ∃ T, (c, T) ∈ cs ∧ LamX.TabB base mg c T)
/-- THE RULE for a method that changes nothing -/
theorem mt_data {P : Program} {w : World} {K : PySem.W.Frag} {mg : Str → Option Value} {base : Heap} {cs : List (Addr × Addr)} {x q : Str} {st : Stmt} {f c C : Addr} {fd : FuncData} {N ps : List Str} {k : Nat} {F : List PyData → PyData → Prop}
    (h : Stands K mg x q st f fd c) (hc : Cls K C) (hm : Meth K C x f) (S : FnScope N ps (defScope st)) (b : Binds K fd ps []) (len : ∀ ds d, F ds d → ds.length + 1 = ps.length)
    (body : ∀ (A : Around) (outer : List Env) (s : Shared) (H : Hp) (a dx : Addr) (ws : List V) (E : XK) (ds : List PyData) (d : PyData), Room k (A.deeper (envOfC q (defScope st) s.heap.objs.size f fd.code)) → H a = some (.ins C dx []) → DpAll K H ws ds → F ds d → Tabs cs H →
      ∀ D : Ends, (∀ v H', Ext H H' → Dp K H' v d → D.rt v H') → WB (fx P w K mg base N q (defScope st) f fd.code A outer s H E) (defBody st) D (L2.start N (.ref a :: ws)) H) : Mt P w K mg base cs (k + 1) C x F :=
  ⟨f, fd, ps, okC h.fn S (fun vs H Q E ⟨a, dx, ws, ds, d, e, _, y, z, _⟩ => by rw [e, List.length_cons, y.len]; exact len ds d z) (fun A outer s H vs Q E hr ⟨a, dx, ws, ds, d, e, ia, y, z, t, r⟩ => ⟨_, PSs.nox w_pb, by subst e; exact body A outer s H a dx ws E ds d hr ia y z t _ r⟩), hc, hm, b⟩
end FW


set_option Elab.async false
set_option linter.all false
set_option maxRecDepth 100000
set_option maxHeartbeats 4000000
/-! FW.W9: math.gcd on data. -/
namespace FW
open PySem PySem.Spec PyProof.Rows L2 StX
section
variable {X : Cx} {a b : Expr} {σ : L2.St} {H : Hp} {p pos : Pos} {i j : Int}
theorem wd_gcd (hm : X.mg "gcd" = some (.builtin "math.gcd")) (h1 : Wd X a σ H (.int i)) (h2 : Wd X b σ H (.int j)) (hg : Gl X "gcd" := by rfl) (he : starEach [a, b] X.env = (false, eval a X.env) :: starEach [b] X.env := by rfl) (he2 : starEach [b] X.env = (false, eval b X.env) :: starEach [] X.env := by rfl)
    (hpl : (backTo pos (starEach [b] X.env)).any (·.1) = false := by rfl) : Wd X (.Call (.Name "gcd" p) [a, b] [] pos) σ H (.int ((Nat.gcd i.natAbs j.natAbs : Nat) : Int)) := by
  obtain ⟨t, q, z⟩ := wa_cons h1 (wa_cons h2 wa_nil he2) he
  exact ev_pe (pe_callBfun cr_gcd hg hm q (he := he) (hpl := hpl)) (ev_cb z fun vs H1 _ dv Q q => by
    obtain ⟨v, ws, rfl, h1, h2⟩ := dps_cons dv
    obtain ⟨v2, ws, rfl, h4, h3⟩ := dps_cons h2
    obtain rfl := dps_nil h3
    exact ⟨i, j, by rw [dp_int h1, dp_int h4], q _ H1 (Ext.refl H1) (.int _)⟩)
end
end FW


set_option Elab.async false
set_option linter.all false
set_option maxRecDepth 100000
set_option maxHeartbeats 4000000
/-! FW.ZP: zip of a list or tuple and a list or tuple, at the library's level (after HandS.Zip0). -/
namespace FW
open PySem PySem.Spec PyProof.Rows RZ
/-- a tuple (true), a list (false) -/
def kSq (q : Bool) (h : Heap) (l : Addr) (xs : Array Value) : Prop := match q with
  | true => h.IsTuple l xs
  | false => h.IsList l xs
def kIt (q : Bool) (h : Heap) (i l : Addr) (k : Nat) : Prop := match q with
  | true => h.IsTupleIter i l k
  | false => h.IsListIter i l k
theorem kSq.extBut {q : Bool} {h h' : Heap} {a l : Addr} {xs : Array Value} (x : kSq q h l xs) (e : Heap.ExtBut a h h') (n : l ≠ a) : kSq q h' l xs := by
  cases q with
  | true => exact Heap.IsTuple.extBut x e n
  | false => exact Heap.IsList.extBut x e n
theorem kIt.extBut {q : Bool} {h h' : Heap} {a i l : Addr} {k : Nat} (x : kIt q h i l k) (e : Heap.ExtBut a h h') (n : i ≠ a) : kIt q h' i l k := by
  cases q with
  | true => exact Heap.IsTupleIter.extBut x e n
  | false => exact Heap.IsListIter.extBut x e n
theorem kIt.at {q : Bool} {h h' : Heap} {i l : Addr} {k : Nat} (x : kIt q h i l k) (e : ∀ o, h.get? i = some o → h'.get? i = some o) : kIt q h' i l k := by
  cases q with
  | true => exact Heap.IsTupleIter.at x e
  | false => exact Heap.IsListIter.at x e
theorem kIt.obj {q : Bool} {h : Heap} {i l : Addr} {k : Nat} (x : kIt q h i l k) : ∃ o, h.get? i = some o ∧ ∀ v, o.data ≠ .cell v := by
  cases q with
  | true =>
    obtain ⟨o, e, _, d⟩ := (show h.IsTupleIter i l k from x)
    exact ⟨o, e, fun v z => by rw [d] at z; cases z⟩
  | false =>
    obtain ⟨o, e, _, d⟩ := (show h.IsListIter i l k from x)
    exact ⟨o, e, fun v z => by rw [d] at z; cases z⟩
def itO (q : Bool) (l : Addr) : Obj := { cls := .type (if q = true then "tuple_iterator" else "list_iterator"), data := .fields #[.ref l, .int 0 0] }
theorem kIt_new {q : Bool} {h : Heap} {i l : Addr} (g : h.get? i = some (itO q l)) : kIt q h i l 0 := by
  cases q with
  | true => exact ⟨_, g, rfl, rfl⟩
  | false => exact ⟨_, g, rfl, rfl⟩
section
variable {prog : Program} {w : World} {A : Around} {E : Value → Shared → Prop} {s : Shared}
theorem kNext_item {q : Bool} {it l : Addr} {i : Nat} {items : Array Value} {x : Value} {Q : Value → Shared → Prop} (hit : kIt q s.heap it l i) (hl : kSq q s.heap l items) (hx : items[i]? = some x)
    (hR : ∀ h', kIt q h' it l (i + 1) → Heap.SameBut it s.heap h' → Q x { s with heap := h' }) : wpAny (model prog w) A (Builtin.SmallTypes.nextOf (.ref it)) Q E s := by
  cases q with
  | true => exact nextOf_tuple_item hit hl hx hR
  | false => exact wpAny_nextOf_list_item hit hl hx hR
theorem kNext_end {q : Bool} {it l : Addr} {i : Nat} {items : Array Value} {Q : Value → Shared → Prop} (hh : A.handled = none) (hit : kIt q s.heap it l i) (hl : kSq q s.heap l items) (hx : items[i]? = none)
    (hF : ∀ h' e, Heap.ExtBut it s.heap h' → (∃ o, h'.get? e = some o ∧ o.cls = .type "StopIteration") → E (.ref e) { s with heap := h' }) : wpAny (model prog w) A (Builtin.SmallTypes.nextOf (.ref it)) Q E s := by
  cases q with
  | true => exact nextOf_tuple_end hh hit hl hx hF
  | false => exact wpAny_nextOf_list_end hh hit hl hx hF
theorem zipK_next_item {z TI TO i1 i2 l1 l2 : Addr} {q1 q2 : Bool} {k1 k2 : Nat} {xs ys : Array Value} {x y a b : Value} {Q : Value → Shared → Prop} (Ap : ZipApart z TI TO i1 i2 l1 l2)
    (gz : IsZip s.heap z TI TO .none) (gI : IsPair s.heap TI (.ref i1) (.ref i2)) (gO : IsPair s.heap TO a b)
    (h1 : kIt q1 s.heap i1 l1 k1) (h2 : kIt q2 s.heap i2 l2 k2) (hl1 : kSq q1 s.heap l1 xs) (hl2 : kSq q2 s.heap l2 ys) (hx : xs[k1]? = some x) (hy : ys[k2]? = some y)
    (hR : ∀ h', IsZip h' z TI TO (rawInt s.heap.objs.size) → IsPair h' TO x y → kIt q1 h' i1 l1 (k1 + 1) → kIt q2 h' i2 l2 (k2 + 1) → IsPair h' s.heap.objs.size x y → h'.objs.size = s.heap.objs.size + 1 →
      (∀ c o, c ≠ z → c ≠ TO → c ≠ i1 → c ≠ i2 → s.heap.get? c = some o → h'.get? c = some o) → Q (.ref s.heap.objs.size) { s with heap := h' }) :
    wpAny (model prog w) A (Builtin.«zip.__next__» ⟨[.ref z], []⟩) (fun fin s' => ∃ v, fin = .done (.ret v) ∧ Q v s') E s := by
  show wpAny _ _ (field (.ref z) 2 >>= _) _ _ _
  refine wpAny_bind (wpAny_field gz rfl (x := .bool false) rfl ?_)
  show wpAny _ _ (field (.ref z) 3 >>= _) _ _ _
  refine wpAny_bind (wpAny_field gz rfl (x := .ref TI) rfl ?_)
  refine wpAny_bind (wpAny_seqItems gI rfl ?_)
  show wpAny _ _ (Builtin.SmallTypes.ownedTupleIsFree (.ref z) >>= _) _ _ _
  refine wpAny_bind ?_
  unfold Builtin.SmallTypes.ownedTupleIsFree
  refine wpAny_bind (wpAny_field gz rfl (x := .none) rfl (wpAny_pure ?_))
  simp only [if_true]
  refine wpAny_bind (wpAny_rule ?_)
  refine wpAny_bind (wpAny_field gz rfl (x := .ref TO) rfl ?_)
  refine wpAny_bind (wpAny_setField_rec gz (by simp) fun h₁ gz₁ us₁ => ?_)
  replace gz₁ : IsZip h₁ z TI TO .ellipsis := gz₁
  refine wpAny_bind ?_
  simp only [List.zipIdx_cons, List.zipIdx_nil, List.forIn_cons, List.forIn_nil]

  refine wpAny_bind (wpAny_bind (wpAny_onRaise ?_))
  show wpAny _ _ (Builtin.SmallTypes.nextOf (.ref i1) >>= _) _ _ _
  refine wpAny_bind (kNext_item (h1.extBut us₁.extBut Ap.i1z) (hl1.extBut us₁.extBut Ap.l1z) hx fun h₂ h1₂ us₂ => wpAny_pure ?_)
  have gO₂ : IsPair h₂ TO a b := us₂.extBut _ _ Ap.TOi1 (us₁.extBut _ _ Ap.TOz gO)
  refine wpAny_bind (wpAny_seqItems gO₂ rfl ?_)
  refine wpAny_bind (wpAny_updateSeq_pair gO₂ fun h₃ gO₃ us₃ => ?_)
  replace gO₃ : IsPair h₃ TO x b := gO₃
  refine wpAny_bind (wpAny_letGo (wpAny_pure ?_))

  refine wpAny_bind (wpAny_bind (wpAny_onRaise ?_))
  show wpAny _ _ (Builtin.SmallTypes.nextOf (.ref i2) >>= _) _ _ _
  refine wpAny_bind (kNext_item (((h2.extBut us₁.extBut Ap.i2z).extBut us₂.extBut Ap.i12.symm).extBut us₃.extBut Ap.TOi2.symm)
    (((hl2.extBut us₁.extBut Ap.l2z).extBut us₂.extBut Ap.l2i1).extBut us₃.extBut Ap.l2TO) hy fun h₄ h2₄ us₄ => wpAny_pure ?_)
  have gO₄ : IsPair h₄ TO x b := us₄.extBut _ _ Ap.TOi2 gO₃
  refine wpAny_bind (wpAny_seqItems gO₄ rfl ?_)
  refine wpAny_bind (wpAny_updateSeq_pair gO₄ fun h₅ gO₅ us₅ => ?_)
  replace gO₅ : IsPair h₅ TO x y := gO₅
  refine wpAny_bind (wpAny_letGo (wpAny_pure (wpAny_pure ?_)))

  refine wpAny_bind (wpAny_seqItems gO₅ rfl ?_)
  refine wpAny_bind (wpAny_newTuple ?_)
  have esz : h₅.objs.size = s.heap.objs.size := by rw [us₅.1, us₄.1, us₃.1, us₂.1, us₁.1]
  have gz₅ : IsZip h₅ z TI TO .ellipsis := us₅.extBut _ _ Ap.TOz.symm (us₄.extBut _ _ Ap.i2z.symm (us₃.extBut _ _ Ap.TOz.symm (us₂.extBut _ _ Ap.i1z.symm gz₁)))
  have gk₅ : ∀ c o, c ≠ z → c ≠ TO → c ≠ i1 → c ≠ i2 → s.heap.get? c = some o → h₅.get? c = some o := fun c o c1 c2 c3 c4 e =>
    us₅.extBut _ _ c2 (us₄.extBut _ _ c4 (us₃.extBut _ _ c2 (us₂.extBut _ _ c3 (us₁.extBut _ _ c1 e))))
  have h1₅ : kIt q1 h₅ i1 l1 (k1 + 1) := ((h1₂.extBut us₃.extBut Ap.TOi1.symm).extBut us₄.extBut Ap.i12).extBut us₅.extBut Ap.TOi1.symm
  have h2₅ : kIt q2 h₅ i2 l2 (k2 + 1) := h2₄.extBut us₅.extBut Ap.TOi2.symm
  have zlt : z < h₅.objs.size := Heap.lt_size gz₅
  have gOlt : TO < h₅.objs.size := Heap.lt_size gO₅
  show wpAny _ _ (Builtin.SmallTypes.ownedTupleHandOut (.ref z) (.ref h₅.objs.size) >>= _) _ _ _
  refine wpAny_bind ?_
  unfold Builtin.SmallTypes.ownedTupleHandOut
  have gz₆ : IsZip (h₅.push { cls := .type "tuple", data := .seq #[x, y] }) z TI TO .ellipsis := Heap.get?_push_of_some _ gz₅
  refine wpAny_bind (wpAny_setField_rec gz₆ (by simp) fun h₇ gz₇ us₇ => ?_)
  replace gz₇ : IsZip h₇ z TI TO (rawInt h₅.objs.size) := gz₇
  refine wpAny_setField_rec gz₇ (by simp) fun h₈ gz₈ us₈ => ?_
  replace gz₈ : IsZip h₈ z TI TO (rawInt h₅.objs.size) := gz₈
  have up : ∀ c o, c ≠ z → h₅.get? c = some o → h₈.get? c = some o := fun c o c1 e => us₈.extBut _ _ c1 (us₇.extBut _ _ c1 (Heap.get?_push_of_some _ e))
  have hT₈ : IsPair h₈ h₅.objs.size x y := us₈.extBut _ _ (Nat.ne_of_gt zlt) (us₇.extBut _ _ (Nat.ne_of_gt zlt) (Heap.get?_push_size _ rfl))
  have hz8 : h₈.objs.size = h₅.objs.size + 1 := by rw [us₈.1, us₇.1, Heap.size_push]
  rw [esz] at gz₈ hT₈ hz8
  refine wpAny_pure ⟨_, rfl, ?_⟩
  show Q (.ref h₅.objs.size) _
  rw [esz]
  exact hR h₈ gz₈ (up _ _ Ap.TOz gO₅) (h1₅.at fun o e => up _ o Ap.i1z e) (h2₅.at fun o e => up _ o Ap.i2z e) hT₈ hz8 fun c o c1 c2 c3 c4 e => up c o c1 (gk₅ c o c1 c2 c3 c4 e)

theorem zipK_next_end {z TI TO i1 i2 l1 l2 : Addr} {q1 q2 : Bool} {k1 k2 : Nat} {xs ys : Array Value} {a b : Value} {Q : Fin → Shared → Prop} (hh : A.handled = none) (Ap : ZipApart z TI TO i1 i2 l1 l2)
    (gz : IsZip s.heap z TI TO .none) (gI : IsPair s.heap TI (.ref i1) (.ref i2)) (gO : IsPair s.heap TO a b)
    (h1 : kIt q1 s.heap i1 l1 k1) (h2 : kIt q2 s.heap i2 l2 k2) (hl1 : kSq q1 s.heap l1 xs) (hl2 : kSq q2 s.heap l2 ys) (hend : xs[k1]? = none ∨ ys[k2]? = none)
    (hF : ∀ h' e, (∀ c o, c ≠ z → c ≠ TO → c ≠ i1 → c ≠ i2 → s.heap.get? c = some o → h'.get? c = some o) → (∃ o, h'.get? e = some o ∧ o.cls = .type "StopIteration") → E (.ref e) { s with heap := h' }) :
    wpAny (model prog w) A (Builtin.«zip.__next__» ⟨[.ref z], []⟩) Q E s := by
  show wpAny _ _ (field (.ref z) 2 >>= _) _ _ _
  refine wpAny_bind (wpAny_field gz rfl (x := .bool false) rfl ?_)
  show wpAny _ _ (field (.ref z) 3 >>= _) _ _ _
  refine wpAny_bind (wpAny_field gz rfl (x := .ref TI) rfl ?_)
  refine wpAny_bind (wpAny_seqItems gI rfl ?_)
  show wpAny _ _ (Builtin.SmallTypes.ownedTupleIsFree (.ref z) >>= _) _ _ _
  refine wpAny_bind ?_
  unfold Builtin.SmallTypes.ownedTupleIsFree
  refine wpAny_bind (wpAny_field gz rfl (x := .none) rfl (wpAny_pure ?_))
  simp only [if_true]
  refine wpAny_bind (wpAny_rule ?_)
  refine wpAny_bind (wpAny_field gz rfl (x := .ref TO) rfl ?_)
  refine wpAny_bind (wpAny_setField_rec gz (by simp) fun h₁ gz₁ us₁ => ?_)
  replace gz₁ : IsZip h₁ z TI TO .ellipsis := gz₁
  refine wpAny_bind ?_
  simp only [List.zipIdx_cons, List.zipIdx_nil, List.forIn_cons, List.forIn_nil]
  refine wpAny_bind (wpAny_bind (wpAny_onRaise ?_))
  show wpAny _ _ (Builtin.SmallTypes.nextOf (.ref i1) >>= _) _ _ _
  cases hx : xs[k1]? with
  | none =>
    refine wpAny_bind (kNext_end hh (h1.extBut us₁.extBut Ap.i1z) (hl1.extBut us₁.extBut Ap.l1z) hx fun h₂ e us₂ he => ?_)
    obtain ⟨oe, hoe, hce⟩ := he
    have gz₂ : IsZip h₂ z TI TO .ellipsis := us₂ _ _ Ap.i1z.symm gz₁
    have hez : e ≠ z := fun x => by subst x; rw [gz₂] at hoe; cases hoe; simp at hce
    refine wpAny_setField_rec gz₂ (by simp) fun h₃ _ us₃ => hF h₃ e (fun c o c1 _ c3 _ x => us₃.extBut _ _ c1 (us₂ _ _ c3 (us₁.extBut _ _ c1 x))) ⟨oe, us₃.extBut _ _ hez hoe, hce⟩
  | some x =>
    have hy : ys[k2]? = none := by rcases hend with h | h; rw [hx] at h; cases h; exact h
    refine wpAny_bind (kNext_item (h1.extBut us₁.extBut Ap.i1z) (hl1.extBut us₁.extBut Ap.l1z) hx fun h₂ h1₂ us₂ => wpAny_pure ?_)
    have gO₂ : IsPair h₂ TO a b := us₂.extBut _ _ Ap.TOi1 (us₁.extBut _ _ Ap.TOz gO)
    refine wpAny_bind (wpAny_seqItems gO₂ rfl ?_)
    refine wpAny_bind (wpAny_updateSeq_pair gO₂ fun h₃ gO₃ us₃ => ?_)
    refine wpAny_bind (wpAny_letGo (wpAny_pure ?_))
    refine wpAny_bind (wpAny_bind (wpAny_onRaise ?_))
    show wpAny _ _ (Builtin.SmallTypes.nextOf (.ref i2) >>= _) _ _ _
    refine wpAny_bind (kNext_end hh (((h2.extBut us₁.extBut Ap.i2z).extBut us₂.extBut Ap.i12.symm).extBut us₃.extBut Ap.TOi2.symm)
      (((hl2.extBut us₁.extBut Ap.l2z).extBut us₂.extBut Ap.l2i1).extBut us₃.extBut Ap.l2TO) hy fun h₄ e us₄ he => ?_)
    obtain ⟨oe, hoe, hce⟩ := he
    have gz₄ : IsZip h₄ z TI TO .ellipsis := us₄ _ _ Ap.i2z.symm (us₃.extBut _ _ Ap.TOz.symm (us₂.extBut _ _ Ap.i1z.symm gz₁))
    have hez : e ≠ z := fun x => by subst x; rw [gz₄] at hoe; cases hoe; simp at hce
    refine wpAny_setField_rec gz₄ (by simp) fun h₅ _ us₅ => hF h₅ e (fun c o c1 c2 c3 c4 x => us₅.extBut _ _ c1 (us₄ _ _ c4 (us₃.extBut _ _ c2 (us₂.extBut _ _ c3 (us₁.extBut _ _ c1 x))))) ⟨oe, us₅.extBut _ _ hez hoe, hce⟩

theorem pyNext_zipK_item {z TI TO i1 i2 l1 l2 : Addr} {q1 q2 : Bool} {k1 k2 : Nat} {xs ys : Array Value} {x y a b : Value} {Q : Option Value → Shared → Prop} (Ap : ZipApart z TI TO i1 i2 l1 l2)
    (gz : IsZip s.heap z TI TO .none) (gI : IsPair s.heap TI (.ref i1) (.ref i2)) (gO : IsPair s.heap TO a b)
    (h1 : kIt q1 s.heap i1 l1 k1) (h2 : kIt q2 s.heap i2 l2 k2) (hl1 : kSq q1 s.heap l1 xs) (hl2 : kSq q2 s.heap l2 ys) (hx : xs[k1]? = some x) (hy : ys[k2]? = some y)
    (hR : ∀ h', IsZip h' z TI TO (rawInt s.heap.objs.size) → IsPair h' TO x y → kIt q1 h' i1 l1 (k1 + 1) → kIt q2 h' i2 l2 (k2 + 1) → IsPair h' s.heap.objs.size x y → h'.objs.size = s.heap.objs.size + 1 →
      (∀ c o, c ≠ z → c ≠ TO → c ≠ i1 → c ≠ i2 → s.heap.get? c = some o → h'.get? c = some o) → Q (some (.ref s.heap.objs.size)) { s with heap := h' }) :
    wpAny (model prog w) A (pyNext (.ref z)) Q E s := by
  have hT : s.TypeIs (.ref z) "zip" := ⟨_, gz, rfl⟩
  unfold pyNext
  exact wpAny_bind (wpAny_attempt (wpAny_callSpecial?_slot (name := Str.ofString "__next__") hT F.slot_zip_next
    (wpAny_call_entry F.slot_zip_next hT F.entry_zip_next
      (zipK_next_item Ap gz gI gO h1 h2 hl1 hl2 hx hy fun h' a1 a2 a3 a4 a5 a6 a7 => wpAny_pure (hR h' a1 a2 a3 a4 a5 a6 a7)) (F.args_zip_next_1 _))))

theorem pyNext_zipK_end {z TI TO i1 i2 l1 l2 : Addr} {q1 q2 : Bool} {k1 k2 : Nat} {xs ys : Array Value} {a b : Value} {Q : Option Value → Shared → Prop} (hh : A.handled = none) (Ap : ZipApart z TI TO i1 i2 l1 l2)
    (gz : IsZip s.heap z TI TO .none) (gI : IsPair s.heap TI (.ref i1) (.ref i2)) (gO : IsPair s.heap TO a b)
    (h1 : kIt q1 s.heap i1 l1 k1) (h2 : kIt q2 s.heap i2 l2 k2) (hl1 : kSq q1 s.heap l1 xs) (hl2 : kSq q2 s.heap l2 ys) (hend : xs[k1]? = none ∨ ys[k2]? = none)
    (hR : ∀ h', (∀ c o, c ≠ z → c ≠ TO → c ≠ i1 → c ≠ i2 → s.heap.get? c = some o → h'.get? c = some o) → Q none { s with heap := h' }) : wpAny (model prog w) A (pyNext (.ref z)) Q E s := by
  have hT : s.TypeIs (.ref z) "zip" := ⟨_, gz, rfl⟩
  unfold pyNext
  refine wpAny_bind (wpAny_attempt (wpAny_callSpecial?_slot (name := Str.ofString "__next__") hT F.slot_zip_next
    (wpAny_call_entry F.slot_zip_next hT F.entry_zip_next (zipK_next_end hh Ap gz gI gO h1 h2 hl1 hl2 hend fun h' e hk he => ?_) (F.args_zip_next_1 _))))
  obtain ⟨o, ho, hc⟩ := he
  refine wpAny_bind (wpAny_isInstance (T := "StopIteration") (b := true) ⟨o, ho, hc⟩ isSubtype_stop ?_)
  exact wpAny_pure (hR _ hk)
end


abbrev zk1 (q1 : Bool) (h : Heap) (l1 : Addr) : Heap := h.push (itO q1 l1)
abbrev zk2 (q1 q2 : Bool) (h : Heap) (l1 l2 : Addr) : Heap := (zk1 q1 h l1).push (itO q2 l2)
abbrev zk3 (q1 q2 : Bool) (h : Heap) (l1 l2 : Addr) : Heap := (zk2 q1 q2 h l1 l2).push { cls := .type "tuple", data := .seq #[.ref h.objs.size, .ref (zk1 q1 h l1).objs.size] }
abbrev zk4 (q1 q2 : Bool) (h : Heap) (l1 l2 : Addr) : Heap := (zk3 q1 q2 h l1 l2).push { cls := .type "tuple", data := .seq #[.none, .none] }
abbrev zk5 (q1 q2 : Bool) (h : Heap) (l1 l2 : Addr) : Heap := (zk4 q1 q2 h l1 l2).push { cls := .type "zip", data := .fields #[.none, .bool false, .bool false, .ref (zk2 q1 q2 h l1 l2).objs.size, .ref (zk3 q1 q2 h l1 l2).objs.size] }
theorem meets_zipK_new (q1 q2 : Bool) (l1 l2 : Addr) (xs ys : Array Value) :
    Meets (Builtin.«zip.__new__» ⟨[.type "zip", .ref l1, .ref l2], []⟩) (fun _ R s => kSq q1 s.heap l1 xs ∧ kSq q2 s.heap l2 ys ∧
      R (.ok (.ret (.ref (zk4 q1 q2 s.heap l1 l2).objs.size))) { s with heap := zk5 q1 q2 s.heap l1 l2 }) :=
  .of_wp fun prog w A R s h => by
    obtain ⟨hp, g, d, tk, os⟩ := s
    obtain ⟨hl1, hl2, h⟩ := h
    have hsub := sub_zip
    cases q1 with
    | true =>
      have L1 : Heap.IsTuple (Shared.heap ⟨hp, g, d, tk, os⟩) l1 xs := hl1
      cases q2 with
      | true =>
        have L2 : Heap.IsTuple (Shared.heap ⟨hp.push { cls := .type "tuple_iterator", data := .fields #[.ref l1, .int 0 0] }, g, d, tk, os⟩) l2 ys := Heap.IsTuple.push hl2 _
        wp_walk using wpAny_pyIter_tuple L1, wpAny_pyIter_tuple L2
        exact ⟨_, rfl, h⟩
      | false =>
        have L2 : Heap.IsList (Shared.heap ⟨hp.push { cls := .type "tuple_iterator", data := .fields #[.ref l1, .int 0 0] }, g, d, tk, os⟩) l2 ys := Heap.IsList.push hl2 _
        wp_walk using wpAny_pyIter_tuple L1, wpAny_pyIter_list L2
        exact ⟨_, rfl, h⟩
    | false =>
      have L1 : Heap.IsList (Shared.heap ⟨hp, g, d, tk, os⟩) l1 xs := hl1
      cases q2 with
      | true =>
        have L2 : Heap.IsTuple (Shared.heap ⟨hp.push { cls := .type "list_iterator", data := .fields #[.ref l1, .int 0 0] }, g, d, tk, os⟩) l2 ys := Heap.IsTuple.push hl2 _
        wp_walk using wpAny_pyIter_list L1, wpAny_pyIter_tuple L2
        exact ⟨_, rfl, h⟩
      | false =>
        have L2 : Heap.IsList (Shared.heap ⟨hp.push { cls := .type "list_iterator", data := .fields #[.ref l1, .int 0 0] }, g, d, tk, os⟩) l2 ys := Heap.IsList.push hl2 _
        wp_walk using wpAny_pyIter_list L1, wpAny_pyIter_list L2
        exact ⟨_, rfl, h⟩
section
variable {prog : Program} {w : World} {A : Around} {E : Value → Shared → Prop} {s : Shared}
theorem call_zipK {q1 q2 : Bool} {l1 l2 : Addr} {xs ys : Array Value} {Q : Value → Shared → Prop} (hl1 : kSq q1 s.heap l1 xs) (hl2 : kSq q2 s.heap l2 ys)
    (h : ∀ h', IsZip h' (s.heap.objs.size + 4) (s.heap.objs.size + 2) (s.heap.objs.size + 3) .none → IsPair h' (s.heap.objs.size + 2) (.ref s.heap.objs.size) (.ref (s.heap.objs.size + 1)) →
      IsPair h' (s.heap.objs.size + 3) .none .none → kIt q1 h' s.heap.objs.size l1 0 → kIt q2 h' (s.heap.objs.size + 1) l2 0 → h'.objs.size = s.heap.objs.size + 5 →
      (∀ c o, s.heap.get? c = some o → h'.get? c = some o) → Q (.ref (s.heap.objs.size + 4)) { s with heap := h' }) :
    wpAny (model prog w) A (call (.type "zip") [.ref l1, .ref l2]) Q E s := by
  refine callType_new F.called_zip (by decide) (F.typeCall_zip_2 _ _) (F.newCall_zip_2 _ _) (fun obj => F.args_object_init_3 obj _ _) F.entry_zip_new
    (meets_zipK_new q1 q2 l1 l2 xs ys) ⟨hl1, hl2, ?_⟩
  have z1 : (zk1 q1 s.heap l1).objs.size = s.heap.objs.size + 1 := Heap.size_push ..
  have z2 : (zk2 q1 q2 s.heap l1 l2).objs.size = s.heap.objs.size + 2 := by rw [Heap.size_push, z1]
  have z3 : (zk3 q1 q2 s.heap l1 l2).objs.size = s.heap.objs.size + 3 := by rw [Heap.size_push, z2]
  have z4 : (zk4 q1 q2 s.heap l1 l2).objs.size = s.heap.objs.size + 4 := by rw [Heap.size_push, z3]
  have z5 : (zk5 q1 q2 s.heap l1 l2).objs.size = s.heap.objs.size + 5 := by rw [Heap.size_push, z4]
  have g5 : (zk5 q1 q2 s.heap l1 l2).get? (zk4 q1 q2 s.heap l1 l2).objs.size = some _ := Heap.get?_push_size _ rfl
  have g4 : (zk5 q1 q2 s.heap l1 l2).get? (zk3 q1 q2 s.heap l1 l2).objs.size = some _ := Heap.get?_push_of_some _ (Heap.get?_push_size _ rfl)
  have g3 : (zk5 q1 q2 s.heap l1 l2).get? (zk2 q1 q2 s.heap l1 l2).objs.size = some _ := Heap.get?_push_of_some _ (Heap.get?_push_of_some _ (Heap.get?_push_size _ rfl))
  have g2 : (zk5 q1 q2 s.heap l1 l2).get? (zk1 q1 s.heap l1).objs.size = some _ := Heap.get?_push_of_some _ (Heap.get?_push_of_some _ (Heap.get?_push_of_some _ (Heap.get?_push_size _ rfl)))
  have g1 : (zk5 q1 q2 s.heap l1 l2).get? s.heap.objs.size = some _ := Heap.get?_push_of_some _ (Heap.get?_push_of_some _ (Heap.get?_push_of_some _ (Heap.get?_push_of_some _ (Heap.get?_push_size _ rfl))))
  show _ ∧ _
  rw [z2, z3, z4] at g5
  rw [z1, z2] at g3
  rw [z3] at g4
  rw [z1] at g2
  rw [z4]
  exact ⟨⟨_, g5, rfl⟩, h _ g5 g3 g4 (kIt_new g1) (kIt_new g2) z5 fun c o x =>
    Heap.get?_push_of_some _ (Heap.get?_push_of_some _ (Heap.get?_push_of_some _ (Heap.get?_push_of_some _ (Heap.get?_push_of_some _ x))))⟩
end
end FW


set_option Elab.async false
set_option linter.all false
set_option maxRecDepth 100000
set_option maxHeartbeats 4000000
/-! FW.ZP2: for .. in zip(a, b), each a list or a tuple. -/
namespace FW
open PySem PySem.Spec PyProof.Rows L2 StX RZ
def SqK (q : Bool) (K : PySem.W.Frag) (H : Hp) (a : Addr) (xs : List V) : Prop := match q with
  | true => SqT K H a xs
  | false => SqL K H a xs
theorem SqK.raw {q : Bool} {X : Cx} {pins : List (Addr × Obj)} {σ : L2.St} {H : Hp} {s : Shared} {a : Addr} {xs : List V} (I : L2.Inv X pins σ H s) (h : SqK q X.K H a xs) : ∃ its : List Value, Vals xs its ∧ kSq q s.heap a its.toArray ∧ a < s.heap.objs.size := by
  cases q with
  | true =>
    obtain ⟨its, r, t, _⟩ := I.tuple h
    obtain ⟨o, e, _⟩ := id t
    exact ⟨its, r, t, Heap.lt_size e⟩
  | false =>
    obtain ⟨its, r, t, _⟩ := I.list h
    exact ⟨its, r, t.isList, t.lt⟩
theorem SqK.inj {q : Bool} {X : Cx} {pins : List (Addr × Obj)} {σ : L2.St} {H : Hp} {s : Shared} {a : Addr} {xs ys : List V} (I : L2.Inv X pins σ H s) (h : SqK q X.K H a xs) (h2 : SqK q X.K H a ys) : xs = ys := by
  cases q with
  | true => exact I.tuple_inj h h2
  | false => exact I.list_inj h h2
def ItzK (q1 q2 : Bool) (K : PySem.W.Frag) (a b : Addr) : It :=
  ⟨fun i H => ∃ (xs ys : List V) (x y : V), SqK q1 K H a xs ∧ SqK q2 K H b ys ∧ xs[i]? = some x ∧ ys[i]? = some y,
    fun i H v H' => ∃ T x y, v = .ref T ∧ H T = none ∧ H' = upd H T (.tup [x, y]) ∧ (∀ xs, SqK q1 K H a xs → xs[i]? = some x) ∧ ∀ ys, SqK q2 K H b ys → ys[i]? = some y,
    fun i H => ∃ xs ys : List V, SqK q1 K H a xs ∧ SqK q2 K H b ys ∧ (xs.length ≤ i ∨ ys.length ≤ i)⟩
theorem turn_zipK {q1 q2 : Bool} {P : Program} {w : World} {K : PySem.W.Frag} {elts : List Expr} {kk : Nat} {tpos : Pos} {a b z TI TO i1 i2 : Addr} (D : ZipApart z TI TO i1 i2 a b) :
    Turn P w K (.Tuple elts kk tpos) (ItzK q1 q2 K a b) [z, TI, TO, i1, i2] z (fun i h => IsZip h z TI TO .none ∧ IsPair h TI (.ref i1) (.ref i2) ∧ (∃ x y, IsPair h TO x y) ∧ kIt q1 h i1 a i ∧ kIt q2 h i2 b i) where
  mem := by simp
  obj := fun i h st c hc => by
    obtain ⟨gz, gI, ⟨x, y, gO⟩, j1, j2⟩ := st
    have hc' : c = z ∨ c = TI ∨ c = TO ∨ c = i1 ∨ c = i2 := by simpa using hc
    rcases hc' with e | e | e | e | e
    · exact e ▸ ⟨_, gz, fun v q => nomatch q⟩
    · exact e ▸ ⟨_, gI, fun v q => nomatch q⟩
    · exact e ▸ ⟨_, gO, fun v q => nomatch q⟩
    · exact e ▸ j1.obj
    · exact e ▸ j2.obj
  keep := fun i h h' st k => by
    obtain ⟨gz, gI, ⟨x, y, gO⟩, j1, j2⟩ := st
    exact ⟨k z (by simp) _ gz, k TI (by simp) _ gI, ⟨x, y, k TO (by simp) _ gO⟩, j1.at fun o q => k i1 (by simp) o q, j2.at fun o q => k i2 (by simp) o q⟩
  item := by
    intro X hP hw hK hc i pins s σ H E I hf st hg
    subst hP hw hK
    obtain ⟨gz, gI, ⟨x0, y0, gO⟩, j1, j2⟩ := st
    obtain ⟨xs, ys, x, y, sx, sy, ex, ey⟩ := hg
    obtain ⟨its, r1, p1, _⟩ := sx.raw I
    obtain ⟨its2, r2, p2, _⟩ := sy.raw I
    obtain ⟨u, hu, ru⟩ := r1.get ex
    obtain ⟨u2, hu2, ru2⟩ := r2.get ey
    have zl : z < s.heap.objs.size := Heap.lt_size gz
    refine pyNext_zipK_item D gz gI gO j1 j2 p1 p2 (x := u) (y := u2) (by simpa using hu) (by simpa using hu2) fun h' z' O' j1' j2' hT hsz hk => ?_
    refine ⟨_, rfl, wpAny_letOwnedTupleGo_zip (s := { s with heap := h' }) z' fun h'' z'' sb => ?_⟩
    have hT2 : h''.get? s.heap.objs.size = some { cls := .type "tuple", data := .seq #[u, u2] } := (sb.2 _ (Nat.ne_of_gt zl)).trans hT
    have fresh : ObjOk X.prog X.w (upd H s.heap.objs.size (.tup [x, y])) h'' s.heap.objs.size (.tup [x, y]) := ⟨by show 2 ≤ sizeLine; decide, [u, u2], .cons ru (.cons ru2 .nil), ⟨_, hT2, rfl, _, rfl⟩⟩
    have I1 : L2.Inv X pins σ (upd H s.heap.objs.size (.tup [x, y])) { s with heap := h'' } :=
      I.turnedNew (t' := s.toks) (ch := [z, TI, TO, i1, i2]) (fun c o hb q => (sb.2 c (fun q' => hb (by simp [q']))).trans (hk c o (fun q' => hb (by simp [q'])) (fun q' => hb (by simp [q'])) (fun q' => hb (by simp [q'])) (fun q' => hb (by simp [q'])) q)) hf (Nat.le_refl _) fresh
    refine ⟨.ref s.heap.objs.size, _, I1, rfl, ⟨_, x, y, rfl, I.hok.fresh (Nat.le_refl _), rfl, fun l hl => by rw [SqK.inj I hl sx]; exact ex, fun l hl => by rw [SqK.inj I hl sy]; exact ey⟩, ⟨z'', ?_, ⟨u, u2, ?_⟩, ?_, ?_⟩, fun c hcm => ?_⟩
    · exact (sb.2 _ D.TIz).trans (hk _ _ D.TIz D.TITO D.TIi1 D.TIi2 gI)
    · exact (sb.2 _ D.TOz).trans O'
    · exact j1'.at fun o q => (sb.2 _ D.i1z).trans q
    · exact j2'.at fun o q => (sb.2 _ D.i2z).trans q
    · have hlt : c < s.heap.objs.size := by
        have hc' : c = z ∨ c = TI ∨ c = TO ∨ c = i1 ∨ c = i2 := by simpa using hcm
        rcases hc' with e | e | e | e | e
        · exact e ▸ zl
        · exact e ▸ Heap.lt_size gI
        · exact e ▸ Heap.lt_size gO
        · obtain ⟨_, e1, _⟩ := j1.obj; exact e ▸ Heap.lt_size e1
        · obtain ⟨_, e2, _⟩ := j2.obj; exact e ▸ Heap.lt_size e2
      rw [upd_ne (Nat.ne_of_lt hlt)]
      exact (hf c hcm).1
  done := by
    intro X hP hw hK hc i pins s σ H E I hf st hg
    subst hP hw hK
    obtain ⟨gz, gI, ⟨x0, y0, gO⟩, j1, j2⟩ := st
    obtain ⟨xs, ys, sx, sy, hend⟩ := hg
    obtain ⟨its, r1, p1, _⟩ := sx.raw I
    obtain ⟨its2, r2, p2, _⟩ := sy.raw I
    have l1 := r1.length
    have l2 := r2.length
    have he : its.toArray[i]? = none ∨ its2.toArray[i]? = none := by
      rcases hend with q | q
      · exact .inl (by simp; omega)
      · exact .inr (by simp; omega)
    exact pyNext_zipK_end (I.ok.hd hc) D gz gI gO j1 j2 p1 p2 he fun h' hk => ⟨rfl, I.turnedL (t' := s.toks) (ch := [z, TI, TO, i1, i2]) (fun c o hb q =>
      hk c o (fun q' => hb (by simp [q'])) (fun q' => hb (by simp [q'])) (fun q' => hb (by simp [q'])) (fun q' => hb (by simp [q'])) q) hf⟩
  self := fun A i s Q E st h => wpAny_pyIter_zip st.1 h
def iZipK (q1 q2 : Bool) (K : PySem.W.Frag) (ta : TA) : TI := fun σ H R => ta σ H fun vs H1 => ∃ a b xs ys, vs = [.ref a, .ref b] ∧ SqK q1 K H1 a xs ∧ SqK q2 K H1 b ys ∧ R (ItzK q1 q2 K a b) H1
theorem pi_zipK {q1 q2 : Bool} {X : Cx} {e e2 : Expr} {ta : TA} {p pos tpos : Pos} {elts : List Expr} {kk : Nat} (hg : Gl X "zip") (hm : X.mg "zip" = none) (ha : PA X [e, e2] ta)
    (hs : starEach [e, e2] X.env = (false, eval e X.env) :: starEach [e2] X.env := by rfl) (hpl : (backTo pos (starEach [e2] X.env)).any (·.1) = false := by rfl) :
    PI X (.Tuple elts kk tpos) (.Call (.Name "zip" p) [e, e2] [] pos) (iZipK q1 q2 X.K ta) := by
  refine ⟨fun pins s σ H R I h => ?_⟩
  refine Call_ (ld_blt I hg hm PyProof.Rows.boot_zip (PyProof.Rows.callWith_type1 (thn (ha.run pos pins s σ H _ I h) fun us s1 ⟨vs, H1, I1, r1, z⟩ => ?_) hs hpl))
  obtain ⟨a, b, xs, ys, ev, sx, sy, q⟩ := z
  subst ev
  cases r1 with
  | cons r rr =>
    cases rr with
    | cons r' rr =>
      cases rr
      cases r
      cases r'
      have fresh5 : ∀ c, c ∈ [s1.heap.objs.size + 4, s1.heap.objs.size + 2, s1.heap.objs.size + 3, s1.heap.objs.size, s1.heap.objs.size + 1] → FpOk X pins H1 c := fun c hcm => by
        have hle : s1.heap.objs.size ≤ c := by
          simp only [List.mem_cons, List.not_mem_nil, or_false] at hcm
          omega
        exact I1.fpOk hle (I1.hok.fresh hle)
      obtain ⟨its, rv, p1, lt1⟩ := sx.raw I1
      obtain ⟨its2, rv2, p2, lt2⟩ := sy.raw I1
      refine call_zipK p1 p2 fun h' gz gI gO j1 j2 hsz hk => wpAny_pyIter_zip gz ?_
      have I2 : L2.Inv X pins σ H1 { s1 with heap := h' } := I1.kept (t' := s1.toks) hk
      exact ⟨s1.heap.objs.size + 4, [s1.heap.objs.size + 4, s1.heap.objs.size + 2, s1.heap.objs.size + 3, s1.heap.objs.size, s1.heap.objs.size + 1], _, _, H1, rfl, I2, turn_zipK (PySem.W.ktu_apart s1.heap.objs.size a b lt1 lt2), ⟨gz, gI, ⟨_, _, gO⟩, j1, j2⟩, fresh5, q⟩
/-- list or tuple -/
def seqD (t : Bool) (ds : List PyData) : PyData := if t = true then .tuple ds else .list ds
theorem dp_seq {K : PySem.W.Frag} {H : Hp} {q : Bool} {v : V} {ds : List PyData} (h : Dp K H v (seqD q ds)) : ∃ a xs, v = .ref a ∧ SqK q K H a xs ∧ DpAll K H xs ds := by
  cases q with
  | true => exact dp_tup h
  | false => exact dp_lst h
theorem Ext.sqK {K : PySem.W.Frag} {H H' : Hp} {q : Bool} {a : Addr} {xs : List V} (x : Ext H H') (h : SqK q K H a xs) : SqK q K H' a xs := by
  cases q with
  | true => exact x.sqT h
  | false => exact x.sqL h
section
variable {q1 q2 t : Bool} {X : Cx} {a b e tg : Expr} {σ : L2.St} {H : Hp} {ds es : List PyData} {p pos tpos : Pos} {elts : List Expr} {kk : Nat}
theorem src_zipK (B : Bi X.mg) (h1 : Wd X a σ H (seqD q1 ds)) (h2 : Wd X b σ H (seqD q2 es)) (hg : Gl X "zip" := by rfl) (he : starEach [a, b] X.env = (false, eval a X.env) :: starEach [b] X.env := by rfl) (he2 : starEach [b] X.env = (false, eval b X.env) :: starEach [] X.env := by rfl)
    (hpl : (backTo pos (starEach [b] X.env)).any (·.1) = false := by rfl) : Src Ext X (.Tuple elts kk tpos) (.Call (.Name "zip" p) [a, b] [] pos) σ H (zipD ds es) := by
  obtain ⟨t, q, z⟩ := wa_cons h1 (wa_cons h2 wa_nil he2) he
  refine ⟨_, pi_zipK (q1 := q1) (q2 := q2) hg B.zip q he hpl, fun H1 x R r => z H1 x _ fun vs H2 x2 dv => ?_⟩
  obtain ⟨v, ws, rfl, h1', h2'⟩ := dps_cons dv
  obtain ⟨v2, ws, rfl, h3', h4'⟩ := dps_cons h2'
  obtain rfl := dps_nil h4'
  obtain ⟨p1, xs, rfl, hx, hs⟩ := dp_seq h1'
  obtain ⟨p2, ys, rfl, hy, ht⟩ := dp_seq h3'
  have hl : (zipD ds es).length = min ds.length es.length := by simp [zipD]
  refine ⟨p1, p2, xs, ys, rfl, hx, hy, r _ (fun H' => (SqK q1 X.K H' p1 xs ∧ DpAll X.K H' xs ds) ∧ SqK q2 X.K H' p2 ys ∧ DpAll X.K H' ys es) H2 x2 ⟨⟨hx, hs⟩, hy, ht⟩ (fun H' H'' m ⟨⟨y1, y2⟩, y3, y4⟩ => ⟨⟨m.sqK y1, m.dps y2⟩, m.sqK y3, m.dps y4⟩)
    ⟨fun i H' ⟨⟨y1, y2⟩, y3, y4⟩ hi => ?_, fun i H' v H'' ⟨⟨y1, y2⟩, y3, y4⟩ hi y => ?_, fun i H' ⟨⟨y1, y2⟩, y3, y4⟩ hi => ?_⟩⟩
  · rw [hl] at hi
    obtain ⟨v, hv, _⟩ := y2.got (List.getElem?_eq_getElem (show i < ds.length by omega))
    obtain ⟨w, hw, _⟩ := y4.got (List.getElem?_eq_getElem (show i < es.length by omega))
    exact ⟨xs, ys, v, w, y1, y3, hv, hw⟩
  · obtain ⟨T, x', y', rfl, hT, rfl, f1, f2⟩ := y
    obtain ⟨d, hd, dd⟩ := y2.get (f1 xs y1)
    obtain ⟨e, he, de⟩ := y4.get (f2 ys y3)
    exact ⟨Ext.new hT, _, zipD_get hd he, .tup (sqT_of upd_same) (.cons ((Ext.new hT).dp dd) (.cons ((Ext.new hT).dp de) .nil))⟩
  · refine ⟨xs, ys, y1, y3, ?_⟩
    rw [hl] at hi
    have l1 := y2.len
    have l2 := y4.len
    omega
theorem src_seq (h : Wd X e σ H (seqD t ds)) (p1 : PI X tg e (iTup X.K (W X e)) := by exact pi_tup w_pe) (p2 : PI X tg e (iList X.K (W X e)) := by exact pi_list w_pe) : Src Ext X tg e σ H ds := by
  cases t with
  | true => exact src_T keeps_ext h p1
  | false => exact src_L h p2
end
theorem zipD_map {α β : Type} {f : α → PyData} {g : β → PyData} {xs : List α} {ys : List β} : zipD (xs.map f) (ys.map g) = (xs.zip ys).map fun z => .tuple [f z.1, g z.2] := by
  unfold zipD
  induction xs generalizing ys with
  | nil => simp
  | cons x xs ih =>
    cases ys with
    | nil => simp
    | cons y ys => simp [ih]
end FW


set_option Elab.async false
set_option linter.all false
set_option maxRecDepth 100000
set_option maxHeartbeats 4000000
/-! FW.W10: dicts with whole numbers as keys. -/
namespace FW
open PySem PySem.Spec PyProof.Rows L2 StX
section
variable {β : Type}
def getM (m : List (Int × β)) (k : Int) : Option β := (m.find? fun p => decide (p.1 = k)).map (·.2)
def putM (m : List (Int × β)) (k : Int) (b : β) : List (Int × β) := if (m.any fun p => decide (p.1 = k)) = true then m.map (fun p => if p.1 = k then (p.1, b) else p) else m ++ [(k, b)]
theorem getM_nil {k : Int} : getM ([] : List (Int × β)) k = none := rfl
theorem getM_cons {k : Int} {p : Int × β} {m : List (Int × β)} : getM (p :: m) k = if p.1 = k then some p.2 else getM m k := by
  unfold getM
  by_cases h : p.1 = k
  · rw [if_pos h, List.find?_cons_of_pos (by simpa using h)]; rfl
  · rw [if_neg h, List.find?_cons_of_neg (by simpa using h)]
theorem getM_any {k : Int} : ∀ {m : List (Int × β)}, (m.any fun p => decide (p.1 = k)) = (getM m k).isSome
  | [] => rfl
  | p :: m => by
    rw [List.any_cons, getM_cons, getM_any (m := m)]
    by_cases h : p.1 = k
    · rw [if_pos h, decide_eq_true h]; rfl
    · rw [if_neg h, decide_eq_false h]; rfl
theorem getM_put {k j : Int} {b : β} {m : List (Int × β)} : getM (putM m k b) j = if j = k then some b else getM m j := by
  have gm : ∀ {l : List (Int × β)}, getM (l.map (fun p => if p.1 = k then (p.1, b) else p)) j = if j = k ∧ (getM l j).isSome = true then some b else getM l j := by
    intro l
    induction l with
    | nil => rw [List.map_nil, getM_nil]; simp
    | cons p l ih =>
      rw [List.map_cons, getM_cons, getM_cons, ih]
      by_cases h1 : p.1 = k
      · rw [if_pos h1]
        by_cases h2 : p.1 = j
        · have e : j = k := h2.symm.trans h1
          simp [h2, e]
        · simp [h2]
      · rw [if_neg h1]
        by_cases h2 : p.1 = j
        · have e : ¬ j = k := fun z => h1 (h2.trans z)
          simp [h2, e]
        · simp [h2]
  have ga : ∀ {l : List (Int × β)}, getM (l ++ [(k, b)]) j = match getM l j with | some x => some x | none => if j = k then some b else none := by
    intro l
    induction l with
    | nil => rw [List.nil_append, getM_cons, getM_nil]; by_cases h : k = j <;> simp [h, eq_comm]
    | cons p l ih =>
      rw [List.cons_append, getM_cons, getM_cons, ih]
      by_cases h : p.1 = j
      · simp [h]
      · simp [h]
  unfold putM
  by_cases h : (m.any fun p => decide (p.1 = k)) = true
  · rw [if_pos h, gm]
    rw [getM_any] at h
    by_cases e : j = k
    · rw [e, if_pos ⟨rfl, h⟩, if_pos rfl]
    · rw [if_neg (fun z => e z.1), if_neg e]
  · rw [if_neg h, ga]
    rw [getM_any] at h
    by_cases e : j = k
    · rw [if_pos e, e]
      cases q : getM m k with
      | none => simp
      | some x => rw [q] at h; exact absurd rfl h
    · rw [if_neg e]
      cases getM m j <;> simp [e]
theorem putM_len {k : Int} {b : β} {m : List (Int × β)} : (putM m k b).length ≤ m.length + 1 := by
  unfold putM
  split
  · rw [List.length_map]; omega
  · simp
end
/-- the dict's pairs are these data -/
inductive DM (K : PySem.W.Frag) (H : Hp) : List (Key × V) → List (Int × PyData) → Prop
  | nil : DM K H [] []
  | cons {k : Int} {v : V} {d : PyData} {kvs : List (Key × V)} {m : List (Int × PyData)} (h : Dp K H v d) (t : DM K H kvs m) : DM K H ((.inl k, v) :: kvs) ((k, d) :: m)
section
variable {K : PySem.W.Frag} {H H' : Hp} {kvs : List (Key × V)} {m : List (Int × PyData)}
theorem DM.imp (f : ∀ v d, (∃ p ∈ m, p.2 = d) → Dp K H v d → Dp K H' v d) (h : DM K H kvs m) : DM K H' kvs m := by
  induction h with
  | nil => exact .nil
  | cons h t ih => exact .cons (f _ _ ⟨_, List.mem_cons_self, rfl⟩ h) (ih fun v d ⟨p, hp, e⟩ => f v d ⟨p, List.mem_cons_of_mem _ hp, e⟩)
theorem DM.ext (x : Ext H H') (h : DM K H kvs m) : DM K H' kvs m := h.imp fun _ _ _ => x.dp
theorem DM.fz (x : Fz H H') (z : ∀ p ∈ m, frz p.2 = true) (h : DM K H kvs m) : DM K H' kvs m := h.imp fun v d ⟨p, hp, e⟩ q => x.dp (e ▸ z p hp) q
theorem DM.len (h : DM K H kvs m) : kvs.length = m.length := by
  induction h with
  | nil => rfl
  | cons _ _ ih => simp [ih]
theorem DM.get (h : DM K H kvs m) (k : Int) : (valV kvs (.inl k) = none ∧ getM m k = none) ∨ ∃ v d, valV kvs (.inl k) = some v ∧ getM m k = some d ∧ Dp K H v d := by
  induction h with
  | nil => exact .inl ⟨rfl, rfl⟩
  | @cons j v d kvs m h t ih =>
    by_cases e : j = k
    · subst e
      exact .inr ⟨v, d, valV_pos rfl, by rw [getM_cons, if_pos rfl], h⟩
    · have e2 : ¬ (Sum.inl j : Key) = .inl k := fun z => e (Sum.inl.inj z)
      rw [valV_neg e2, getM_cons, if_neg e]
      exact ih
theorem DM.app {kvs' : List (Key × V)} {m' : List (Int × PyData)} (h : DM K H kvs m) (h' : DM K H kvs' m') : DM K H (kvs ++ kvs') (m ++ m') := by
  induction h with
  | nil => exact h'
  | cons h _ ih => exact .cons h ih
theorem DM.any (h : DM K H kvs m) (k : Int) : (kvs.any fun kv => decide (kv.1 = .inl k)) = (m.any fun p => decide (p.1 = k)) := by
  induction h with
  | nil => rfl
  | @cons j v d kvs m h t ih =>
    rw [List.any_cons, List.any_cons, ih]
    congr 1
    simp
theorem DM.map {k : Int} {v : V} {d : PyData} (hv : Dp K H v d) (h : DM K H kvs m) : DM K H (kvs.map (fun kv => if kv.1 = .inl k then (kv.1, v) else kv)) (m.map (fun p => if p.1 = k then (p.1, d) else p)) := by
  induction h with
  | nil => exact .nil
  | @cons j w e kvs m h t ih =>
    rw [List.map_cons, List.map_cons]
    by_cases q : j = k
    · subst q
      rw [if_pos rfl, if_pos rfl]
      exact .cons hv ih
    · rw [if_neg (fun z => q (Sum.inl.inj z)), if_neg q]
      exact .cons h ih
theorem DM.put {k : Int} {v : V} {d : PyData} (hv : Dp K H v d) (h : DM K H kvs m) : DM K H (putK kvs (.inl k) v) (putM m k d) := by
  unfold putK putM
  rw [h.any k]
  by_cases q : (m.any fun p => decide (p.1 = k)) = true
  · rw [if_pos q, if_pos q]
    exact h.map hv
  · rw [if_neg q, if_neg q]
    exact h.app (.cons hv .nil)
end
theorem Fz.dk {H : Hp} {p : Addr} {kvs kvs' : List (Key × V)} (h : H p = some (.dK kvs)) : Fz H (upd H p (.dK kvs')) :=
  ⟨fun b zs hb => by
    by_cases e : b = p
    · rw [e, h] at hb; cases hb
    · rw [upd_ne e]; exact hb, fun b o u hb => by
    by_cases e : b = p
    · rw [e, h] at hb; cases hb
    · rw [upd_ne e]; exact hb⟩
section
variable {X : Cx} {o i e value : Expr} {rest : List Stmt} {σ : L2.St} {H : Hp} {p : Addr} {kvs : List (Key × V)} {m : List (Int × PyData)} {k : Int} {d : PyData} {pos pos' apos : Pos} {D : Ends}
/-- o gives the object at p -/
abbrev Wr (X : Cx) (o : Expr) (σ : L2.St) (H : Hp) (p : Addr) : Prop := Ev (W X o) σ H fun v _ => v = .ref p
theorem wr_var {x : Str} (i : Nat) (h : σ[i]? = some (some (.ref p))) (hN : X.N[i]? = some x := by rfl) (hv : Vis X.env.scope x := by first | exact Or.inl rfl | exact Or.inr (Or.inl rfl) | exact Or.inr (Or.inr rfl)) (hd : (x == Str.ofString "__debug__") = false := by decide) (hcd : (x == Str.ofString "__classdict__") = false := by decide) : Wr X (.Name x pos) σ H p :=
  ev_pe (pe_var hN hv hd hcd) (ev_var h fun _ _ => rfl)
/-- the dict at p holds m -/
structure Dk (K : PySem.W.Frag) (H : Hp) (p : Addr) (m : List (Int × PyData)) : Prop where
  ex : ∃ kvs, H p = some (.dK kvs) ∧ DM K H kvs m
theorem Dk.ext {K : PySem.W.Frag} {H H' : Hp} (h : Dk K H p m) (x : Ext H H') : Dk K H' p m := by
  obtain ⟨kvs, e, d⟩ := h.ex
  exact ⟨kvs, x.dK e, d.ext x⟩
theorem wd_dget (hu : X.A.units + 1 < cLine) (hp : Dk X.K H p m) (ho : Wr X o σ H p) (hi : Wd X i σ H (.int k)) (hg : getM m k = some d) (hs : NoSl i := by intro _ _; rfl) : Wd X (.Subscript o i pos) σ H d :=
  ev_pe (pe_dget hu w_pe w_pe hs) fun H1 x Q q => ho H1 x _ fun v H2 x2 ev => hi H2 (x.trans x2) _ fun w H3 x3 dw => by
    obtain ⟨kvs, e, dm⟩ := hp.ex
    have x4 := (x.trans x2).trans x3
    rcases (dm.ext x4).get k with ⟨_, h2⟩ | ⟨u, d', h1, h2, hd⟩
    · rw [hg] at h2; cases h2
    · rw [hg] at h2
      cases h2
      refine ⟨p, u, ev, ?_, q u H3 (x2.trans x3) hd⟩
      rw [← h1, dp_int dw]
      exact DGet.k (k := .inl k) (x4.dK e)
theorem cm_din_aux (hp : Dk X.K H p m) (x : Ext H H1) (k : Int) : ∃ o, DGet H1 p (.int k) o ∧ o.isSome = (getM m k).isSome := by
  obtain ⟨kvs, e, dm⟩ := hp.ex
  refine ⟨valV kvs (.inl k), DGet.k (k := .inl k) (x.dK e), ?_⟩
  rcases dm.get k with ⟨h1, h2⟩ | ⟨u, d', h1, h2, _⟩
  · rw [h1, h2]; rfl
  · rw [h1, h2]; rfl
theorem wt_din (hu : X.A.units + 1 < cLine) (hp : Dk X.K H p m) (hi : Wd X i σ H (.int k)) (ho : Wr X o σ H p) (h1 : behindInMarks .In o = false := by rfl) : Wt X (.Compare i [.In] [o] pos) σ H (getM m k).isSome :=
  et_pt (pt_cmp (pc_din hu w_pe w_pe) h1) fun H1 x Q q => hi H1 x _ fun v H2 x2 dv => ho H2 (x.trans x2) _ fun w H3 x3 ew => by
    obtain ⟨r, g, e⟩ := cm_din_aux hp ((x.trans x2).trans x3) k
    rw [← dp_int dv] at g
    exact ⟨p, r, ew, g, _, rfl, by rw [e]; exact q H3 (x2.trans x3)⟩
theorem wt_dnin (hu : X.A.units + 1 < cLine) (hp : Dk X.K H p m) (hi : Wd X i σ H (.int k)) (ho : Wr X o σ H p) (h1 : behindInMarks .NotIn o = false := by rfl) : Wt X (.Compare i [.NotIn] [o] pos) σ H (!(getM m k).isSome) :=
  et_pt (pt_cmp (pc_dnotin hu w_pe w_pe) h1) fun H1 x Q q => hi H1 x _ fun v H2 x2 dv => ho H2 (x.trans x2) _ fun w H3 x3 ew => by
    obtain ⟨r, g, e⟩ := cm_din_aux hp ((x.trans x2).trans x3) k
    rw [← dp_int dv] at g
    exact ⟨p, r, ew, g, _, rfl, by rw [e]; exact q H3 (x2.trans x3)⟩
theorem wb_dput (hu : X.A.units + 1 < cLine) (hp : Dk X.K H p m) (hl : m.length < 100000) (hv : Wd X value σ H d) (ho : Wr X o σ H p) (hi : Wd X i σ H (.int k)) (hz : ∀ q ∈ m, frz q.2 = true) (hzd : frz d = true)
    (q : ∀ H3 kvs', Ext H H3 → (∃ kvs, H3 p = some (.dK kvs)) → Dk X.K (upd H3 p (.dK kvs')) p (putM m k d) → WB X rest D σ (upd H3 p (.dK kvs'))) (hs : swapsWith value (some (.Subscript o i pos')) pos.line X.env = pure false := by rfl) : WB X (.Assign [.Subscript o i pos'] value pos :: rest) D σ H :=
  wb_cons (of_ps (ps_dput hu w_pe w_pe w_pe hs) (hv.go fun v H1 x1 dv => ho H1 x1 _ fun w H2 x2 ew => hi H2 (x1.trans x2) _ fun y H3 x3 dy => by
    obtain ⟨kvs, e, dm⟩ := hp.ex
    have x4 := (x1.trans x2).trans x3
    have e3 := x4.dK e
    refine ⟨p, _, ew, by rw [dp_int dy]; exact DPut.k (k := .inl k) e3 (sz_lt (by rw [dm.len]; exact hl)), q H3 _ x4 ⟨kvs, e3⟩ ⟨_, upd_same, ?_⟩⟩
    exact ((dm.ext x4).fz (Fz.dk e3) hz).put ((Fz.dk e3).dp hzd ((x2.trans x3).dp dv))))
theorem wd_dgetm (hu : X.A.units + 1 < cLine) (hp : Dk X.K H p m) (ho : Wr X o σ H p) (hi : Wd X i σ H (.int k)) (hm : M1 X o "get" apos i pos) : Wd X (.Call (.Attribute o "get" apos) [i] [] pos) σ H ((getM m k).getD .none) :=
  ev_pe (pe_dget1 hu w_pe w_pe hm) fun H1 x Q q => ho H1 x _ fun v H2 x2 ev => by
    obtain ⟨kvs, e, dm⟩ := hp.ex
    refine ⟨p, ev, .inl ⟨kvs, .inl ((x.trans x2).dK e)⟩, hi H2 (x.trans x2) _ fun w H3 x3 dw => ?_⟩
    have x4 := (x.trans x2).trans x3
    refine ⟨valV kvs (.inl k), by rw [dp_int dw]; exact DGet.k (k := .inl k) (x4.dK e), ?_⟩
    refine q _ H3 (x2.trans x3) ?_
    rcases (dm.ext x4).get k with ⟨h1, h2⟩ | ⟨u, d', h1, h2, hd⟩
    · rw [h1, h2]
      exact .non
    · rw [h1, h2]
      exact hd
/-- {k: v} -/
theorem wv_disp1 {kx vx : Expr} (hk : Wd X kx σ H (.int k)) (hv : Wd X vx σ H d) (hz : frz d = true) : Ev (W X (.Dict [some kx] [vx] pos)) σ H fun v H' => ∃ p, v = .ref p ∧ H p = none ∧ Dk X.K H' p [(k, d)] :=
  ev_pe (pe_disp (pps_cons w_pe w_pe pps_nil) rfl rfl (by simp) (by simp)) fun H1 x Q q => fun p hp => hk _ (x.trans (Ext.new hp)) _ fun v H2 x2 dv => hv H2 ((x.trans (Ext.new hp)).trans x2) _ fun w H3 x3 dw => by
    have e3 : H3 p = some (.dK []) := (x2.trans x3).dK upd_same
    refine ⟨e3, [(.inl k, w)], by rw [dp_int dv]; rfl, by simp, q _ _ ?_ ⟨p, rfl, x.fresh hp, _, upd_same, ?_⟩⟩
    · exact (Ext.new hp |>.trans (x2.trans x3)).mut hp
    · exact .cons ((Fz.dk e3).dp hz dw) .nil
end
end FW


set_option Elab.async false
set_option linter.all false
set_option maxRecDepth 100000
set_option maxHeartbeats 4000000
/-! FW.LD: a dict display of sixteen pairs: each pair is put in as it is made. -/
namespace FW
open PySem PySem.Spec PyProof.Rows L2 StX
def tPuts (p : Addr) : List (TE × TE) → L2.St → Hp → (Hp → Prop) → Prop
  | [], _, H, Q => Q H
  | (tk, tv) :: r, σ, H, Q => tk σ H fun x H1 => tv σ H1 fun y H2 => ∃ kvs k, H2 p = some (.dK kvs) ∧ x = kV k ∧ kvs.length < sizeLine ∧ tPuts p r σ (upd H2 p (.dK (putK kvs k y))) Q
def tDispL (trs : List (TE × TE)) : TE := fun σ H Q => ∀ p, H p = none → tPuts p trs σ (upd H p (.dK [])) fun H2 => Q (.ref p) H2
inductive PPl (X : Cx) : List (Option Expr) → List Expr → List (TE × TE) → Prop
  | nil : PPl X [] [] []
  | cons {k v : Expr} {ks : List (Option Expr)} {vs : List Expr} {tk tv : TE} {trs : List (TE × TE)} (hk : PE X k tk) (hv : PE X v tv) (hr : PPl X ks vs trs) : PPl X (some k :: ks) (v :: vs) ((tk, tv) :: trs)
theorem PPl.all {X : Cx} {ks : List (Option Expr)} {vs : List Expr} {trs : List (TE × TE)} (h : PPl X ks vs trs) : ks.all (·.isSome) = true ∧ ks.length = vs.length := by
  induction h with
  | nil => exact ⟨rfl, rfl⟩
  | cons _ _ _ ih => exact ⟨by rw [List.all_cons, ih.1]; rfl, by rw [List.length_cons, List.length_cons, ih.2]⟩
section
variable {X : Cx} {pos : Pos}
theorem put_one {pins : List (Addr × Obj)} {σ : L2.St} {H : Hp} {s : Shared} {p : Addr} {kvs : List (Key × V)} {k : Key} {y : V} {u r : Value} {Q : Unit → Shared → Prop} (I : L2.Inv X pins σ H s) (e : H p = some (.dK kvs)) (l : kvs.length < sizeLine) (ry : RelV (kV k) u) (rv : RelV y r)
    (h : ∀ s', L2.Inv X pins σ (upd H p (.dK (putK kvs k y))) s' → Q () s') : wpAny (model X.prog X.w) X.A (dictSet p u r) Q X.xe s := by
  obtain ⟨z, hd, vs, rel, dd⟩ := dk_of I.hok e
  have hz : vs.length ≤ sizeLine := by rw [← rel.length]; exact z
  have hl : (putK kvs k y).length ≤ sizeLine := by have := length_putK kvs k y; omega
  refine wpAny_dictSet_pairs (hsz := hz) (kV_is ry) dd fun h' dd' hs => h _ ?_
  have he : ∃ q, h'.get? p = some q := let ⟨q, _, _, hq, _⟩ := dd'; ⟨q, hq⟩
  exact d_write I (by rw [e]; exact True.intro) hs he (dk_new hl hd (rel.put k rv) dd')
theorem puts_loop {p : Addr} {f : (Sem Value × Sem Value) → PUnit → Sem (ForInStep PUnit)} (hf : ∀ x : Sem Value × Sem Value, f x ⟨⟩ = (do let kv ← x.1; let vv ← holding [kv] x.2; holding [kv, vv] (dictSet p kv vv); pure (.yield ⟨⟩))) :
    ∀ {ks : List (Option Expr)} {vs : List Expr} {trs : List (TE × TE)}, PPl X ks vs trs → ∀ {pins : List (Addr × Obj)} {σ : L2.St} {H : Hp} {s : Shared} {Q : Hp → Prop}, L2.Inv X pins σ H s → tPuts p trs σ H Q →
      wpAny (model X.prog X.w) X.A (forIn (pairTrees ks vs X.env pos) PUnit.unit f) (fun _ s' => ∃ H', L2.Inv X pins σ H' s' ∧ Q H') X.xe s := by
  intro ks vs trs h
  induction h with
  | nil =>
    intro pins σ H s Q I q
    exact wpAny_pure ⟨H, I, q⟩
  | @cons k v ks vs tk tv trs hk hv hr ih =>
    intro pins σ H s Q I q
    show wpAny _ _ (forIn ((eval k X.env, do let x ← eval v X.env; standAt pos; pure x) :: pairTrees ks vs X.env pos) PUnit.unit f) _ _ s
    rw [List.forIn_cons, hf]
    refine wpAny_bind (wpAny_bind (thn (hk.run pins s σ H _ I q) fun kv s1 ⟨x, H1, I1, rx, q1⟩ => ?_))
    refine wpAny_bind (wpAny_holding (wpAny_bind (thn (hv.run pins s1 σ H1 _ I1 q1) fun vv s2 ⟨y, H2, I2, ry, kvs, key, e, ek, l, q2⟩ => ?_)))
    subst ek
    refine wpAny_bind (wpAny_standAt (wpAny_pure ?_))
    refine wpAny_bind (wpAny_holding (put_one I2 e l rx ry fun s3 I3 => ?_))
    exact wpAny_pure (ih I3 q2)
theorem pe_displ {keys : List (Option Expr)} {values : List Expr} {trs : List (TE × TE)} (h : PPl X keys values trs) (h15 : 15 < keys.length) (h17 : keys.length < 17) : PE X (.Dict keys values pos) (tDispL trs) := by
  obtain ⟨hall, hl⟩ := h.all
  refine ⟨fun pins s σ H Q I q => ?_⟩
  have hn := I.hok.fresh (Nat.le_refl s.heap.objs.size)
  have I1 := I.laid (a := s.heap.objs.size) (o := .dK []) (h' := s.heap.push { cls := .type "dict", data := .dict #[] }) (t' := s.toks) (fun _ _ q => Heap.get?_push_of_some _ q) (Nat.le_refl _) (dk_empty s.heap I.big)
  have pl := pairTrees_length keys values X.env pos hall hl
  rw [arm_eval_Dict, zip_pairTrees keys values X.env pos hall hl, dictDisplay_pairs _ (fun z => by rw [z] at pl; simp at pl; omega) (by omega)]
  refine wpAny_bind (wpAny_standAt (wpAny_bind ?_))
  unfold subDict
  refine wpAny_bind (wpAny_alloc (wpAny_bind (wpAny_holding ?_)))
  rw [if_neg (by omega)]
  refine wpAny_bind (wpAny_rule ?_)
  refine wpAny_bind (thn (puts_loop (pos := pos) (fun x => rfl) h I1 (q _ hn)) fun _ s2 ⟨H2, I2, q2⟩ => wpAny_pure (wpAny_pure (wpAny_pure ⟨.ref s.heap.objs.size, H2, I2, rfl, q2⟩)))
end
end FW


set_option Elab.async false
set_option linter.all false
set_option maxRecDepth 100000
set_option maxHeartbeats 4000000
/-! FW.KO: a dict of texts to new instances. -/
namespace FW
open PySem PySem.Spec PyProof.Rows L2 StX
/-- each key's instance stands -/
def KindsAt (kvs : List (Key × V)) (H : Hp) (l : List (Str × Addr)) : Prop := ∀ q ∈ l, ∃ a dx, valV kvs (.inr q.1) = some (.ref a) ∧ H a = some (.ins q.2 dx [])
theorem puts_new {p : Addr} {σ : L2.St} {Q : Hp → Prop} : ∀ (l done : List (Str × Addr)) (H : Hp) (kvs : List (Key × V)), H p = some (.dK kvs) → kvs.length + l.length ≤ 1000 → ((done ++ l).map (·.1)).Nodup → KindsAt kvs H done →
    (∀ H' kvs', ExtB (· = p) H H' → H' p = some (.dK kvs') → KindsAt kvs' H' (done ++ l) → Q H') → tPuts p (l.map fun q => (tC (.str q.1), tNew0 q.2)) σ H Q
  | [], done, H, kvs, e, _, _, kd, q => q H kvs (ExtB.refl _ _) e (by rw [List.append_nil]; exact kd)
  | (k, C) :: l, done, H, kvs, e, hl, nd, kd, q => by
    show ∀ x dx, H x = none → H dx = none → dx ≠ x → _
    intro x dx hx hdx ne
    have npx : p ≠ x := ne_of_none e hx
    have npd : p ≠ dx := ne_of_none e hdx
    have e1 : (upd (upd H dx (.own x)) x (.ins C dx [])) p = some (.dK kvs) := by rw [upd_ne npx, upd_ne npd]; exact e
    rw [List.length_cons] at hl
    refine ⟨kvs, .inr k, e1, rfl, sz_lt (by omega), ?_⟩
    have nd2 : (((done ++ [(k, C)]) ++ l).map (·.1)).Nodup := by rw [List.append_assoc]; exact nd
    have x1 : ExtB (· = p) H (upd (upd (upd H dx (.own x)) x (.ins C dx [])) p (.dK (putK kvs (.inr k) (.ref x)))) := by
      have a1 : Ext H (upd H dx (.own x)) := Ext.new hdx
      have a2 : Ext (upd H dx (.own x)) (upd (upd H dx (.own x)) x (.ins C dx [])) := Ext.new (by rw [upd_ne (fun z => ne z.symm)]; exact hx)
      exact (ExtB.of (a1.trans a2)).trans (ExtB.upd (S := (· = p)) rfl e1 (fun _ z => by cases z))
    refine puts_new l (done ++ [(k, C)]) _ _ upd_same (by have := length_putK kvs (.inr k) (.ref x); omega) nd2 ?_ fun H' kvs' y e2 kd2 => q H' kvs' (x1.trans y) e2 (by rw [List.append_assoc] at kd2; exact kd2)
    intro r hr
    rcases List.mem_append.mp hr with h | h
    · obtain ⟨a, dy, h1, h2⟩ := kd r h
      refine ⟨a, dy, ?_, ?_⟩
      · rw [valV_put, if_neg ?_]
        · exact h1
        · intro z
          have z2 : r.1 = k := Sum.inr.inj z
          rw [List.map_append, List.nodup_append] at nd
          exact nd.2.2 r.1 (List.mem_map.mpr ⟨r, h, rfl⟩) k (by simp) z2
      · have n1 : a ≠ p := fun z => by rw [z, e] at h2; cases h2
        rw [upd_ne n1, upd_ne (ne_of_none h2 hx), upd_ne (ne_of_none h2 hdx)]
        exact h2
    · have : r = (k, C) := by simpa using h
      subst this
      refine ⟨x, dx, by rw [valV_put, if_pos rfl], ?_⟩
      rw [upd_ne npx.symm, upd_same]
section
variable {X : Cx} {o i : Expr} {σ : L2.St} {H : Hp} {pos apos : Pos} {ks : List (Option Expr)} {vs : List Expr} {l : List (Str × Addr)}
theorem wv_kinds (h : PPl X ks vs (l.map fun q => (tC (.str q.1), tNew0 q.2))) (h15 : 15 < ks.length) (h17 : ks.length < 17) (hl : l.length ≤ 1000) (nd : (l.map (·.1)).Nodup) :
    Ev (W X (.Dict ks vs pos)) σ H fun v H' => ∃ p kvs, v = .ref p ∧ H' p = some (.dK kvs) ∧ KindsAt kvs H' l :=
  ev_pe (pe_displ h h15 h17) fun H1 x Q q p hp => puts_new l [] _ [] upd_same (by rw [List.length_nil]; omega) (by rw [List.nil_append]; exact nd) (fun r hr => by cases hr) fun H' kvs' y e kd => by
    refine q _ H' ?_ ⟨p, kvs', rfl, e, kd⟩
    exact ExtB.ext y (Ext.new hp) (fun b hb => by rw [show b = p from hb]; exact hp)
theorem wv_getk {p : Addr} {kvs : List (Key × V)} {z : Str} {a : Addr} (hu : X.A.units + 1 < cLine) (hp : H p = some (.dK kvs)) (hg : valV kvs (.inr z) = some (.ref a)) (ho : Wr X o σ H p) (hi : Wd X i σ H (.str z)) (hm : M1 X o "get" apos i pos) : Ev (W X (.Call (.Attribute o "get" apos) [i] [] pos)) σ H fun v _ => v = .ref a :=
  ev_pe (pe_dget1 hu w_pe w_pe hm) fun H1 x Q q => ho H1 x _ fun v H2 x2 ev => ⟨p, ev, .inl ⟨kvs, .inl ((x.trans x2).dK hp)⟩, hi H2 (x.trans x2) _ fun w H3 x3 dw =>
    ⟨some (.ref a), by rw [dp_str dw, ← hg]; exact DGet.k (k := .inr z) (((x.trans x2).trans x3).dK hp), q _ H3 (x2.trans x3) rfl⟩⟩
end
/-- the promise: a text of the list to a new instance of its class -/
def spKind (l : List (Str × Addr)) : Sp := fun vs H Q _ => ∃ q ∈ l, vs = [.str q.1] ∧ ∀ a dx H', Ext H H' → H' a = some (.ins q.2 dx []) → Q (.ref a) H'
structure FnS (P : Program) (w : World) (K : PySem.W.Frag) (mg : Str → Option Value) (base : Heap) (k : Nat) (x : Str) (sp : Sp) : Prop where
  ex : ∃ (f : Addr) (fd : FuncData) (ps : List Str), FnOk P w K mg base CX0 k f fd ps sp ∧ mg x = some (.ref f) ∧ PySem.W.keepIn K (.ref f) = true ∧ Binds K fd ps []
section
variable {X : Cx} {e : Expr} {es : List Expr} {σ : L2.St} {H : Hp} {x : Str} {p pos : Pos} {ds : List PyData} {k j : Nat} {sp : Sp} {P : V → Hp → Prop}
/-- a call of a def with any promise, its arguments data -/
theorem wv_callS (f : FnS X.prog X.w X.K X.mg X.base k x sp) (hr : Room j X.A) (hk : k ≤ j) (ha : Wa X (e :: es) σ H ds) (hs : ∀ vs H1, Ext H H1 → DpAll X.K H1 vs ds → ∀ Q : VK, (∀ v H2, Ext H1 H2 → P v H2 → Q v H2) → sp vs H1 Q E0) (hg : Gl X x := by rfl)
    (hdb : (x == ("__debug__" : Str)) = false := by decide) (he : starEach (e :: es) X.env = (false, eval e X.env) :: starEach es X.env := by rfl) (hpl : (backTo pos (starEach es X.env)).any (·.1) = false := by rfl) :
    Ev (W X (.Call (.Name x p) (e :: es) [] pos)) σ H P := by
  obtain ⟨f, fd, ps, G, hm, kp, b⟩ := f.ex
  obtain ⟨t, pa, z⟩ := ha
  exact ev_pe (pe_call (E := E0) G (hr.mono hk) hg hm kp b .nil pass0 pa hdb he hpl) fun H1 x1 Q q => z H1 x1 _ fun vs H2 x2 dv => by
    rw [List.append_nil]
    exact hs vs H2 (x1.trans x2) dv Q fun v H3 x3 p3 => q v H3 (x2.trans x3) p3
end
theorem cut_tail {x : PyData} {xs : List PyData} : cutL (x :: xs) (some 1) none = xs := by
  unfold cutL
  have h1 : HT.sIx (x :: xs).length 0 (some 1) = 1 := by
    show (if (1 : Int) < 0 then ((1 : Int) + ((x :: xs).length : Int)).toNat else min (1 : Int).toNat (x :: xs).length) = 1
    rw [if_neg (by decide), List.length_cons]
    show min 1 (xs.length + 1) = 1
    omega
  have h2 : HT.sIx (x :: xs).length (x :: xs).length none = (x :: xs).length := rfl
  rw [h1, h2]
  simp
/-- THE RULE for a def of any promise -/
theorem fn_any {P : Program} {w : World} {K : PySem.W.Frag} {mg : Str → Option Value} {base : Heap} {x : Str} {st : Stmt} {f c : Addr} {fd : FuncData} {N ps : List Str} {k : Nat} {sp : Sp}
    (h : Stands K mg x x st f fd c) (hm : mg x = some (.ref f)) (S : FnScope N ps (defScope st)) (b : Binds K fd ps []) (len : ∀ vs H Q E, sp vs H Q E → vs.length = ps.length)
    (body : ∀ (A : Around) (outer : List Env) (s : Shared) (H : Hp) (vs : List V) (Q : VK) (E : XK), Room k (A.deeper (envOfC x (defScope st) s.heap.objs.size f fd.code)) → sp vs H Q E →
      WB (fx P w K mg base N x (defScope st) f fd.code A outer s H E) (defBody st) { nx := fun _ H' => Q .non H', rt := Q } (L2.start N vs) H) : FnS P w K mg base (k + 1) x sp :=
  ⟨f, fd, ps, okC h.fn S len (fun A outer s H vs Q E hr hs => ⟨_, PSs.nox w_pb, body A outer s H vs Q E hr hs⟩), hm, h.fn.kp, b⟩
end FW


set_option Elab.async false
set_option linter.all false
set_option maxRecDepth 100000
set_option maxHeartbeats 4000000
/-! FW.PL: stores into lists, append, list + list; the drawn numbers' pool. -/
namespace FW
open PySem PySem.Spec PyProof.Rows L2 StX
section
variable {X : Cx} {a b o i e value : Expr} {rest : List Stmt} {σ : L2.St} {H : Hp} {p : Addr} {xs : List V} {k z : Int} {j : Nat} {d : PyData} {ds es : List PyData} {pos pos' apos : Pos} {D : Ends}
/-- o[i] = e, o a list at p -/
theorem wb_seti {P : V → Hp → Prop} (hp : H p = some (.lst xs)) (hv : Ev (W X value) σ H P) (ho : Wr X o σ H p) (hi : Wd X i σ H (.int k)) (hk : ixN xs.length k = some j)
    (q : ∀ v H2 H3, Ext H H2 → Ext H2 H3 → P v H2 → WB X rest D σ (upd H3 p (.lst (xs.set j v)))) (hs : swapsWithSole [.Subscript o i pos'] value pos.line X.env = pure false := by rfl) (hw : swappedStores [.Subscript o i pos'] value X.env = pure none := by rfl)
    (h1 : (assignEach [.Subscript o i pos'] X.env).map (·.2) = [assign (.Subscript o i pos') X.env] := by rfl)
    (ha : ∀ v, assign (.Subscript o i pos') X.env v = (do
      let ov ← holding [v] (eval o X.env)
      let iv ← holding [v, ov] (eval i X.env)
      standAt pos'
      holding [v, ov, iv] (setItem ov iv v)
      release [v, ov, iv] []) := by intro _; rfl) : WB X (.Assign [.Subscript o i pos'] value pos :: rest) D σ H :=
  wb_cons (of_ps (ps_asg w_pe (pg_sub w_pe w_pe set_list ha) hs hw h1) (hv.go fun v H1 x1 pv => ho H1 x1 _ fun w H2 x2 ew => hi H2 (x1.trans x2) _ fun y H3 x3 dy =>
    ⟨p, xs, k, j, ew, dp_int dy, ((x1.trans x2).trans x3).lst hp, hk, q v H1 H3 x1 (x2.trans x3) pv⟩))
/-- o.append(e) -/
theorem wb_append {P : V → Hp → Prop} (hp : H p = some (.lst xs)) (hl : xs.length < 100000) (ho : Wr X o σ H p) (hv : Ev (W X e) σ H P) (q : ∀ v H2, Ext H H2 → P v H2 → WB X rest D σ (upd H2 p (.lst (xs ++ [v]))))
    (he : starEach [e] X.env = (false, eval e X.env) :: starEach [] X.env) (hpe : ∀ {ta : TA}, PA X [e] ta → PE X (.Call (.Attribute o "append" apos) [e] [] pos') (tBM X.K "list" rAppend (W X o) ta)) (hs : swapsWith (.Call (.Attribute o "append" apos) [e] [] pos') none pos.line X.env = pure false := by rfl) :
    WB X (.Expr (.Call (.Attribute o "append" apos) [e] [] pos') pos :: rest) D σ H :=
  wb_cons (of_ps (ps_expr (hpe (pa_cons w_pe pa_nil he)) hs) (ho H (Ext.refl H) _ fun w H1 x1 ew => by
    subst ew
    refine ⟨Or.inl ⟨rfl, _, .inl (.inl (x1.lst hp))⟩, hv H1 x1 _ fun v H2 x2 pv => ?_⟩
    exact ⟨p, xs, v, rfl, rfl, (x1.trans x2).lst hp, sz_lt hl, q v H2 (x1.trans x2) pv⟩))
/-- a tracked list of data -/
abbrev Wx (X : Cx) (e : Expr) (σ : L2.St) (H : Hp) (ds : List PyData) : Prop := Ev (W X e) σ H fun v H2 => ∃ p xs, v = .ref p ∧ H2 p = some (.lst xs) ∧ DpAll X.K H2 xs ds
theorem wl_cat (ha : Wx X a σ H ds) (hb : Wx X b σ H es) (hl : ds.length + es.length ≤ 100000) : Wl X (.BinOp a .Add b pos) σ H (ds ++ es) :=
  ev_pe (pe_op op_cat w_pe w_pe) fun H1 x Q q => ha H1 x _ fun v H2 x2 ⟨p, xs, ev, e1, d1⟩ => hb H2 (x.trans x2) _ fun w H3 x3 ⟨p2, ys, ew, e2, d2⟩ =>
    ⟨p, p2, xs, ys, ev, ew, x3.lst e1, e2, sz_of (by rw [d1.len, d2.len]; exact hl), fun l hl2 => q _ _ ((x2.trans x3).trans (Ext.new hl2)) ⟨l, _, rfl, ((x.trans x2).trans x3).fresh hl2, upd_same, (Ext.new hl2).dps ((x3.dps d1).app d2)⟩⟩
theorem Wl.wx (h : Wl X e σ H ds) : Wx X e σ H ds := h.imp fun v H2 _ ⟨p, xs, e, _, h1, h2⟩ => ⟨p, xs, e, h1, h2⟩
end
/-! ### the pool -/
theorem sq_pool {K : PySem.W.Frag} {H : Hp} {s p t : Addr} {ns : List Int} {r : List V} {o : HO} (h : SqL K H s (ns.map V.int)) (hp : H p = some (.lst (.ref t :: r))) : SqL K (upd H p o) s (ns.map V.int) := by
  have n : ∀ u, H s = some u → (u = .lst (ns.map V.int) ∨ ∃ ob, u = .frz ob (.lst (ns.map V.int))) → s ≠ p := fun u hu c z => by
    rw [z, hp] at hu
    cases hu
    rcases c with c | ⟨ob, c⟩
    · cases ns <;> cases c
    · cases c
  rcases h with (h | ⟨ob, h⟩) | h
  · exact .inl (.inl (by rw [upd_ne (n _ h (.inl rfl))]; exact h))
  · exact .inl (.inr ⟨ob, by rw [upd_ne (n _ h (.inr ⟨ob, rfl⟩))]; exact h⟩)
  · exact .inr h
/-- the pool at p: its script, place, rest, count, salt -/
structure Pool (K : PySem.W.Frag) (H : Hp) (p s : Addr) (ns : List Int) (a b c salt : Int) : Prop where
  at_ : H p = some (.lst [.ref s, .int a, .int b, .int c, .int salt])
  sc : SqL K H s (ns.map V.int)
theorem Pool.ext {K : PySem.W.Frag} {H H' : Hp} {p s : Addr} {ns : List Int} {a b c salt : Int} (h : Pool K H p s ns a b c salt) (x : Ext H H') : Pool K H' p s ns a b c salt := ⟨x.lst h.at_, x.sqL h.sc⟩
theorem Pool.dp {K : PySem.W.Frag} {H : Hp} {p s : Addr} {ns : List Int} {a b c salt : Int} (h : Pool K H p s ns a b c salt) : Dp K H (.ref p) (.list [.list (ns.map .int), .int a, .int b, .int c, .int salt]) :=
  .lst (sqL_of h.at_) (.cons (.lst h.sc dps_ints) (.cons (.int _) (.cons (.int _) (.cons (.int _) (.cons (.int _) .nil)))))
theorem Pool.put {K : PySem.W.Frag} {H : Hp} {p s : Addr} {ns : List Int} {a b c salt a' b' c' : Int} (h : Pool K H p s ns a b c salt) : Pool K (upd H p (.lst [.ref s, .int a', .int b', .int c', .int salt])) p s ns a' b' c' salt :=
  ⟨upd_same, sq_pool h.sc h.at_⟩
/-- a pool from which at most m numbers were drawn -/
structure PoolOk (K : PySem.W.Frag) (H : Hp) (p s : Addr) (ns : List Int) (m : Nat) : Prop where
  ex : ∃ a b c salt, Pool K H p s ns a b c salt ∧ 0 ≤ a ∧ 0 ≤ c ∧ c ≤ (m : Int) ∧ 0 ≤ salt ∧ salt < 1000003
theorem PoolOk.ext {K : PySem.W.Frag} {H H' : Hp} {p s : Addr} {ns : List Int} {m : Nat} (h : PoolOk K H p s ns m) (x : Ext H H') : PoolOk K H' p s ns m := by
  obtain ⟨a, b, c, salt, h, r⟩ := h.ex
  exact ⟨a, b, c, salt, h.ext x, r⟩
theorem PoolOk.mono {K : PySem.W.Frag} {H : Hp} {p s : Addr} {ns : List Int} {m m' : Nat} (h : PoolOk K H p s ns m) (l : m ≤ m') : PoolOk K H p s ns m' := by
  obtain ⟨a, b, c, salt, h, r1, r2, r3, r4⟩ := h.ex
  exact ⟨a, b, c, salt, h, r1, r2, by omega, r4⟩
theorem PoolOk.lst {K : PySem.W.Frag} {H : Hp} {p s : Addr} {ns : List Int} {m : Nat} (h : PoolOk K H p s ns m) : ∃ xs, H p = some (.lst xs) := by
  obtain ⟨a, b, c, salt, h, _⟩ := h.ex
  exact ⟨_, h.at_⟩
/-- the script's list is not at q -/
def Off (K : PySem.W.Frag) (s q : Addr) (xs : List V) : Prop := s ≠ q ∨ ∀ H : Hp, SqL K H s xs
theorem off_of {K : PySem.W.Frag} {H : Hp} {s q : Addr} {xs : List V} (h : SqL K H s xs) (n : H q = none) : Off K s q xs := by
  rcases h with (h | ⟨o, h⟩) | h
  · exact .inl fun z => by rw [z, n] at h; cases h
  · exact .inl fun z => by rw [z, n] at h; cases h
  · exact .inr fun H => .inr h
theorem Off.upd {K : PySem.W.Frag} {H : Hp} {s q : Addr} {xs : List V} {o : HO} (h : Off K s q xs) (e : SqL K H s xs) : SqL K (L2.upd H q o) s xs := by
  rcases h with h | h
  · rcases e with (e | ⟨ob, e⟩) | e
    · exact .inl (.inl (by rw [upd_ne h]; exact e))
    · exact .inl (.inr ⟨ob, by rw [upd_ne h]; exact e⟩)
    · exact .inr e
  · exact h _
theorem PoolOk.off {K : PySem.W.Frag} {H : Hp} {p s q : Addr} {ns : List Int} {m : Nat} (h : PoolOk K H p s ns m) (n : H q = none) : Off K s q (ns.map V.int) ∧ p ≠ q := by
  obtain ⟨a, b, c, salt, h, _⟩ := h.ex
  exact ⟨off_of h.sc n, fun z => by rw [← z, h.at_] at n; cases n⟩
/-- something else changes -/
theorem PoolOk.other {K : PySem.W.Frag} {H : Hp} {p s q : Addr} {ns : List Int} {m : Nat} {o : HO} (h : PoolOk K H p s ns m) (f : Off K s q (ns.map V.int) ∧ p ≠ q) : PoolOk K (L2.upd H q o) p s ns m := by
  obtain ⟨a, b, c, salt, h, r⟩ := h.ex
  exact ⟨a, b, c, salt, ⟨by rw [upd_ne f.2]; exact h.at_, f.1.upd h.sc⟩, r⟩
/-- what a draw does -/
abbrev ExtP (p : Addr) (H H' : Hp) : Prop := ExtB (· = p) H H'
theorem ExtP.fz {p : Addr} {H H' : Hp} (x : ExtP p H H') (l : ∃ xs, H p = some (.lst xs)) : Fz H H' := ExtB.fz x fun b hb => by rw [show b = p from hb]; exact l
theorem ExtP.drop {p q : Addr} {H H1 H' : Hp} (a : ExtP p H H1) (n : H q = none) (x : ExtB (fun b => b = p ∨ b = q) H1 H') : ExtP p H H' :=
  ⟨fun b o nb h nt => x.keep b o (fun z => by
    rcases z with z | z
    · exact nb z
    · rw [z, n] at h; cases h) (a.keep b o nb h nt) nt, fun P t => x.tab P (a.tab P t), fun b h => a.free b (x.free b h)⟩
def spDraw (K : PySem.W.Frag) (cs : List (Addr × Addr)) : Sp := fun vs H Q _ => ∃ p many s ns m, vs = [.ref p, .int many] ∧ 0 < many ∧ many < 2 ^ 60 ∧ PoolOk K H p s ns m ∧ m < 2 ^ 60 ∧ Tabs cs H ∧ ∀ v H', ExtP p H H' → PoolOk K H' p s ns (m + 1) → 0 ≤ v → v < many → Q (.int v) H'
end FW


set_option Elab.async false
set_option linter.all false
set_option maxRecDepth 100000
set_option maxHeartbeats 4000000
/-! FW.PD: calls that draw. -/
namespace FW
open PySem PySem.Spec PyProof.Rows L2 StX
section
variable {X : Cx} {a b e : Expr} {es : List Expr} {rest : List Stmt} {σ : L2.St} {H : Hp} {x : Str} {p s : Addr} {ns : List Int} {m : Nat} {many : Int} {p1 pos pos' : Pos} {D : Ends} {cs : List (Addr × Addr)} {k j : Nat} {Q : VK} {sp : Sp}
theorem w_draw (f : FnS X.prog X.w X.K X.mg X.base k "_law_draw" (spDraw X.K cs)) (hr : Room j X.A) (hk : k ≤ j) (T : Tabs cs H) (hp : PoolOk X.K H p s ns m) (mm : m < 2 ^ 60) (ho : Wr X a σ H p) (hm : Wd X b σ H (.int many)) (m0 : 0 < many) (m1 : many < 2 ^ 60)
    (q : ∀ z H', ExtP p H H' → PoolOk X.K H' p s ns (m + 1) → 0 ≤ z → z < many → Q (.int z) H') (hg : Gl X "_law_draw" := by rfl)
    (he : starEach [a, b] X.env = (false, eval a X.env) :: starEach [b] X.env := by rfl) (he2 : starEach [b] X.env = (false, eval b X.env) :: starEach [] X.env := by rfl) (hpl : (backTo pos (starEach [b] X.env)).any (·.1) = false := by rfl) :
    W X (.Call (.Name "_law_draw" p1) [a, b] [] pos) σ H Q := by
  obtain ⟨f, fd, ps, G, hmg, kp, bi⟩ := f.ex
  refine of_pe (pe_call (E := E0) G (hr.mono hk) hg hmg kp bi .nil pass0 (pa_cons w_pe (pa_cons w_pe pa_nil he2) he) (by decide) he hpl) ?_
  refine ho H (Ext.refl H) _ fun v H1 x1 ev => hm H1 x1 _ fun w H2 x2 dw => ?_
  have x := x1.trans x2
  exact ⟨p, many, s, ns, m, by rw [ev, dp_int dw]; rfl, m0, m1, hp.ext x, mm, T.ext x, fun z H' y pl z0 z1 => q z H' ((ExtB.of x).trans y) pl z0 z1⟩
/-- a call of a def with any promise; arguments evaluated one after another -/
theorem w_callS (f : FnS X.prog X.w X.K X.mg X.base k x sp) (hr : Room j X.A) (hk : k ≤ j) {t : TA} (pa : PA X (e :: es) t) (h : t σ H fun vs H1 => sp vs H1 Q E0) (hg : Gl X x := by rfl)
    (hdb : (x == ("__debug__" : Str)) = false := by decide) (he : starEach (e :: es) X.env = (false, eval e X.env) :: starEach es X.env := by rfl) (hpl : (backTo pos (starEach es X.env)).any (·.1) = false := by rfl) :
    W X (.Call (.Name x p1) (e :: es) [] pos) σ H Q := by
  obtain ⟨f, fd, ps, G, hmg, kp, bi⟩ := f.ex
  refine of_pe (pe_call (E := E0) G (hr.mono hk) hg hmg kp bi .nil pass0 pa hdb he hpl) ?_
  have e1 : ∀ vs : List V, vs ++ [] = vs := List.append_nil
  show t σ H fun vs H1 => sp (vs ++ []) H1 Q E0
  simp only [e1]
  exact h
theorem wb_setW (i : Nat) (nd : X.N.Nodup) (h : W X e σ H fun v H' => WB X rest D (σ.set i (some v)) H') (hi : X.N[i]? = some x := by rfl) (hx : Loc X.env.scope x := by first | exact Or.inl rfl | exact Or.inr rfl)
    (hs : swapsWith e (some (.Name x pos')) pos.line X.env = pure false := by rfl) (hf : X.fn x = true ∨ X.env.scope.names.lookup x = some .local := by first | exact .inl rfl | exact .inr rfl) : WB X (.Assign [.Name x pos'] e pos :: rest) D σ H :=
  wb_cons (of_ps (ps_set nd hi hx w_pe hs hf) h)
theorem wb_asgW {tg : Expr} (h : W X e σ H fun v H' => WG X tg v σ H' fun σ' H'' => WB X rest D σ' H'') (hs : swapsWithSole [tg] e pos.line X.env = pure false := by rfl) (hw : swappedStores [tg] e X.env = pure none := by rfl)
    (h1 : (assignEach [tg] X.env).map (·.2) = [assign tg X.env] := by rfl) : WB X (.Assign [tg] e pos :: rest) D σ H :=
  wb_cons (of_ps (ps_asg w_pe w_pg hs hw h1) h)
theorem wb_retW (h : W X e σ H D.rt) : WB X (.Return (some e) pos :: rest) D σ H := wb_cons (of_ps (ps_ret w_pe) h)
/-- i + e, e with effects -/
theorem w_addR {i : Int} (ha : Wd X a σ H (.int i)) (hb : ∀ H1, Ext H H1 → W X b σ H1 fun v H2 => ∃ z, v = .int z ∧ Q (.int (i + z)) H2) : W X (.BinOp a .Add b pos) σ H Q :=
  of_pe (pe_op op_add w_pe w_pe) (ha.go fun v H1 x1 dv => by
    have h := hb H1 x1
    intro pins s I
    refine thn (h pins s I) fun u s1 ⟨y, H2, I2, r2, z, ey, q⟩ => ⟨y, H2, I2, r2, i, z, dp_int dv, ey, q⟩)
theorem W.mono {Q' : VK} (h : W X e σ H Q) (k : ∀ v H', Q v H' → Q' v H') : W X e σ H Q' := fun pins s I => thn (h pins s I) fun u s1 ⟨v, H', I', r, q⟩ => ⟨v, H', I', r, k v H' q⟩
end
end FW
namespace FW
open PySem PySem.Spec PyProof.Rows L2 StX
section
variable {X : Cx} {a : Expr} {body rest : List Stmt} {σ : L2.St} {H : Hp} {x : Str} {p1 pos pos' : Pos} {D : Ends}
/-- for x in range(a), a with effects -/
theorem wb_forR (i : Nat) (B : Bi X.mg) (hp : PassesOwn (model X.prog X.w) X.A X.env X.xe) (hc : X.calm = true) (nd : X.N.Nodup) (h : W X a σ H fun v H1 => ∃ n : Nat, v = .int n ∧ (n : Int) < 2 ^ 62 ∧ ∃ Pv : Nat → L2.St → Hp → Prop, Pv 0 σ H1 ∧
      (∀ t σ' H', t < n → Pv t σ' H' → WB X body { D with nx := Pv (t + 1), ct := Pv (t + 1), bk := WB X rest D } (σ'.set i (some (.int (t : Int)))) H') ∧ ∀ σ' H', Pv n σ' H' → WB X rest D σ' H')
    (hg : Gl X "range" := by rfl) (hi : X.N[i]? = some x := by rfl) (hx : Loc X.env.scope x := by first | exact Or.inl rfl | exact Or.inr rfl) (hf : X.fn x = true ∨ X.env.scope.names.lookup x = some .local := by first | exact .inl rfl | exact .inr rfl)
    (hs : starEach [a] X.env = [(false, eval a X.env)] := by rfl) (hfs : ∀ v, foldedSetIterable (.Call (.Name "range" p1) [a] [] pos') X.env v = pure v := by intro _; rfl) : WB X (.For (.Name x pos) (.Call (.Name "range" p1) [a] [] pos') body [] pos :: rest) D σ H := by
  refine wb_cons (of_ps (ps_for hp hc (pi_range1 hg B.range (pa_cons w_pe pa_nil hs) hs) (pg_name nd hi hx hf) w_pb hfs) ?_)
  intro pins s I
  refine thn (h pins s I) fun u s1 ⟨v, H1, I1, r1, n, ev, hn, Pv, h0, ht, he⟩ => ⟨v, H1, I1, r1, n, by rw [ev], by omega, hn, ?_⟩
  have e : ((n : Int)).toNat = n := by omega
  rw [e]
  refine for_range (lo := 0) (n := n) Pv h0 (fun t σ' H' hlt pv => ?_) he
  have z := ht t σ' H' hlt pv
  rw [Int.zero_add]
  exact z
end
theorem mod_ne {s d n : Int} (h0 : 0 ≤ s) (h1 : s < n) (d0 : 0 ≤ d) (d1 : d < n - 1) : 0 ≤ (s + 1 + d) % n ∧ (s + 1 + d) % n < n ∧ (s + 1 + d) % n ≠ s := by
  have np : 0 < n := by omega
  refine ⟨Int.emod_nonneg _ (by omega), Int.emod_lt_of_pos _ np, ?_⟩
  by_cases h : s + 1 + d < n
  · rw [Int.emod_eq_of_lt (by omega) h]
    omega
  · have e : s + 1 + d = (s + 1 + d - n) + n := by omega
    rw [e]
    have e2 : (s + 1 + d - n + n) % n = (s + 1 + d - n) % n := by simp
    rw [e2, Int.emod_eq_of_lt (by omega) (by omega)]
    omega
theorem cutL_map {α β : Type} {f : α → β} {xs : List α} {lo hi : Option Int} : cutL (xs.map f) lo hi = (cutL xs lo hi).map f := by
  unfold cutL
  rw [List.length_map, List.map_take, List.map_drop]
end FW


set_option Elab.async false
set_option linter.all false
set_option maxRecDepth 100000
set_option maxHeartbeats 4000000
namespace FW
open PySem PySem.Spec PyProof.Rows L2 StX
section
variable {X : Cx} {o e : Expr} {rest : List Stmt} {σ : L2.St} {H : Hp} {p : Addr} {pos pos' apos : Pos} {D : Ends}
/-- o.append(e), e with effects -/
theorem wb_appendW {xs : List V} (hp : H p = some (.lst xs)) (ho : Wr X o σ H p) (h : ∀ H1, Ext H H1 → W X e σ H1 fun v H2 => ∃ xs2, H2 p = some (.lst xs2) ∧ xs2.length < 100000 ∧ WB X rest D σ (upd H2 p (.lst (xs2 ++ [v]))))
    (hpe : ∀ {ta : TA}, PA X [e] ta → PE X (.Call (.Attribute o "append" apos) [e] [] pos') (tBM X.K "list" rAppend (W X o) ta)) (he : starEach [e] X.env = (false, eval e X.env) :: starEach [] X.env := by rfl) (hs : swapsWith (.Call (.Attribute o "append" apos) [e] [] pos') none pos.line X.env = pure false := by rfl) :
    WB X (.Expr (.Call (.Attribute o "append" apos) [e] [] pos') pos :: rest) D σ H :=
  wb_cons (of_ps (ps_expr (hpe (pa_cons w_pe pa_nil he)) hs) (ho H (Ext.refl H) _ fun w H1 x1 ew => by
    subst ew
    refine ⟨Or.inl ⟨rfl, _, .inl (.inl (x1.lst hp))⟩, ?_⟩
    refine W.mono (h H1 x1) fun v H2 ⟨xs2, e2, l2, q⟩ => ?_
    exact ⟨p, xs2, v, rfl, rfl, e2, sz_lt l2, q⟩))
end
end FW


set_option Elab.async false
set_option linter.all false
set_option maxRecDepth 100000
set_option maxHeartbeats 4000000
/-! FW.RP: tuple * 1. -/
namespace FW
open PySem PySem.Spec PyProof.Rows L2 StX
theorem tuple_mul1 (l : Addr) (items : Array Value) (n : Nat) (dd : Option Addr) (sl : Array (Option Value)) (x : Int) (u : Tok) (c0 : (decide (x < -(2 ^ 63)) || decide (x ≥ 2 ^ 63)) = false) (c1 : (items.isEmpty || x == 1) = true) :
    Meets (Builtin.«tuple.__mul__» ⟨[.ref l, .int x u], []⟩) (fun _ R s => s.heap.get? l = some { cls := .type "tuple", dict := dd, data := .seq items n, slots := sl } ∧
      R (.ok (.ret (Value.ref l))) s) :=
  .of_wp fun prog w A R s h => by
    obtain ⟨hp, g, d, tk, os⟩ := s
    obtain ⟨hl, h⟩ := h
    have f1 := AutoSeq1.idx_int
    wp_walk using wpAny_loadPart' hl
    repeat (first
      | (refine wpAny_ite_false (decide_eq_false (by rw [c0]; exact Bool.false_ne_true)) ?_; wp_walk using wpAny_loadPart' hl)
      | (refine wpAny_ite_true (decide_eq_true c1) ?_; wp_walk using wpAny_loadPart' hl))
    exact ⟨_, rfl, h⟩

def rRep1 (K : PySem.W.Frag) : R2 := fun x y H Q => ∃ l xs, x = .ref l ∧ y = .int 1 ∧ SqT K H l xs ∧ Q (.ref l) H
theorem op_rep1 {X : Cx} : OpR X (binaryOp .Mult) (rRep1 X.K) := by
  intro pins s σ H x y v u Q I rx ry h
  obtain ⟨l, xs, rfl, rfl, hT, q⟩ := h
  cases rx
  obtain ⟨t, rfl⟩ := ry
  obtain ⟨its, r, ⟨⟨cls, dd, data, sl⟩, ho, hc, n, hd⟩, hs⟩ := I.tuple hT
  simp only at hc hd
  subst hc hd
  refine wpAny_binaryOp_repeat_ref (T := "tuple") (U := "int") (by decide) ⟨_, ho, rfl⟩ (fun s' => typeIs_int s' 1 t) noFill_tuple_mul F.fills_int_mul F.slot_int_rmul repeat_tuple F.slot_int_index.lookup
    (call_meets F.slot_int_rmul (typeIs_int s 1 t) F.entry_int_rmul (F.args_int_rmul_2 _ _) (int_rmul_tuple 1 t l its.toArray n dd sl)
      ⟨ho, rfl, ⟨_, ho, rfl⟩, call_meets F.slot_tuple_mul ⟨_, ho, rfl⟩ F.entry_tuple_mul (F.args_tuple_mul_2 _ _) (tuple_mul1 l its.toArray n dd sl 1 t rfl (by rw [show ((1 : Int) == 1) = true from rfl, Bool.or_true])) ⟨ho, ?_⟩⟩)
  exact ⟨.ref l, H, I, rfl, q⟩
section
variable {X : Cx} {a b : Expr} {σ : L2.St} {H : Hp} {ds : List PyData} {k : Int} {pos : Pos}
theorem reps_dp {K : PySem.W.Frag} {H : Hp} {xs : List V} {ds : List PyData} (h : DpAll K H xs ds) : ∀ n : Nat, DpAll K H (List.replicate n xs).flatten (List.replicate n ds).flatten
  | 0 => .nil
  | n + 1 => by
    rw [List.replicate_succ, List.flatten_cons, List.replicate_succ, List.flatten_cons]
    exact h.app (reps_dp h n)
theorem bn_rep (hne : ds ≠ []) (k1 : 1 ≤ k) (k2 : k ≤ 1000) (hl : ds.length ≤ 1000) : Bn X .Mult (.tuple ds) (.int k) (.tuple (List.replicate k.toNat ds).flatten) := by
  by_cases e : k = 1
  · subst e
    refine ⟨_, op_rep1, fun H x y H1 ex h1 h2 Q q => ?_⟩
    obtain ⟨p, xs, rfl, hx, hs⟩ := dp_tup h1
    refine ⟨p, xs, rfl, dp_int h2, hx, q _ H1 (Ext.refl H1) ?_⟩
    rw [show (1 : Int).toNat = 1 from rfl, List.replicate_succ, List.flatten_cons]
    simp only [List.replicate_zero, List.flatten_nil, List.append_nil]
    exact .tup hx hs
  · refine ⟨_, op_repT, fun H x y H1 ex h1 h2 Q q => ?_⟩
    obtain ⟨p, xs, rfl, hx, hs⟩ := dp_tup h1
    refine ⟨p, k, xs, rfl, dp_int h2, hx, fun z => ?_, by omega, k2, by rw [hs.len]; exact hl, fun r hr => q _ _ (Ext.new hr) (.tup (sqT_of upd_same) ((Ext.new hr).dps (reps_dp hs _)))⟩
    subst z
    exact hne (List.eq_nil_of_length_eq_zero hs.len.symm)
end
end FW


set_option Elab.async false
set_option linter.all false
set_option maxRecDepth 100000
set_option maxHeartbeats 4000000
namespace Hd
open PySem PySem.Spec PyProof.Rows L2 FW
variable {P : Program} {w : World} {K : PySem.W.Frag} {mg : Str → Option Value} {base : Heap} {cs : List (Addr × Addr)}

def isInt (d : PyData) : Bool := isiD "int" d && !isiD "bool" d
theorem isInt_of {d : PyData} (h : isInt d = true) : ∃ i, d = .int i := by
  cases d <;> first | exact ⟨_, rfl⟩ | (simp [isInt, isiD] at h)
theorem isInt_int {i : Int} : isInt (.int i) = true := rfl
theorem isTup_of {d : PyData} (h : isiD "tuple" d = true) : ∃ ds, d = .tuple ds := by
  cases d <;> first | exact ⟨_, rfl⟩ | (simp [isiD] at h)
theorem isStr_of {d : PyData} (h : isiD "str" d = true) : ∃ z, d = .str z := by
  cases d <;> first | exact ⟨_, rfl⟩ | (simp [isiD] at h)
def isWithin (lo hi : Int) : PyData → Bool
  | .int i => decide (lo ≤ i) && decide (i ≤ hi)
  | _ => false
def isRow (n : Int) : PyData → Bool
  | .tuple ds => decide ((ds.length : Int) = n) && ds.all isInt
  | _ => false
def isWorded (w : Str) (n : Int) : PyData → Bool
  | .tuple (.str z :: ds) => decide (((ds.length + 1 : Nat) : Int) = n) && decide (z = w)
  | _ => false
def intD : PyData → Int
  | .int i => i
  | _ => 0
def asc (ns : List Int) : Bool := (List.range (ns.length - 1)).all fun k => decide (ns.getD k 0 < ns.getD (k + 1) 0)
def isPlaces (n : Int) : PyData → Bool
  | .tuple ds => ds.all (fun d => isInt d && isWithin 0 (n - 1) d) && asc (ds.map intD)
  | _ => false
theorem ints_back : ∀ {ds : List PyData}, ds.all isInt = true → ds = (ds.map intD).map .int
  | [], _ => rfl
  | d :: ds, h => by
    rw [List.all_cons, Bool.and_eq_true] at h
    obtain ⟨i, rfl⟩ := isInt_of h.1
    rw [List.map_cons, List.map_cons, ← ints_back h.2]
    rfl

abbrev N_is_integer : List Str := ["value"]
theorem sc_is_integer : FnScope N_is_integer ["value"] (defScope s_is_integer) := ⟨rfl, rfl, rfl, by decide +kernel, rfl, by decide +kernel, by decide +kernel⟩
abbrev R_is_integer : List PyData → PyData → Prop := Sg (α := PyData) (fun d0 => True) (fun d0 => [d0]) (fun d0 => .bool (isInt d0))
theorem f_is_integer (h : Def1 K mg base cs "is_integer" s_is_integer false) (B : Bi mg) : Fn P w K mg base cs 1 "is_integer" R_is_integer := by
  obtain ⟨f, fd, c, h, hm, hg⟩ := h.ex
  refine fn_data h hm sc_is_integer (h.fn.bindsN fun _ _ _ _ _ _ us hl => match us, hl with | [_], _ => rfl) (Sg.len fun _ => rfl) ?_
  intro A outer s H vs E ds d hr hv hF T D hD
  obtain ⟨d0, -, rfl, rfl⟩ := hF
  obtain ⟨v0, ws, rfl, h0, hv⟩ := dps_cons hv
  obtain rfl := dps_nil hv
  exact wb_ret (wd_and (wd_isiInt B (wd_var 0 rfl h0)) fun _ => wd_one (wd_not (wd_isiBool B (wd_var 0 rfl h0)))) hD

abbrev N_is_within : List Str := ["value", "low", "high"]
theorem sc_is_within : FnScope N_is_within ["value", "low", "high"] (defScope s_is_within) := ⟨rfl, rfl, rfl, by decide +kernel, rfl, by decide +kernel, by decide +kernel⟩
abbrev R_is_within : List PyData → PyData → Prop := Sg (α := PyData × Int × Int) (fun ⟨d0, lo, hi⟩ => True) (fun ⟨d0, lo, hi⟩ => [d0, .int lo, .int hi]) (fun ⟨d0, lo, hi⟩ => .bool (isInt d0 && isWithin lo hi d0))
theorem f_is_within (h : Def1 K mg base cs "is_within" s_is_within false) (B : Bi mg) (f_is_integer : Fn P w K mg base cs 1 "is_integer" R_is_integer) : Fn P w K mg base cs 2 "is_within" R_is_within := by
  obtain ⟨f, fd, c, h, hm, hg⟩ := h.ex
  refine fn_data h hm sc_is_within (h.fn.bindsN fun _ _ _ _ _ _ us hl => match us, hl with | [_, _, _], _ => rfl) (Sg.len fun _ => rfl) ?_
  intro A outer s H vs E ds d hr hv hF T D hD
  obtain ⟨⟨d0, lo, hi⟩, -, rfl, rfl⟩ := hF
  obtain ⟨v0, ws, rfl, h0, hv⟩ := dps_cons hv
  obtain ⟨v1, ws, rfl, h1, hv⟩ := dps_cons hv
  obtain ⟨v2, ws, rfl, h2, hv⟩ := dps_cons hv
  obtain rfl := dps_nil hv
  refine wb_ret (wd_and (wd_call f_is_integer hr (by decide) T (wa_cons (wd_var 0 rfl h0) wa_nil) ⟨_, trivial, rfl, rfl⟩) fun hk => ?_) hD
  obtain ⟨i, rfl⟩ := isInt_of hk
  exact wd_one (wd_chain cm_le cm_le (wd_var 1 rfl h1) (wd_var 0 rfl h0) (wd_var 2 rfl h2))

abbrev N_is_row : List Str := ["value", "length", "one"]
theorem sc_is_row : FnScope N_is_row ["value", "length"] (defScope s_is_row) := ⟨rfl, rfl, rfl, by decide +kernel, rfl, by decide +kernel, by decide +kernel⟩
abbrev R_is_row : List PyData → PyData → Prop := Sg (α := PyData × Int) (fun ⟨d0, n⟩ => True) (fun ⟨d0, n⟩ => [d0, .int n]) (fun ⟨d0, n⟩ => .bool (isRow n d0))
theorem f_is_row (h : Def1 K mg base cs "is_row" s_is_row true) (B : Bi mg) (f_is_integer : Fn P w K mg base cs 1 "is_integer" R_is_integer) : Fn P w K mg base cs 3 "is_row" R_is_row := by
  obtain ⟨f, fd, c, h, hm, hg⟩ := h.ex
  obtain ⟨T0, hT0, TB⟩ := hg rfl
  refine fn_data h hm sc_is_row (h.fn.bindsN fun _ _ _ _ _ _ us hl => match us, hl with | [_, _], _ => rfl) (Sg.len fun _ => rfl) ?_
  intro A outer s H vs E ds d hr hv hF T D hD
  obtain ⟨⟨d0, n⟩, -, rfl, rfl⟩ := hF
  obtain ⟨v0, ws, rfl, h0, hv⟩ := dps_cons hv
  obtain ⟨v1, ws, rfl, h1, hv⟩ := dps_cons hv
  obtain rfl := dps_nil hv
  refine wb_ret (Wd.is (wd_and (k' := isRow n d0) (wd_isiTup B (wd_var 0 rfl h0)) fun hk => ?_) ?_) hD
  · obtain ⟨ds, rfl⟩ := isTup_of hk
    refine wd_and (wd_cmp cm_eqI (wd_lenT B (wd_var 0 rfl h0)) (wd_var 1 rfl h1)) fun _ => wd_one (Wd.is (wd_all (xs := ds) (enc := fun d => d) [("one", 2)] [2] (fun d => [d]) (fun _ => true) isInt B hr TB h.code T hT0 sc_is_row.nd (gsc_by (N := N_is_row) (sc := defScope s_is_row) (by decide +kernel)) (Src.id (src_T keeps_ext (wd_var 0 rfl h0))) (by decide) fun x hx => turn_x 2 (fun _ => sc_is_row.nd) (fun _ => rfl) (fun _ => .inl rfl) (fun _ => .inr rfl) fun z H' v e hv => ?_) ?_)
    · exact wd_call f_is_integer z.2 (by decide) (T.ext e) (wa_cons (wd_var 2 rfl hv) wa_nil) ⟨_, trivial, rfl, rfl⟩
    · rw [List.filter_eq_self.mpr (fun _ _ => rfl)]
  · cases d0 <;> simp [isiD, isRow]

abbrev N_is_row_within : List Str := ["value", "length", "low", "high", "one"]
theorem sc_is_row_within : FnScope N_is_row_within ["value", "length", "low", "high"] (defScope s_is_row_within) := ⟨rfl, rfl, rfl, by decide +kernel, rfl, by decide +kernel, by decide +kernel⟩
abbrev R_is_row_within : List PyData → PyData → Prop := Sg (α := PyData × Int × Int × Int) (fun ⟨d0, n, lo, hi⟩ => True) (fun ⟨d0, n, lo, hi⟩ => [d0, .int n, .int lo, .int hi]) (fun ⟨d0, n, lo, hi⟩ => .bool (isRow n d0 && (match d0 with | .tuple ds => ds.all (isWithin lo hi) | _ => false)))
theorem f_is_row_within (h : Def1 K mg base cs "is_row_within" s_is_row_within true) (B : Bi mg) (f_is_row : Fn P w K mg base cs 3 "is_row" R_is_row) : Fn P w K mg base cs 4 "is_row_within" R_is_row_within := by
  obtain ⟨f, fd, c, h, hm, hg⟩ := h.ex
  obtain ⟨T0, hT0, TB⟩ := hg rfl
  refine fn_data h hm sc_is_row_within (h.fn.bindsN fun _ _ _ _ _ _ us hl => match us, hl with | [_, _, _, _], _ => rfl) (Sg.len fun _ => rfl) ?_
  intro A outer s H vs E ds d hr hv hF T D hD
  obtain ⟨⟨d0, n, lo, hi⟩, -, rfl, rfl⟩ := hF
  obtain ⟨v0, ws, rfl, h0, hv⟩ := dps_cons hv
  obtain ⟨v1, ws, rfl, h1, hv⟩ := dps_cons hv
  obtain ⟨v2, ws, rfl, h2, hv⟩ := dps_cons hv
  obtain ⟨v3, ws, rfl, h3, hv⟩ := dps_cons hv
  obtain rfl := dps_nil hv
  refine wb_ret (wd_and (wd_call f_is_row hr (by decide) T (wa_cons (wd_var 0 rfl h0) (wa_cons (wd_var 1 rfl h1) wa_nil)) ⟨⟨_, _⟩, trivial, rfl, rfl⟩) fun hk => ?_) hD
  cases d0 with
  | tuple ds =>
    have hall : ds.all isInt = true := by
      simp only [isRow, Bool.and_eq_true] at hk
      exact hk.2
    refine wd_one (Wd.is (wd_all (xs := ds) (enc := fun d => d) [("one", 4)] [4] (fun d => [d]) (fun _ => true) (isWithin lo hi) B hr TB h.code T hT0 sc_is_row_within.nd (gsc_by (N := N_is_row_within) (sc := defScope s_is_row_within) (by decide +kernel)) (Src.id (src_T keeps_ext (wd_var 0 rfl h0))) (by decide) fun x hx => turn_x 4 (fun _ => sc_is_row_within.nd) (fun _ => rfl) (fun _ => .inl rfl) (fun _ => .inr rfl) fun z H' v e hv => ?_) ?_)
    · obtain ⟨i, rfl⟩ := isInt_of (List.all_eq_true.mp hall x hx)
      exact wd_chain cm_le cm_le (wd_var 2 rfl (e.dp h2)) (wd_var 4 rfl hv) (wd_var 3 rfl (e.dp h3))
    · rw [List.filter_eq_self.mpr (fun _ _ => rfl)]
  | _ => simp [isRow] at hk

abbrev N_is_worded : List Str := ["value", "word", "length"]
theorem sc_is_worded : FnScope N_is_worded ["value", "word", "length"] (defScope s_is_worded) := ⟨rfl, rfl, rfl, by decide +kernel, rfl, by decide +kernel, by decide +kernel⟩
abbrev R_is_worded : List PyData → PyData → Prop := Sg (α := PyData × Str × Int) (fun ⟨d0, z, n⟩ => 0 < n) (fun ⟨d0, z, n⟩ => [d0, .str z, .int n]) (fun ⟨d0, z, n⟩ => .bool (isWorded z n d0))
theorem f_is_worded (h : Def1 K mg base cs "is_worded" s_is_worded false) (B : Bi mg) : Fn P w K mg base cs 1 "is_worded" R_is_worded := by
  obtain ⟨f, fd, c, h, hm, hg⟩ := h.ex
  refine fn_data h hm sc_is_worded (h.fn.bindsN fun _ _ _ _ _ _ us hl => match us, hl with | [_, _, _], _ => rfl) (Sg.len fun _ => rfl) ?_
  intro A outer s H vs E ds d hr hv hF T D hD
  obtain ⟨⟨d0, z, n⟩, hpre, rfl, rfl⟩ := hF
  obtain ⟨v0, ws, rfl, h0, hv⟩ := dps_cons hv
  obtain ⟨v1, ws, rfl, h1, hv⟩ := dps_cons hv
  obtain ⟨v2, ws, rfl, h2, hv⟩ := dps_cons hv
  obtain rfl := dps_nil hv
  refine wb_if (k := !isiD "tuple" d0 || (match d0 with | .tuple ds => !decide ((ds.length : Int) = n) | _ => false)) (wt_w (ww_or (wt_not (wt_val (wd_isiTup B (wd_var 0 rfl h0)))) fun hk => ?_)) (fun hk H' x => ?_) (fun hk H' x => ?_)
  · obtain ⟨ds, rfl⟩ := isTup_of (by simpa using hk)
    exact ww_or1 (wt_cmp cm_neI (wd_lenT B (wd_var 0 rfl h0)) (wd_var 2 rfl h2))
  · refine wb_ret (Wd.is wd_bl ?_) (fun v H'' y dv => hD v H'' (x.trans y) dv)
    cases d0 <;> simp [isiD, isWorded] at hk ⊢
    rename_i ds
    cases ds with
    | nil => rfl
    | cons d ds =>
      cases d <;> simp [isWorded]
      intro e
      exact absurd (by simpa using e) hk
  · cases d0 with
    | tuple ds =>
      have hl : (ds.length : Int) = n := by simpa [isiD] using hk
      cases ds with
      | nil =>
        simp at hl
        simp at hpre
        omega
      | cons d ds =>
        refine wb_nil (wb_ret (Wd.is (wd_and (k' := isWorded z n (.tuple (d :: ds))) (wd_isiStr B (wd_ixT (d := d) atI0 (wd_var 0 rfl (x.dp h0)) wd_int)) fun hs => ?_) ?_) (fun v H'' y dv => hD v H'' (x.trans y) dv))
        · obtain ⟨y, rfl⟩ := isStr_of hs
          refine wd_one (Wd.is (wd_cmp cm_eqS (wd_ixT (d := .str y) atI0 (wd_var 0 rfl (x.dp h0)) wd_int) (wd_var 1 rfl (x.dp h1))) ?_)
          simp only [isWorded]
          rw [decide_eq_true (show ((ds.length + 1 : Nat) : Int) = n by simpa using hl), Bool.true_and]
        · cases d <;> simp [isiD, isWorded]
    | _ => simp [isiD] at hk

end Hd


set_option Elab.async false
set_option linter.all false
set_option maxRecDepth 100000
set_option maxHeartbeats 4000000
namespace Hd
open PySem PySem.Spec PyProof.Rows L2 FW
variable {P : Program} {w : World} {K : PySem.W.Frag} {mg : Str → Option Value} {base : Heap} {cs : List (Addr × Addr)}

theorem flt_all {α : Type} {xs : List α} : xs.filter (fun _ => true) = xs := List.filter_eq_self.mpr (fun _ _ => rfl)
abbrev Arc := Int × Int × Int
def tupAll (p : PyData → Bool) : PyData → Bool
  | .tuple ds => ds.all p
  | _ => false
def tupLe : PyData → Prop
  | .tuple ds => ds.length ≤ 100000
  | _ => True
def encA (a : Arc) : PyData := .tuple [.int a.1, .int a.2.1, .int a.2.2]
def encN (n : Int) (arcs : List Arc) : PyData := .tuple [.int n, .tuple (arcs.map encA)]
def tI (ns : List Int) : PyData := .tuple (ns.map .int)
def crossI (arcs : List Arc) (side : List Int) : Int := ((arcs.filter fun a => decide (a.1 ∈ side) && !decide (a.2.1 ∈ side)).map (·.2.2)).sum
def inI (arcs : List (List Int)) (side : List Int) : Int := ((arcs.filter fun r => !decide (r.getD 0 0 ∈ side) && decide (r.getD 1 0 ∈ side)).map (·.getD 3 0)).sum
def outI (arcs : List (List Int)) (side : List Int) : Int := ((arcs.filter fun r => decide (r.getD 0 0 ∈ side) && !decide (r.getD 1 0 ∈ side)).map (·.getD 2 0)).sum
def needI (needs side : List Int) : Int := (side.map fun v => needs.getD v.toNat 0).sum
def crowdI (arcs : List (List Int)) (needs side : List Int) : Bool := decide (inI arcs side - outI arcs side < needI needs side)

abbrev N_is_ascending : List Str := ["row", "k"]
theorem sc_is_ascending : FnScope N_is_ascending ["row"] (defScope s_is_ascending) := ⟨rfl, rfl, rfl, by decide +kernel, rfl, by decide +kernel, by decide +kernel⟩
abbrev R_is_ascending : List PyData → PyData → Prop := Sg (α := List Int) (fun ns => ns.length ≤ 100000) (fun ns => [tI ns]) (fun ns => .bool (asc ns))
theorem f_is_ascending (h : Def1 K mg base cs "is_ascending" s_is_ascending true) (B : Bi mg) : Fn P w K mg base cs 2 "is_ascending" R_is_ascending := by
  obtain ⟨f, fd, c, h, hm, hg⟩ := h.ex
  obtain ⟨T0, hT0, TB⟩ := hg rfl
  refine fn_data h hm sc_is_ascending (h.fn.bindsN fun _ _ _ _ _ _ us hl => match us, hl with | [_], _ => rfl) (Sg.len fun _ => rfl) ?_
  intro A outer s H vs E ds d hr hv hF T D hD
  obtain ⟨ns, hpre, rfl, rfl⟩ := hF
  obtain ⟨v0, ws, rfl, h0, hv⟩ := dps_cons hv
  obtain rfl := dps_nil hv
  refine wb_ret (Wd.is (wd_all (xs := List.range (ns.length - 1)) (enc := fun (k : Nat) => .int (k : Int)) [("k", 1)] [1] (fun k => [.int (k : Int)]) (fun _ => true) (fun k => decide (ns.getD k 0 < ns.getD (k + 1) 0)) B hr TB h.code T hT0 sc_is_ascending.nd (gsc_by (N := N_is_ascending) (sc := defScope s_is_ascending) (by decide +kernel)) (src_range B (wd_bin bn_sub (Wd.is (wd_lenT B (wd_var 0 rfl h0)) (by rw [List.length_map])) wd_int) (by omega)) (by decide) fun x hx => turn_x 1 (fun _ => sc_is_ascending.nd) (fun _ => rfl) (fun _ => .inl rfl) (fun _ => .inr rfl) fun z H' v e hv => ?_) ?_) hD
  · have hx' : x < ns.length - 1 := List.mem_range.mp hx
    exact wd_cmp cm_lt (wd_ixT (atI_ints (by omega)) (wd_var 0 rfl (e.dp h0)) (wd_var 1 rfl hv)) (wd_ixT (atI_ints (k := x + 1) (by omega)) (wd_var 0 rfl (e.dp h0)) (wd_bin bn_add (wd_var 1 rfl hv) wd_int))
  · rw [flt_all]
    rfl

abbrev N_is_places : List Str := ["value", "number", "one"]
theorem sc_is_places : FnScope N_is_places ["value", "number"] (defScope s_is_places) := ⟨rfl, rfl, rfl, by decide +kernel, rfl, by decide +kernel, by decide +kernel⟩
abbrev R_is_places : List PyData → PyData → Prop := Sg (α := PyData × Int) (fun ⟨d0, n⟩ => tupLe d0) (fun ⟨d0, n⟩ => [d0, .int n]) (fun ⟨d0, n⟩ => .bool (isPlaces n d0))
theorem f_is_places (h : Def1 K mg base cs "is_places" s_is_places true) (B : Bi mg) (f_is_within : Fn P w K mg base cs 2 "is_within" R_is_within) (f_is_ascending : Fn P w K mg base cs 2 "is_ascending" R_is_ascending) : Fn P w K mg base cs 4 "is_places" R_is_places := by
  obtain ⟨f, fd, c, h, hm, hg⟩ := h.ex
  obtain ⟨T0, hT0, TB⟩ := hg rfl
  refine fn_data h hm sc_is_places (h.fn.bindsN fun _ _ _ _ _ _ us hl => match us, hl with | [_, _], _ => rfl) (Sg.len fun _ => rfl) ?_
  intro A outer s H vs E ds d hr hv hF T D hD
  obtain ⟨⟨d0, n⟩, hpre, rfl, rfl⟩ := hF
  obtain ⟨v0, ws, rfl, h0, hv⟩ := dps_cons hv
  obtain ⟨v1, ws, rfl, h1, hv⟩ := dps_cons hv
  obtain rfl := dps_nil hv
  refine wb_if (k := !isiD "tuple" d0 || !tupAll (fun d => isInt d && isWithin 0 (n - 1) d) d0) (wt_w (ww_or (wt_not (wt_val (wd_isiTup B (wd_var 0 rfl h0)))) fun hk => ?_)) (fun hk H' x => ?_) (fun hk H' x => ?_)
  · obtain ⟨ds, rfl⟩ := isTup_of (by simpa using hk)
    refine ww_or1 (wt_not (wt_val (Wd.is (wd_all (xs := ds) (enc := fun d => d) [("one", 2)] [2] (fun d => [d]) (fun _ => true) (fun d => isInt d && isWithin 0 (n - 1) d) B hr TB h.code T hT0 sc_is_places.nd (gsc_by (N := N_is_places) (sc := defScope s_is_places) (by decide +kernel)) (Src.id (src_T keeps_ext (wd_var 0 rfl h0))) (by decide) fun x hx => turn_x 2 (fun _ => sc_is_places.nd) (fun _ => rfl) (fun _ => .inl rfl) (fun _ => .inr rfl) fun z H' v e hv => ?_) ?_)))
    · exact wd_call f_is_within z.2 (by decide) (T.ext e) (wa_cons (wd_var 2 rfl hv) (wa_cons wd_int (wa_cons (wd_bin bn_sub (wd_var 1 rfl (e.dp h1)) wd_int) wa_nil))) ⟨⟨_, _, _⟩, trivial, rfl, rfl⟩
    · rw [flt_all]
      rfl
  · refine wb_ret (Wd.is wd_bl ?_) (fun v H'' y dv => hD v H'' (x.trans y) dv)
    cases d0 with
    | tuple ds =>
      have e : ds.all (fun d => isInt d && isWithin 0 (n - 1) d) = false := by simpa [isiD, tupAll] using hk
      show PyData.bool false = PyData.bool (isPlaces n (.tuple ds))
      simp only [isPlaces, e, Bool.false_and]
    | _ => rfl
  · cases d0 with
    | tuple ds =>
      have hall : ds.all (fun d => isInt d && isWithin 0 (n - 1) d) = true := by simpa [isiD, tupAll] using hk
      have hall2 : ds.all isInt = true := by
        rw [List.all_eq_true] at hall ⊢
        exact fun d hd => (Bool.and_eq_true_iff.mp (hall d hd)).1
      have e := ints_back hall2
      refine wb_nil (wb_ret (Wd.is (wd_call f_is_ascending hr (by decide) (T.ext x) (wa_cons (wd_var 0 rfl (x.dp h0)) wa_nil) ⟨ds.map intD, ?_, by show [PyData.tuple ds] = [PyData.tuple ((ds.map intD).map .int)]; rw [← e], rfl⟩) ?_) (fun v H'' y dv => hD v H'' (x.trans y) dv))
      · show (ds.map intD).length ≤ 100000
        rw [List.length_map]; exact hpre
      · show PyData.bool (asc _) = PyData.bool (isPlaces n (.tuple ds))
        simp only [isPlaces, hall, Bool.true_and]
    | _ => simp [isiD, tupAll] at hk

abbrev N_crossing : List Str := ["net", "side", "arc"]
theorem sc_crossing : FnScope N_crossing ["net", "side"] (defScope s_crossing) := ⟨rfl, rfl, rfl, by decide +kernel, rfl, by decide +kernel, by decide +kernel⟩
abbrev R_crossing : List PyData → PyData → Prop := Sg (α := Int × List Arc × List Int) (fun ⟨n, arcs, side⟩ => arcs.length ≤ 100000) (fun ⟨n, arcs, side⟩ => [encN n arcs, tI side]) (fun ⟨n, arcs, side⟩ => .int (crossI arcs side))
theorem f_crossing (h : Def1 K mg base cs "crossing" s_crossing false) (B : Bi mg) : Fn P w K mg base cs 1 "crossing" R_crossing := by
  obtain ⟨f, fd, c, h, hm, hg⟩ := h.ex
  refine fn_data h hm sc_crossing (h.fn.bindsN fun _ _ _ _ _ _ us hl => match us, hl with | [_, _], _ => rfl) (Sg.len fun _ => rfl) ?_
  intro A outer s H vs E ds d hr hv hF T D hD
  obtain ⟨⟨n, arcs, side⟩, hpre, rfl, rfl⟩ := hF
  obtain ⟨v0, ws, rfl, h0, hv⟩ := dps_cons hv
  obtain ⟨v1, ws, rfl, h1, hv⟩ := dps_cons hv
  obtain rfl := dps_nil hv
  have nd := sc_crossing.nd
  refine wb_ret (P := fun v H' => Dp K H' v (.int (crossI arcs side))) (Wd.is (wd_sum (ns := (arcs.filter fun a => decide (a.1 ∈ side) && !decide (a.2.1 ∈ side)).map (·.2.2)) B rfl (Wd.is (Wl.wd (wl_lc (xs := arcs) (enc := encA) [("arc", 2)] [2] (fun a => [encA a]) (fun a => decide (a.1 ∈ side) && !decide (a.2.1 ∈ side)) (fun a => .int a.2.2) rfl nd (blkOk_by (N := N_crossing) (sc := defScope s_crossing) (by decide +kernel)) (src_T keeps_ext (wd_ixT rfl (wd_var 0 rfl h0) wd_int)) (by decide) hpre (fun _ _ _ => rfl) fun x hx => turn_xi 2 (fun _ => nd) (fun _ => rfl) (fun _ => .inl rfl) (fun _ => .inr rfl) (fun z H' v e hv => ?_) fun hb z H' v e hv => ?_)) ?_)) rfl) hD
  · exact wt_w (ww_and (wt_cmp cm_inT (wd_ixT rfl (wd_var 2 rfl hv) wd_int) (wd_var 1 rfl (e.dp h1))) fun _ => ww_and1 (wt_cmp cm_ninT (wd_ixT rfl (wd_var 2 rfl hv) wd_int) (wd_var 1 rfl (e.dp h1))))
  · exact wd_ixT rfl (wd_var 2 rfl hv) wd_int
  · rw [List.map_map]
    rfl

abbrev N_is_cut : List Str := ["net", "s", "t", "bound", "side"]
theorem sc_is_cut : FnScope N_is_cut ["net", "s", "t", "bound", "side"] (defScope s_is_cut) := ⟨rfl, rfl, rfl, by decide +kernel, rfl, by decide +kernel, by decide +kernel⟩
abbrev R_is_cut : List PyData → PyData → Prop := Sg (α := Int × List Arc × Int × Int × Int × List Int) (fun ⟨n, arcs, a, b, k, side⟩ => arcs.length ≤ 100000 ∧ side.length ≤ 100000) (fun ⟨n, arcs, a, b, k, side⟩ => [encN n arcs, .int a, .int b, .int k, tI side]) (fun ⟨n, arcs, a, b, k, side⟩ => .bool (isPlaces n (tI side) && (decide (a ∈ side) && (!decide (b ∈ side) && decide (crossI arcs side < k)))))
theorem f_is_cut (h : Def1 K mg base cs "is_cut" s_is_cut false) (B : Bi mg) (f_is_places : Fn P w K mg base cs 4 "is_places" R_is_places) (f_crossing : Fn P w K mg base cs 1 "crossing" R_crossing) : Fn P w K mg base cs 5 "is_cut" R_is_cut := by
  obtain ⟨f, fd, c, h, hm, hg⟩ := h.ex
  refine fn_data h hm sc_is_cut (h.fn.bindsN fun _ _ _ _ _ _ us hl => match us, hl with | [_, _, _, _, _], _ => rfl) (Sg.len fun _ => rfl) ?_
  intro A outer s H vs E ds d hr hv hF T D hD
  obtain ⟨⟨n, arcs, a, b, k, side⟩, hpre, rfl, rfl⟩ := hF
  obtain ⟨v0, ws, rfl, h0, hv⟩ := dps_cons hv
  obtain ⟨v1, ws, rfl, h1, hv⟩ := dps_cons hv
  obtain ⟨v2, ws, rfl, h2, hv⟩ := dps_cons hv
  obtain ⟨v3, ws, rfl, h3, hv⟩ := dps_cons hv
  obtain ⟨v4, ws, rfl, h4, hv⟩ := dps_cons hv
  obtain rfl := dps_nil hv
  exact wb_ret (wd_and (wd_call f_is_places hr (by decide) T (wa_cons (wd_var 4 rfl h4) (wa_cons (wd_ixT rfl (wd_var 0 rfl h0) wd_int) wa_nil)) ⟨⟨tI side, n⟩, by show (side.map PyData.int).length ≤ 100000; rw [List.length_map]; exact hpre.2, rfl, rfl⟩) fun _ => wd_and (wd_cmp cm_inT (wd_var 1 rfl h1) (wd_var 4 rfl h4)) fun _ => wd_and (wd_cmp cm_ninT (wd_var 2 rfl h2) (wd_var 4 rfl h4)) fun _ => wd_one (wd_cmp cm_lt (wd_call f_crossing hr (by decide) T (wa_cons (wd_var 0 rfl h0) (wa_cons (wd_var 4 rfl h4) wa_nil)) ⟨⟨n, arcs, side⟩, hpre.1, rfl, rfl⟩) (wd_var 3 rfl h3))) hD

abbrev N_is_crowd : List Str := ["arcs", "needs", "side", "inside", "outside", "arc", "v"]
theorem sc_is_crowd : FnScope N_is_crowd ["arcs", "needs", "side"] (defScope s_is_crowd) := ⟨rfl, rfl, rfl, by decide +kernel, rfl, by decide +kernel, by decide +kernel⟩
abbrev R_is_crowd : List PyData → PyData → Prop := Sg (α := List (List Int) × List Int × List Int) (fun ⟨arcs, needs, side⟩ => (∀ r ∈ arcs, 4 ≤ r.length) ∧ (∀ v ∈ side, 0 ≤ v ∧ v < needs.length) ∧ arcs.length ≤ 100000 ∧ side.length ≤ 100000) (fun ⟨arcs, needs, side⟩ => [.tuple (arcs.map tI), tI needs, tI side]) (fun ⟨arcs, needs, side⟩ => .bool (crowdI arcs needs side))
theorem f_is_crowd (h : Def1 K mg base cs "is_crowd" s_is_crowd false) (B : Bi mg) : Fn P w K mg base cs 1 "is_crowd" R_is_crowd := by
  obtain ⟨f, fd, c, h, hm, hg⟩ := h.ex
  refine fn_data h hm sc_is_crowd (h.fn.bindsN fun _ _ _ _ _ _ us hl => match us, hl with | [_, _, _], _ => rfl) (Sg.len fun _ => rfl) ?_
  intro A outer s H vs E ds d hr hv hF T D hD
  obtain ⟨⟨arcs, needs, side⟩, hpre, rfl, rfl⟩ := hF
  obtain ⟨v0, ws, rfl, h0, hv⟩ := dps_cons hv
  obtain ⟨v1, ws, rfl, h1, hv⟩ := dps_cons hv
  obtain ⟨v2, ws, rfl, h2, hv⟩ := dps_cons hv
  obtain rfl := dps_nil hv
  have nd := sc_is_crowd.nd
  obtain ⟨p1, p2, p3, p4⟩ := hpre
  refine wb_set (P := fun v H' => Dp K H' v (.int (inI arcs side))) 3 nd (Wd.is (wd_sum (ns := (arcs.filter fun r => !decide (r.getD 0 0 ∈ side) && decide (r.getD 1 0 ∈ side)).map (·.getD 3 0)) B rfl (Wd.is (Wl.wd (wl_lc (xs := arcs) (enc := tI) [("arc", 5)] [5] (fun a => [tI a]) (fun r => !decide (r.getD 0 0 ∈ side) && decide (r.getD 1 0 ∈ side)) (fun a => .int (a.getD 3 0)) rfl nd (blkOk_by (N := N_is_crowd) (sc := defScope s_is_crowd) (by decide +kernel)) (src_T keeps_ext (wd_var 0 rfl h0)) (by decide) p3 (fun _ _ _ => rfl) fun x hx => turn_xi 5 (fun _ => nd) (fun _ => rfl) (fun _ => .inl rfl) (fun _ => .inr rfl) (fun z H' v e hv => ?_) fun hb z H' v e hv => ?_)) ?_)) rfl) fun v3 H1 x1 h3 => ?_
  · have := p1 x hx
    exact wt_w (ww_and (wt_cmp cm_ninT (wd_ixT (atI_ints (k := 0) (by omega)) (wd_var 5 rfl hv) wd_int) (wd_var 2 rfl (e.dp h2))) fun _ => ww_and1 (wt_cmp cm_inT (wd_ixT (atI_ints (k := 1) (by omega)) (wd_var 5 rfl hv) wd_int) (wd_var 2 rfl (e.dp h2))))
  · have := p1 x hx
    exact wd_ixT (atI_ints (k := 3) (by omega)) (wd_var 5 rfl hv) wd_int
  · rw [List.map_map]
    rfl
  replace h0 := x1.dp h0; replace h1 := x1.dp h1; replace h2 := x1.dp h2
  refine wb_set (P := fun v H' => Dp K H' v (.int (outI arcs side))) 4 nd (Wd.is (wd_sum (ns := (arcs.filter fun r => decide (r.getD 0 0 ∈ side) && !decide (r.getD 1 0 ∈ side)).map (·.getD 2 0)) B rfl (Wd.is (Wl.wd (wl_lc (xs := arcs) (enc := tI) [("arc", 5)] [5] (fun a => [tI a]) (fun r => decide (r.getD 0 0 ∈ side) && !decide (r.getD 1 0 ∈ side)) (fun a => .int (a.getD 2 0)) rfl nd (blkOk_by (N := N_is_crowd) (sc := defScope s_is_crowd) (by decide +kernel)) (src_T keeps_ext (wd_var 0 rfl h0)) (by decide) p3 (fun _ _ _ => rfl) fun x hx => turn_xi 5 (fun _ => nd) (fun _ => rfl) (fun _ => .inl rfl) (fun _ => .inr rfl) (fun z H' v e hv => ?_) fun hb z H' v e hv => ?_)) ?_)) rfl) fun v4 H2 x2 h4 => ?_
  · have := p1 x hx
    exact wt_w (ww_and (wt_cmp cm_inT (wd_ixT (atI_ints (k := 0) (by omega)) (wd_var 5 rfl hv) wd_int) (wd_var 2 rfl (e.dp h2))) fun _ => ww_and1 (wt_cmp cm_ninT (wd_ixT (atI_ints (k := 1) (by omega)) (wd_var 5 rfl hv) wd_int) (wd_var 2 rfl (e.dp h2))))
  · have := p1 x hx
    exact wd_ixT (atI_ints (k := 2) (by omega)) (wd_var 5 rfl hv) wd_int
  · rw [List.map_map]
    rfl
  replace h0 := x2.dp h0; replace h1 := x2.dp h1; replace h2 := x2.dp h2; replace h3 := x2.dp h3
  refine wb_ret (P := fun v H' => Dp K H' v (.bool (crowdI arcs needs side))) (Wd.is (wd_cmp cm_gt (wd_sum (ns := side.map fun v => needs.getD v.toNat 0) B rfl (Wd.is (Wl.wd (wl_lc (xs := side) (enc := PyData.int) [("v", 6)] [6] (fun v => [.int v]) (fun _ => true) (fun v => .int (needs.getD v.toNat 0)) rfl nd (blkOk_by (N := N_is_crowd) (sc := defScope s_is_crowd) (by decide +kernel)) (src_T keeps_ext (wd_var 2 rfl h2)) (by decide) p4 (fun _ _ _ => rfl) fun x hx => turn_x 6 (fun _ => nd) (fun _ => rfl) (fun _ => .inl rfl) (fun _ => .inr rfl) fun z H' v e hv => ?_)) ?_)) (wd_bin bn_sub (wd_var 3 rfl h3) (wd_var 4 rfl h4))) rfl) (fun v H'' y dv => hD v H'' ((x1.trans x2).trans y) dv)
  · obtain ⟨q1, q2⟩ := p2 x hx
    have ez : ((x.toNat : Nat) : Int) = x := Int.toNat_of_nonneg q1
    refine wd_ixT (i := x) ?_ (wd_var 1 rfl (e.dp h1)) (wd_var 6 rfl hv)
    have := atI_ints (ns := needs) (k := x.toNat) (by omega)
    rw [ez] at this
    exact this
  · rw [flt_all, List.map_map]
    rfl

end Hd


set_option Elab.async false
set_option linter.all false
set_option maxRecDepth 100000
set_option maxHeartbeats 4000000
namespace Hd
open PySem PySem.Spec PyProof.Rows L2 FW
variable {P : Program} {w : World} {K : PySem.W.Frag} {mg : Str → Option Value} {base : Heap} {cs : List (Addr × Addr)}

theorem worded_cons {w z : Str} {n : Int} {ds : List PyData} (hn : ((ds.length + 1 : Nat) : Int) = n) : isWorded w n (.tuple (.str z :: ds)) = decide (z = w) := by
  simp only [isWorded]
  rw [decide_eq_true hn, Bool.true_and]
theorem worded2 {w z : Str} {d : PyData} : isWorded w 2 (.tuple [.str z, d]) = decide (z = w) := worded_cons rfl
theorem worded3 {w z : Str} {d e : PyData} : isWorded w 3 (.tuple [.str z, d, e]) = decide (z = w) := worded_cons rfl
def encB (n : Int) (arcs : List (List Int)) : PyData := .tuple [.int n, .tuple (arcs.map tI)]

abbrev N_Flow__judge : List Str := ["self", "data", "value", "net", "s", "t", "bound"]
theorem sc_Flow__judge : FnScope N_Flow__judge ["self", "data", "value"] (defScope s_Flow__judge) := ⟨rfl, rfl, rfl, by decide +kernel, rfl, by decide +kernel, by decide +kernel⟩
abbrev R_Flow__judge : List PyData → PyData → Prop := Sg (α := Int × List Arc × Int × Int × Int × List Int) (fun ⟨n, arcs, a, b, k, side⟩ => arcs.length ≤ 100000 ∧ side.length ≤ 100000) (fun ⟨n, arcs, a, b, k, side⟩ => [.tuple [encN n arcs, .int a, .int b, .int k], .tuple [.str "cut", tI side]]) (fun ⟨n, arcs, a, b, k, side⟩ => .bool (isPlaces n (tI side) && (decide (a ∈ side) && (!decide (b ∈ side) && decide (crossI arcs side < k)))))
theorem f_Flow__judge {C : Addr} (h : Def2 K mg base cs C "judge" "Flow.judge" s_Flow__judge false) (B : Bi mg) (f_is_worded : Fn P w K mg base cs 1 "is_worded" R_is_worded) (f_is_cut : Fn P w K mg base cs 5 "is_cut" R_is_cut) : Mt P w K mg base cs 6 C "judge" R_Flow__judge := by
  obtain ⟨f, fd, c, h, hcl, hme, hg⟩ := h.ex
  refine mt_data h hcl hme sc_Flow__judge (h.fn.bindsN fun _ _ _ _ _ _ us hl => match us, hl with | [_, _, _], _ => rfl) (fun ds d e => congrArg (· + 1) (Sg.len (n := 2) (fun _ => rfl) ds d e)) ?_
  intro A outer s H a0 dx0 ws E ds d hr hi hv hF T D hD
  obtain ⟨⟨n, arcs, a, b, k, side⟩, hpre, rfl, rfl⟩ := hF
  obtain ⟨v1, ws, rfl, h1, hv⟩ := dps_cons hv
  obtain ⟨v2, ws, rfl, h2, hv⟩ := dps_cons hv
  obtain rfl := dps_nil hv
  have nd := sc_Flow__judge.nd
  refine wb_asg (wd_var 1 rfl h1) (gj_tup rfl (gj_cons (gj_nm 3 nd) (gj_cons (gj_nm 4 nd) (gj_cons (gj_nm 5 nd) (gj_cons (gj_nm 6 nd) gj_nil))))) fun us H1 x1 hu => ?_
  obtain ⟨v3, us, rfl, h3, hu⟩ := dps_cons hu
  obtain ⟨v4, us, rfl, h4, hu⟩ := dps_cons hu
  obtain ⟨v5, us, rfl, h5, hu⟩ := dps_cons hu
  obtain ⟨v6, us, rfl, h6, hu⟩ := dps_cons hu
  obtain rfl := dps_nil hu
  replace h2 := x1.dp h2
  refine wb_if (k := false) (Wt.is (wt_val (wd_call f_is_worded hr (by decide) (T.ext x1) (wa_cons (wd_var 2 rfl h2) (wa_cons wd_str (wa_cons wd_int wa_nil))) ⟨⟨_, _, _⟩, show (0 : Int) < 2 by decide, rfl, rfl⟩)) ?_) (fun hk => nomatch hk) fun _ H2 x2 => ?_
  · show isWorded _ _ _ = false
    rw [worded2]
    decide +kernel
  have x := x1.trans x2
  replace h2 := x2.dp h2; replace h3 := x2.dp h3; replace h4 := x2.dp h4; replace h5 := x2.dp h5; replace h6 := x2.dp h6
  refine wb_nil (wb_ret (Wd.is (wd_and (k := true) (Wd.is (wd_call f_is_worded hr (by decide) (T.ext x) (wa_cons (wd_var 2 rfl h2) (wa_cons wd_str (wa_cons wd_int wa_nil))) ⟨⟨_, _, _⟩, show (0 : Int) < 2 by decide, rfl, rfl⟩) ?_) fun _ => wd_one (wd_call f_is_cut hr (by decide) (T.ext x) (wa_cons (wd_var 3 rfl h3) (wa_cons (wd_var 4 rfl h4) (wa_cons (wd_var 5 rfl h5) (wa_cons (wd_var 6 rfl h6) (wa_cons (wd_ixT rfl (wd_var 2 rfl h2) wd_int) wa_nil))))) ⟨⟨n, arcs, a, b, k, side⟩, hpre, rfl, rfl⟩)) ?_) (fun v H'' y dv => hD v H'' (x.trans y) dv))
  · show PyData.bool (isWorded _ _ _) = PyData.bool true
    rw [worded2]
    exact congrArg PyData.bool (by decide +kernel)
  · rfl

abbrev N_Need__judge : List Str := ["self", "data", "value", "n", "arcs", "needs", "found", "arc", "amount"]
theorem sc_Need__judge : FnScope N_Need__judge ["self", "data", "value"] (defScope s_Need__judge) := ⟨rfl, rfl, rfl, by decide +kernel, rfl, by decide +kernel, by decide +kernel⟩
abbrev R_Need__judge : List PyData → PyData → Prop := Sg (α := Int × List (List Int) × List Int × List Int) (fun ⟨n, arcs, needs, side⟩ => (∀ r ∈ arcs, 4 ≤ r.length) ∧ (∀ v ∈ side, 0 ≤ v ∧ v < needs.length) ∧ arcs.length ≤ 100000 ∧ side.length ≤ 100000) (fun ⟨n, arcs, needs, side⟩ => [.tuple [encB n arcs, tI needs], .tuple [.str "crowd", tI side]]) (fun ⟨n, arcs, needs, side⟩ => .bool (isPlaces n (tI side) && crowdI arcs needs side))
theorem f_Need__judge {C : Addr} (h : Def2 K mg base cs C "judge" "Need.judge" s_Need__judge false) (B : Bi mg) (f_is_worded : Fn P w K mg base cs 1 "is_worded" R_is_worded) (f_is_places : Fn P w K mg base cs 4 "is_places" R_is_places) (f_is_crowd : Fn P w K mg base cs 1 "is_crowd" R_is_crowd) : Mt P w K mg base cs 5 C "judge" R_Need__judge := by
  obtain ⟨f, fd, c, h, hcl, hme, hg⟩ := h.ex
  refine mt_data h hcl hme sc_Need__judge (h.fn.bindsN fun _ _ _ _ _ _ us hl => match us, hl with | [_, _, _], _ => rfl) (fun ds d e => congrArg (· + 1) (Sg.len (n := 2) (fun _ => rfl) ds d e)) ?_
  intro A outer s H a0 dx0 ws E ds d hr hi hv hF T D hD
  obtain ⟨⟨n, arcs, needs, side⟩, hpre, rfl, rfl⟩ := hF
  obtain ⟨v1, ws, rfl, h1, hv⟩ := dps_cons hv
  obtain ⟨v2, ws, rfl, h2, hv⟩ := dps_cons hv
  obtain rfl := dps_nil hv
  have nd := sc_Need__judge.nd
  refine wb_asg (wd_var 1 rfl h1) (gj_tup rfl (gj_cons (gj_tup rfl (gj_cons (gj_nm 3 nd) (gj_cons (gj_nm 4 nd) gj_nil))) (gj_cons (gj_nm 5 nd) gj_nil))) fun us H1 x1 hu => ?_
  obtain ⟨v3, us, rfl, h3, hu⟩ := dps_cons hu
  obtain ⟨v4, us, rfl, h4, hu⟩ := dps_cons hu
  obtain ⟨v5, us, rfl, h5, hu⟩ := dps_cons hu
  obtain rfl := dps_nil hu
  replace h2 := x1.dp h2
  refine wb_if (k := true) (Wt.is (wt_val (wd_call f_is_worded hr (by decide) (T.ext x1) (wa_cons (wd_var 2 rfl h2) (wa_cons wd_str (wa_cons wd_int wa_nil))) ⟨⟨_, _, _⟩, show (0 : Int) < 2 by decide, rfl, rfl⟩)) ?_) (fun _ H2 x2 => ?_) (fun hk => nomatch hk)
  · show isWorded _ _ _ = true
    rw [worded2]
    decide +kernel
  have x := x1.trans x2
  replace h2 := x2.dp h2; replace h3 := x2.dp h3; replace h4 := x2.dp h4; replace h5 := x2.dp h5
  obtain ⟨p1, p2, p3, p4⟩ := hpre
  exact wb_ret (wd_and (wd_call f_is_places hr (by decide) (T.ext x) (wa_cons (wd_ixT rfl (wd_var 2 rfl h2) wd_int) (wa_cons (wd_var 3 rfl h3) wa_nil)) ⟨⟨tI side, n⟩, by show (side.map PyData.int).length ≤ 100000; rw [List.length_map]; exact p4, rfl, rfl⟩) fun _ => wd_one (wd_call f_is_crowd hr (by decide) (T.ext x) (wa_cons (wd_var 4 rfl h4) (wa_cons (wd_var 5 rfl h5) (wa_cons (wd_ixT rfl (wd_var 2 rfl h2) wd_int) wa_nil))) ⟨⟨arcs, needs, side⟩, ⟨p1, p2, p3, p4⟩, rfl, rfl⟩)) (fun v H'' y dv => hD v H'' (x.trans y) dv)

abbrev N_Task__judge : List Str := ["self", "data", "value", "n", "arcs", "needs", "bound", "row", "arc", "amount"]
theorem sc_Task__judge : FnScope N_Task__judge ["self", "data", "value"] (defScope s_Task__judge) := ⟨rfl, rfl, rfl, by decide +kernel, rfl, by decide +kernel, by decide +kernel⟩
abbrev R_Task__judge : List PyData → PyData → Prop := Sg (α := Int × List (List Int) × List Int × List Int) (fun ⟨n, arcs, needs, side⟩ => (∀ r ∈ arcs, 4 ≤ r.length) ∧ (∀ v ∈ side, 0 ≤ v ∧ v < needs.length) ∧ arcs.length ≤ 100000 ∧ side.length ≤ 100000) (fun ⟨n, arcs, needs, side⟩ => [.tuple [.int n, .tuple (arcs.map tI), tI needs, .none], .tuple [.str "crowd", tI side]]) (fun ⟨n, arcs, needs, side⟩ => .bool (isPlaces n (tI side) && crowdI arcs needs side))
theorem f_Task__judge {C : Addr} (h : Def2 K mg base cs C "judge" "Task.judge" s_Task__judge true) (B : Bi mg) (f_is_worded : Fn P w K mg base cs 1 "is_worded" R_is_worded) (f_is_places : Fn P w K mg base cs 4 "is_places" R_is_places) (f_is_crowd : Fn P w K mg base cs 1 "is_crowd" R_is_crowd) : Mt P w K mg base cs 5 C "judge" R_Task__judge := by
  obtain ⟨f, fd, c, h, hcl, hme, hg⟩ := h.ex
  obtain ⟨T0, hT0, TB⟩ := hg rfl
  refine mt_data h hcl hme sc_Task__judge (h.fn.bindsN fun _ _ _ _ _ _ us hl => match us, hl with | [_, _, _], _ => rfl) (fun ds d e => congrArg (· + 1) (Sg.len (n := 2) (fun _ => rfl) ds d e)) ?_
  intro A outer s H a0 dx0 ws E ds d hr hi hv hF T D hD
  obtain ⟨⟨n, arcs, needs, side⟩, hpre, rfl, rfl⟩ := hF
  obtain ⟨v1, ws, rfl, h1, hv⟩ := dps_cons hv
  obtain ⟨v2, ws, rfl, h2, hv⟩ := dps_cons hv
  obtain rfl := dps_nil hv
  have nd := sc_Task__judge.nd
  refine wb_asg (wd_var 1 rfl h1) (gj_tup rfl (gj_cons (gj_nm 3 nd) (gj_cons (gj_nm 4 nd) (gj_cons (gj_nm 5 nd) (gj_cons (gj_nm 6 nd) gj_nil))))) fun us H1 x1 hu => ?_
  obtain ⟨v3, us, rfl, h3, hu⟩ := dps_cons hu
  obtain ⟨v4, us, rfl, h4, hu⟩ := dps_cons hu
  obtain ⟨v5, us, rfl, h5, hu⟩ := dps_cons hu
  obtain ⟨v6, us, rfl, h6, hu⟩ := dps_cons hu
  obtain rfl := dps_nil hu
  replace h2 := x1.dp h2
  refine wb_if (k := false) (Wt.is (wt_val (wd_call f_is_worded hr (by decide) (T.ext x1) (wa_cons (wd_var 2 rfl h2) (wa_cons wd_str (wa_cons wd_int wa_nil))) ⟨⟨_, _, _⟩, show (0 : Int) < 2 by decide, rfl, rfl⟩)) ?_) (fun hk => nomatch hk) fun _ H2 x2 => ?_
  · show isWorded _ _ _ = false
    rw [worded2]
    decide +kernel
  have x := x1.trans x2
  replace h2 := x2.dp h2; replace h3 := x2.dp h3; replace h4 := x2.dp h4; replace h5 := x2.dp h5
  refine wb_nil (wb_if (k := true) (Wt.is (wt_val (wd_call f_is_worded hr (by decide) (T.ext x) (wa_cons (wd_var 2 rfl h2) (wa_cons wd_str (wa_cons wd_int wa_nil))) ⟨⟨_, _, _⟩, show (0 : Int) < 2 by decide, rfl, rfl⟩)) ?_) (fun _ H3 x3 => ?_) (fun hk => nomatch hk))
  · show isWorded _ _ _ = true
    rw [worded2]
    decide +kernel
  replace x := x.trans x3
  replace h2 := x3.dp h2; replace h3 := x3.dp h3; replace h4 := x3.dp h4; replace h5 := x3.dp h5
  obtain ⟨p1, p2, p3, p4⟩ := hpre
  exact wb_ret (wd_and (wd_call f_is_places hr (by decide) (T.ext x) (wa_cons (wd_ixT rfl (wd_var 2 rfl h2) wd_int) (wa_cons (wd_var 3 rfl h3) wa_nil)) ⟨⟨tI side, n⟩, by show (side.map PyData.int).length ≤ 100000; rw [List.length_map]; exact p4, rfl, rfl⟩) fun _ => wd_one (wd_call f_is_crowd hr (by decide) (T.ext x) (wa_cons (wd_var 4 rfl h4) (wa_cons (wd_var 5 rfl h5) (wa_cons (wd_ixT rfl (wd_var 2 rfl h2) wd_int) wa_nil))) ⟨⟨arcs, needs, side⟩, ⟨p1, p2, p3, p4⟩, rfl, rfl⟩)) (fun v H'' y dv => hD v H'' (x.trans y) dv)

end Hd


set_option Elab.async false
set_option linter.all false
set_option maxRecDepth 100000
set_option maxHeartbeats 4000000
namespace Hd
open PySem PySem.Spec PyProof.Rows L2 FW
variable {P : Program} {w : World} {K : PySem.W.Frag} {mg : Str → Option Value} {base : Heap} {cs : List (Addr × Addr)}

/-! ### quotients -/
abbrev Q2 := Int × Int
def encQ (q : Q2) : PyData := .tuple [.int q.1, .int q.2]
def isQ : PyData → Bool
  | .tuple [.int a, .int b] => decide (0 < b) && decide ((Nat.gcd a.natAbs b.natAbs : Int) = 1)
  | _ => false
/-- a / b, b positive -/
def quot (a b : Int) : Q2 := (a / (Nat.gcd a.natAbs b.natAbs : Int), b / (Nat.gcd a.natAbs b.natAbs : Int))
def plusQ (p q : Q2) : Q2 := quot (p.1 * q.2 + q.1 * p.2) (p.2 * q.2)
def minusQ (p q : Q2) : Q2 := quot (p.1 * q.2 - q.1 * p.2) (p.2 * q.2)
def timesQ (p q : Q2) : Q2 := quot (p.1 * q.1) (p.2 * q.2)
def lessQ (p q : Q2) : Bool := decide (p.1 * q.2 < q.1 * p.2)
def totalQ (xs : List Q2) : Q2 := xs.foldl plusQ (0, 1)
/-- not too great -/
def qs (q : Q2) : Prop := 0 < q.2 ∧ q.1.natAbs < 2 ^ 4000 ∧ q.2.natAbs < 2 ^ 4000
theorem gcd_pos {a b : Int} (hb : 0 < b) : 0 < (Nat.gcd a.natAbs b.natAbs : Int) := by
  have : 0 < Nat.gcd a.natAbs b.natAbs := Nat.gcd_pos_of_pos_right _ (by omega)
  omega
theorem gcd_le {a b : Int} (hb : 0 < b) : (Nat.gcd a.natAbs b.natAbs : Int).natAbs ≤ b.natAbs := by
  rw [Int.natAbs_natCast]
  exact Nat.gcd_le_right _ (by omega)
theorem mulW {a b : Int} (ha : a.natAbs < 2 ^ 4000) (hb : b.natAbs < 2 ^ 4000) : CMulW a b := wide_mul ha hb (by decide) (by decide) (by decide)
theorem mul_lt {a b : Int} (ha : a.natAbs < 2 ^ 4000) (hb : b.natAbs < 2 ^ 4000) : (a * b).natAbs < 2 ^ 8000 := wide_lt ha hb
theorem qpos {p q : Q2} (h1 : qs p) (h2 : qs q) : 0 < p.2 * q.2 := Int.mul_pos h1.1 h2.1
theorem isRow2 {d : PyData} (h : isRow 2 d = true) : ∃ a b, d = .tuple [.int a, .int b] := by
  cases d with
  | tuple ds =>
    simp only [isRow, Bool.and_eq_true, decide_eq_true_eq] at h
    obtain ⟨h1, h2⟩ := h
    match ds, h1, h2 with
    | [x, y], _, h2 =>
      simp only [List.all_cons, List.all_nil, Bool.and_true, Bool.and_eq_true] at h2
      obtain ⟨a, rfl⟩ := isInt_of h2.1
      obtain ⟨b, rfl⟩ := isInt_of h2.2
      exact ⟨a, b, rfl⟩
    | [], h1, _ => simp at h1
    | [_], h1, _ => simp at h1
    | _ :: _ :: _ :: _, h1, _ =>
      simp only [List.length_cons] at h1
      omega
  | _ => simp [isRow] at h
theorem isQ_row {d : PyData} (h : isRow 2 d = false) : isQ d = false := by
  unfold isQ
  split
  · simp [isRow, isInt, isiD] at h
  · rfl

abbrev N_is_quotient : List Str := ["value"]
theorem sc_is_quotient : FnScope N_is_quotient ["value"] (defScope s_is_quotient) := ⟨rfl, rfl, rfl, by decide +kernel, rfl, by decide +kernel, by decide +kernel⟩
abbrev R_is_quotient : List PyData → PyData → Prop := Sg (α := PyData) (fun d0 => True) (fun d0 => [d0]) (fun d0 => .bool (isQ d0))
theorem f_is_quotient (h : Def1 K mg base cs "is_quotient" s_is_quotient false) (B : Bi mg) (hgcd : mg "gcd" = some (.builtin "math.gcd")) (f_is_row : Fn P w K mg base cs 3 "is_row" R_is_row) : Fn P w K mg base cs 4 "is_quotient" R_is_quotient := by
  obtain ⟨f, fd, c, h, hm, hg⟩ := h.ex
  refine fn_data h hm sc_is_quotient (h.fn.bindsN fun _ _ _ _ _ _ us hl => match us, hl with | [_], _ => rfl) (Sg.len fun _ => rfl) ?_
  intro A outer s H vs E ds d hr hv hF T D hD
  obtain ⟨d0, -, rfl, rfl⟩ := hF
  obtain ⟨v0, ws, rfl, h0, hv⟩ := dps_cons hv
  obtain rfl := dps_nil hv
  refine wb_ret (Wd.is (wd_and (k' := isQ d0) (wd_call f_is_row hr (by decide) T (wa_cons (wd_var 0 rfl h0) (wa_cons wd_int wa_nil)) ⟨⟨_, _⟩, trivial, rfl, rfl⟩) fun hk => ?_) ?_) hD
  · obtain ⟨a, b, rfl⟩ := isRow2 hk
    exact wd_and (wd_cmp cm_gt (wd_ixT rfl (wd_var 0 rfl h0) wd_int) wd_int) fun _ => wd_one (wd_cmp cm_eqI (wd_gcd hgcd (wd_ixT rfl (wd_var 0 rfl h0) wd_int) (wd_ixT rfl (wd_var 0 rfl h0) wd_int)) wd_int)
  · show PyData.bool (isRow 2 d0 && isQ d0) = PyData.bool (isQ d0)
    cases hq : isRow 2 d0 with
    | true => rfl
    | false => rw [isQ_row hq]; rfl

abbrev N_quotient : List Str := ["a", "b", "common"]
theorem sc_quotient : FnScope N_quotient ["a", "b"] (defScope s_quotient) := ⟨rfl, rfl, rfl, by decide +kernel, rfl, by decide +kernel, by decide +kernel⟩
abbrev R_quotient : List PyData → PyData → Prop := Sg (α := Int × Int) (fun ⟨a, b⟩ => 0 < b ∧ b.natAbs < 2 ^ 8000) (fun ⟨a, b⟩ => [.int a, .int b]) (fun ⟨a, b⟩ => encQ (quot a b))
theorem f_quotient (h : Def1 K mg base cs "quotient" s_quotient false) (B : Bi mg) (hgcd : mg "gcd" = some (.builtin "math.gcd")) : Fn P w K mg base cs 1 "quotient" R_quotient := by
  obtain ⟨f, fd, c, h, hm, hg⟩ := h.ex
  refine fn_data h hm sc_quotient (h.fn.bindsN fun _ _ _ _ _ _ us hl => match us, hl with | [_, _], _ => rfl) (Sg.len fun _ => rfl) ?_
  intro A outer s H vs E ds d hr hv hF T D hD
  obtain ⟨⟨a, b⟩, hpre, rfl, rfl⟩ := hF
  obtain ⟨v0, ws, rfl, h0, hv⟩ := dps_cons hv
  obtain ⟨v1, ws, rfl, h1, hv⟩ := dps_cons hv
  obtain rfl := dps_nil hv
  have nd := sc_quotient.nd
  have hb : 0 < b := hpre.1
  refine wb_set (P := fun v H' => Dp K H' v (.int (Nat.gcd a.natAbs b.natAbs : Int))) 2 nd (wd_if (k := true) (Wt.is (wt_cmp cm_gt (wd_var 1 rfl h1) wd_int) (decide_eq_true hb)) (fun _ => wd_gcd hgcd (wd_var 0 rfl h0) (wd_var 1 rfl h1)) (fun hk => nomatch hk)) fun v2 H1 x1 h2 => ?_
  have cd : ∀ i : Int, CDivW i (Nat.gcd a.natAbs b.natAbs : Int) := fun i => wide_div (b := 8000) (gcd_pos hb) (Nat.lt_of_le_of_lt (gcd_le hb) hpre.2) (by decide) (by decide)
  exact wb_ret (wd_tup (wa_cons (wd_bin (bn_fdiv (cd _)) (wd_var 0 rfl (x1.dp h0)) (wd_var 2 rfl h2)) (wa_cons (wd_bin (bn_fdiv (cd _)) (wd_var 1 rfl (x1.dp h1)) (wd_var 2 rfl h2)) wa_nil))) (fun v H'' y dv => hD v H'' (x1.trans y) dv)

abbrev N_plus : List Str := ["one", "two"]
theorem sc_plus : FnScope N_plus ["one", "two"] (defScope s_plus) := ⟨rfl, rfl, rfl, by decide +kernel, rfl, by decide +kernel, by decide +kernel⟩
abbrev R_plus : List PyData → PyData → Prop := Sg (α := Q2 × Q2) (fun ⟨p, q⟩ => qs p ∧ qs q) (fun ⟨p, q⟩ => [encQ p, encQ q]) (fun ⟨p, q⟩ => encQ (plusQ p q))
theorem f_plus (h : Def1 K mg base cs "plus" s_plus false) (B : Bi mg) (f_quotient : Fn P w K mg base cs 1 "quotient" R_quotient) : Fn P w K mg base cs 2 "plus" R_plus := by
  obtain ⟨f, fd, c, h, hm, hg⟩ := h.ex
  refine fn_data h hm sc_plus (h.fn.bindsN fun _ _ _ _ _ _ us hl => match us, hl with | [_, _], _ => rfl) (Sg.len fun _ => rfl) ?_
  intro A outer s H vs E ds d hr hv hF T D hD
  obtain ⟨⟨p, q⟩, hpre, rfl, rfl⟩ := hF
  obtain ⟨v0, ws, rfl, h0, hv⟩ := dps_cons hv
  obtain ⟨v1, ws, rfl, h1, hv⟩ := dps_cons hv
  obtain rfl := dps_nil hv
  obtain ⟨q1, q2⟩ := hpre
  exact wb_ret (wd_call f_quotient hr (by decide) T (wa_cons (wd_bin bn_add (wd_bin (bn_mul (mulW q1.2.1 q2.2.2)) (wd_ixT rfl (wd_var 0 rfl h0) wd_int) (wd_ixT rfl (wd_var 1 rfl h1) wd_int)) (wd_bin (bn_mul (mulW q2.2.1 q1.2.2)) (wd_ixT rfl (wd_var 1 rfl h1) wd_int) (wd_ixT rfl (wd_var 0 rfl h0) wd_int))) (wa_cons (wd_bin (bn_mul (mulW q1.2.2 q2.2.2)) (wd_ixT rfl (wd_var 0 rfl h0) wd_int) (wd_ixT rfl (wd_var 1 rfl h1) wd_int)) wa_nil)) ⟨⟨_, _⟩, ⟨qpos q1 q2, mul_lt q1.2.2 q2.2.2⟩, rfl, rfl⟩) hD

abbrev N_minus : List Str := ["one", "two"]
theorem sc_minus : FnScope N_minus ["one", "two"] (defScope s_minus) := ⟨rfl, rfl, rfl, by decide +kernel, rfl, by decide +kernel, by decide +kernel⟩
abbrev R_minus : List PyData → PyData → Prop := Sg (α := Q2 × Q2) (fun ⟨p, q⟩ => qs p ∧ qs q) (fun ⟨p, q⟩ => [encQ p, encQ q]) (fun ⟨p, q⟩ => encQ (minusQ p q))
theorem f_minus (h : Def1 K mg base cs "minus" s_minus false) (B : Bi mg) (f_quotient : Fn P w K mg base cs 1 "quotient" R_quotient) : Fn P w K mg base cs 2 "minus" R_minus := by
  obtain ⟨f, fd, c, h, hm, hg⟩ := h.ex
  refine fn_data h hm sc_minus (h.fn.bindsN fun _ _ _ _ _ _ us hl => match us, hl with | [_, _], _ => rfl) (Sg.len fun _ => rfl) ?_
  intro A outer s H vs E ds d hr hv hF T D hD
  obtain ⟨⟨p, q⟩, hpre, rfl, rfl⟩ := hF
  obtain ⟨v0, ws, rfl, h0, hv⟩ := dps_cons hv
  obtain ⟨v1, ws, rfl, h1, hv⟩ := dps_cons hv
  obtain rfl := dps_nil hv
  obtain ⟨q1, q2⟩ := hpre
  exact wb_ret (wd_call f_quotient hr (by decide) T (wa_cons (wd_bin bn_sub (wd_bin (bn_mul (mulW q1.2.1 q2.2.2)) (wd_ixT rfl (wd_var 0 rfl h0) wd_int) (wd_ixT rfl (wd_var 1 rfl h1) wd_int)) (wd_bin (bn_mul (mulW q2.2.1 q1.2.2)) (wd_ixT rfl (wd_var 1 rfl h1) wd_int) (wd_ixT rfl (wd_var 0 rfl h0) wd_int))) (wa_cons (wd_bin (bn_mul (mulW q1.2.2 q2.2.2)) (wd_ixT rfl (wd_var 0 rfl h0) wd_int) (wd_ixT rfl (wd_var 1 rfl h1) wd_int)) wa_nil)) ⟨⟨_, _⟩, ⟨qpos q1 q2, mul_lt q1.2.2 q2.2.2⟩, rfl, rfl⟩) hD

abbrev N_times : List Str := ["one", "two"]
theorem sc_times : FnScope N_times ["one", "two"] (defScope s_times) := ⟨rfl, rfl, rfl, by decide +kernel, rfl, by decide +kernel, by decide +kernel⟩
abbrev R_times : List PyData → PyData → Prop := Sg (α := Q2 × Q2) (fun ⟨p, q⟩ => qs p ∧ qs q) (fun ⟨p, q⟩ => [encQ p, encQ q]) (fun ⟨p, q⟩ => encQ (timesQ p q))
theorem f_times (h : Def1 K mg base cs "times" s_times false) (B : Bi mg) (f_quotient : Fn P w K mg base cs 1 "quotient" R_quotient) : Fn P w K mg base cs 2 "times" R_times := by
  obtain ⟨f, fd, c, h, hm, hg⟩ := h.ex
  refine fn_data h hm sc_times (h.fn.bindsN fun _ _ _ _ _ _ us hl => match us, hl with | [_, _], _ => rfl) (Sg.len fun _ => rfl) ?_
  intro A outer s H vs E ds d hr hv hF T D hD
  obtain ⟨⟨p, q⟩, hpre, rfl, rfl⟩ := hF
  obtain ⟨v0, ws, rfl, h0, hv⟩ := dps_cons hv
  obtain ⟨v1, ws, rfl, h1, hv⟩ := dps_cons hv
  obtain rfl := dps_nil hv
  obtain ⟨q1, q2⟩ := hpre
  exact wb_ret (wd_call f_quotient hr (by decide) T (wa_cons (wd_bin (bn_mul (mulW q1.2.1 q2.2.1)) (wd_ixT rfl (wd_var 0 rfl h0) wd_int) (wd_ixT rfl (wd_var 1 rfl h1) wd_int)) (wa_cons (wd_bin (bn_mul (mulW q1.2.2 q2.2.2)) (wd_ixT rfl (wd_var 0 rfl h0) wd_int) (wd_ixT rfl (wd_var 1 rfl h1) wd_int)) wa_nil)) ⟨⟨_, _⟩, ⟨qpos q1 q2, mul_lt q1.2.2 q2.2.2⟩, rfl, rfl⟩) hD

abbrev N_is_less : List Str := ["one", "two"]
theorem sc_is_less : FnScope N_is_less ["one", "two"] (defScope s_is_less) := ⟨rfl, rfl, rfl, by decide +kernel, rfl, by decide +kernel, by decide +kernel⟩
abbrev R_is_less : List PyData → PyData → Prop := Sg (α := Q2 × Q2) (fun ⟨p, q⟩ => qs p ∧ qs q) (fun ⟨p, q⟩ => [encQ p, encQ q]) (fun ⟨p, q⟩ => .bool (lessQ p q))
theorem f_is_less (h : Def1 K mg base cs "is_less" s_is_less false) (B : Bi mg) : Fn P w K mg base cs 1 "is_less" R_is_less := by
  obtain ⟨f, fd, c, h, hm, hg⟩ := h.ex
  refine fn_data h hm sc_is_less (h.fn.bindsN fun _ _ _ _ _ _ us hl => match us, hl with | [_, _], _ => rfl) (Sg.len fun _ => rfl) ?_
  intro A outer s H vs E ds d hr hv hF T D hD
  obtain ⟨⟨p, q⟩, hpre, rfl, rfl⟩ := hF
  obtain ⟨v0, ws, rfl, h0, hv⟩ := dps_cons hv
  obtain ⟨v1, ws, rfl, h1, hv⟩ := dps_cons hv
  obtain rfl := dps_nil hv
  obtain ⟨q1, q2⟩ := hpre
  exact wb_ret (wd_cmp cm_lt (wd_bin (bn_mul (mulW q1.2.1 q2.2.2)) (wd_ixT rfl (wd_var 0 rfl h0) wd_int) (wd_ixT rfl (wd_var 1 rfl h1) wd_int)) (wd_bin (bn_mul (mulW q2.2.1 q1.2.2)) (wd_ixT rfl (wd_var 1 rfl h1) wd_int) (wd_ixT rfl (wd_var 0 rfl h0) wd_int))) hD


theorem totalQ_take {xs : List Q2} {i : Nat} {x : Q2} (h : xs[i]? = some x) : totalQ (xs.take (i + 1)) = plusQ (totalQ (xs.take i)) x := by
  unfold totalQ
  rw [List.take_add_one, h, List.foldl_append]
  rfl

abbrev N_total : List Str := ["row", "found", "one"]
theorem sc_total : FnScope N_total ["row"] (defScope s_total) := ⟨rfl, rfl, rfl, by decide +kernel, rfl, by decide +kernel, by decide +kernel⟩
abbrev R_total : List PyData → PyData → Prop := Sg (α := Bool × List Q2) (fun ⟨t, xs⟩ => (∀ i, qs (totalQ (xs.take i))) ∧ ∀ x ∈ xs, qs x) (fun ⟨t, xs⟩ => [seqD t (xs.map encQ)]) (fun ⟨t, xs⟩ => encQ (totalQ xs))
theorem f_total (h : Def1 K mg base cs "total" s_total false) (B : Bi mg) (f_plus : Fn P w K mg base cs 2 "plus" R_plus) : Fn P w K mg base cs 3 "total" R_total := by
  obtain ⟨f, fd, c, h, hm, hg⟩ := h.ex
  refine fn_data h hm sc_total (h.fn.bindsN fun _ _ _ _ _ _ us hl => match us, hl with | [_], _ => rfl) (Sg.len fun _ => rfl) ?_
  intro A outer s H vs E ds d hr hv hF T D hD
  obtain ⟨⟨t, xs⟩, hpre, rfl, rfl⟩ := hF
  obtain ⟨v0, ws, rfl, h0, hv⟩ := dps_cons hv
  obtain rfl := dps_nil hv
  have nd := sc_total.nd
  refine wb_set (P := fun v H' => Dp K H' v (encQ (0, 1))) 1 nd (wd_tup (wa_cons wd_int (wa_cons wd_int wa_nil))) fun v1 H1 x1 h1 => ?_
  refine wb_for [2] (fun q => [encQ q]) (fun H2 i σ' H' => Ext H2 H' ∧ ∃ vf u, σ' = [some v0, some vf, u] ∧ Dp K H' vf (encQ (totalQ (xs.take i)))) (src_seq (wd_var 0 rfl (x1.dp h0))) PassesOwn.never rfl (fun x _ => gj_nm 2 nd) ?_ ?_ ?_ ?_
  · intro H2 x2
    exact ⟨Ext.refl _, v1, none, rfl, x2.dp h1⟩
  · intro H2 i σ' H' ⟨y, _⟩
    exact y
  · intro H2 i x σ' H' H'' ws y hx ⟨y1, vf, u, e, df⟩ y2 hw
    obtain ⟨v2, ws, rfl, h2, hw⟩ := dps_cons hw
    obtain rfl := dps_nil hw
    subst e
    have hm := List.mem_of_getElem? hx
    refine wb_set (P := fun v H' => Dp K H' v (encQ (totalQ (xs.take (i + 1))))) 1 nd (Wd.is (wd_call f_plus hr (by decide) (T.ext (((x1.trans y).trans y1).trans y2)) (wa_cons (wd_var 1 rfl (y2.dp df)) (wa_cons (wd_var 2 rfl h2) wa_nil)) ⟨⟨_, x⟩, ⟨hpre.1 i, hpre.2 x hm⟩, rfl, rfl⟩) (by rw [totalQ_take hx])) fun v3 H3 x3 h3 => ?_
    exact wb_nil ⟨(y1.trans y2).trans x3, v3, some v2, rfl, h3⟩
  · intro H2 σ' H' y ⟨y1, vf, u, e, df⟩
    subst e
    rw [List.take_length] at df
    exact wb_ret (wd_var 1 rfl df) (fun v H'' y2 dv => hD v H'' (((x1.trans y).trans y1).trans y2) dv)

def isQRow (n : Int) : PyData → Bool
  | .tuple ds => decide ((ds.length : Int) = n) && ds.all isQ
  | _ => false
abbrev N_is_quotient_row : List Str := ["value", "length", "one"]
theorem sc_is_quotient_row : FnScope N_is_quotient_row ["value", "length"] (defScope s_is_quotient_row) := ⟨rfl, rfl, rfl, by decide +kernel, rfl, by decide +kernel, by decide +kernel⟩
abbrev R_is_quotient_row : List PyData → PyData → Prop := Sg (α := PyData × Int) (fun ⟨d0, n⟩ => True) (fun ⟨d0, n⟩ => [d0, .int n]) (fun ⟨d0, n⟩ => .bool (isQRow n d0))
theorem f_is_quotient_row (h : Def1 K mg base cs "is_quotient_row" s_is_quotient_row true) (B : Bi mg) (f_is_quotient : Fn P w K mg base cs 4 "is_quotient" R_is_quotient) : Fn P w K mg base cs 6 "is_quotient_row" R_is_quotient_row := by
  obtain ⟨f, fd, c, h, hm, hg⟩ := h.ex
  obtain ⟨T0, hT0, TB⟩ := hg rfl
  refine fn_data h hm sc_is_quotient_row (h.fn.bindsN fun _ _ _ _ _ _ us hl => match us, hl with | [_, _], _ => rfl) (Sg.len fun _ => rfl) ?_
  intro A outer s H vs E ds d hr hv hF T D hD
  obtain ⟨⟨d0, n⟩, -, rfl, rfl⟩ := hF
  obtain ⟨v0, ws, rfl, h0, hv⟩ := dps_cons hv
  obtain ⟨v1, ws, rfl, h1, hv⟩ := dps_cons hv
  obtain rfl := dps_nil hv
  refine wb_ret (Wd.is (wd_and (k' := isQRow n d0) (wd_isiTup B (wd_var 0 rfl h0)) fun hk => ?_) ?_) hD
  · obtain ⟨ds, rfl⟩ := isTup_of hk
    refine wd_and (wd_cmp cm_eqI (wd_lenT B (wd_var 0 rfl h0)) (wd_var 1 rfl h1)) fun _ => wd_one (Wd.is (wd_all (xs := ds) (enc := fun d => d) [("one", 2)] [2] (fun d => [d]) (fun _ => true) isQ B hr TB h.code T hT0 sc_is_quotient_row.nd (gsc_by (N := N_is_quotient_row) (sc := defScope s_is_quotient_row) (by decide +kernel)) (Src.id (src_T keeps_ext (wd_var 0 rfl h0))) (by decide) fun x hx => turn_x 2 (fun _ => sc_is_quotient_row.nd) (fun _ => rfl) (fun _ => .inl rfl) (fun _ => .inr rfl) fun z H' v e hv => ?_) ?_)
    · exact wd_call f_is_quotient z.2 (by decide) (T.ext e) (wa_cons (wd_var 2 rfl hv) wa_nil) ⟨_, trivial, rfl, rfl⟩
    · rw [flt_all]
  · cases d0 <;> simp [isiD, isQRow]

end Hd


set_option Elab.async false
set_option linter.all false
set_option maxRecDepth 100000
set_option maxHeartbeats 4000000
namespace Hd
open PySem PySem.Spec PyProof.Rows L2 FW
variable {P : Program} {w : World} {K : PySem.W.Frag} {mg : Str → Option Value} {base : Heap} {cs : List (Addr × Addr)}
theorem _root_.FW.Ww.is {X : Cx} {e : Expr} {σ : L2.St} {H : Hp} {k k' : Bool} (h : Ww X e σ H k) (q : k = k') : Ww X e σ H k' := q ▸ h

/-! ### linear papers -/
def prodsQ (row : List Int) (pt : List Q2) : List Q2 := ((row.zip pt).filter fun z => !decide (z.1 = 0)).map fun z => timesQ (z.1, 1) z.2
def dotQ (row : List Int) (pt : List Q2) : Q2 := totalQ (prodsQ row pt)
def sm (a : Int) : Prop := a.natAbs < 2 ^ 4000
theorem qs1 {a : Int} (h : sm a) : qs (a, 1) := ⟨show (0 : Int) < 1 by decide, h, by show (1 : Int).natAbs < 2 ^ 4000; exact Nat.one_lt_two_pow (by decide)⟩
structure DotOk (row : List Int) (pt : List Q2) : Prop where
  it : ∀ z ∈ row.zip pt, sm z.1 ∧ qs z.2
  tot : ∀ i, qs (totalQ ((prodsQ row pt).take i))
  each : ∀ x ∈ prodsQ row pt, qs x
  l1 : row.length ≤ 100000
def leastQ (lo hi : Int) (f : Q2) : Q2 := if lessQ (timesQ (lo, 1) f) (timesQ (hi, 1) f) = true then timesQ (lo, 1) f else timesQ (hi, 1) f
structure LeastOk (lo hi : Int) (f : Q2) : Prop where
  plo : sm lo
  phi : sm hi
  pf : qs f
  p1 : qs (timesQ (lo, 1) f)
  p2 : qs (timesQ (hi, 1) f)
def encO : Option Int → PyData
  | none => .none
  | some i => .int i
def colI (rows : List (List Int)) (k : Nat) : List Int := rows.map (·.getD k 0)
def facQ (rows : List (List Int)) (costs : List Int) (ws : List Q2) (w : Q2) (k : Nat) : Q2 := minusQ (timesQ w (costs.getD k 0, 1)) (dotQ (colI rows k) ws)
def foundQ (rows : List (List Int)) (due lows highs costs : List Int) (ws : List Q2) (w : Q2) : Nat → Q2
  | 0 => dotQ due ws
  | k + 1 => plusQ (foundQ rows due lows highs costs ws w k) (leastQ (lows.getD k 0) (highs.getD k 0) (facQ rows costs ws w k))
def leftQ (bound : Option Int) (w : Q2) : Q2 := match bound with
  | none => (0, 1)
  | some b => timesQ w (b, 1)
structure LinOk (rows : List (List Int)) (due lows highs costs : List Int) (bound : Option Int) (ws : List Q2) (w : Q2) : Prop where
  isq : ws.all (fun q => isQ (encQ q)) = true
  isw : isQ (encQ w) = true
  len : ws.length = rows.length
  w0 : 0 ≤ w.1
  wn : bound = none → w.1 = 0
  qw : qs w
  rl : rows.length ≤ 100000
  ll : lows.length ≤ 100000
  lh : highs.length = lows.length
  lc : costs.length = lows.length
  row : ∀ r ∈ rows, r.length = lows.length
  d0 : DotOk due ws
  dk : ∀ k, k < lows.length → DotOk (colI rows k) ws
  ck : ∀ k, k < lows.length → sm (costs.getD k 0)
  tk : ∀ k, k < lows.length → qs (timesQ w (costs.getD k 0, 1))
  dq : ∀ k, k < lows.length → qs (dotQ (colI rows k) ws)
  lk : ∀ k, k < lows.length → LeastOk (lows.getD k 0) (highs.getD k 0) (facQ rows costs ws w k)
  qk : ∀ k, k < lows.length → qs (leastQ (lows.getD k 0) (highs.getD k 0) (facQ rows costs ws w k))
  fk : ∀ k, k ≤ lows.length → qs (foundQ rows due lows highs costs ws w k)
  bs : ∀ b, bound = some b → sm b
  lq : qs (leftQ bound w)
theorem DotOk.list {row : List Int} {pt : List Q2} (h : DotOk row pt) : (∀ i, qs (totalQ ((prodsQ row pt).take i))) ∧ ∀ x ∈ prodsQ row pt, qs x := ⟨h.tot, h.each⟩

abbrev N_dot : List Str := ["row", "point", "number", "one"]
theorem sc_dot : FnScope N_dot ["row", "point"] (defScope s_dot) := ⟨rfl, rfl, rfl, by decide +kernel, rfl, by decide +kernel, by decide +kernel⟩
abbrev R_dot : List PyData → PyData → Prop := Sg (α := Bool × List Int × Bool × List Q2) (fun ⟨t, row, u, pt⟩ => DotOk row pt) (fun ⟨t, row, u, pt⟩ => [seqD t (row.map .int), seqD u (pt.map encQ)]) (fun ⟨t, row, u, pt⟩ => encQ (dotQ row pt))
theorem f_dot (h : Def1 K mg base cs "dot" s_dot false) (B : Bi mg) (f_times : Fn P w K mg base cs 2 "times" R_times) (f_total : Fn P w K mg base cs 3 "total" R_total) : Fn P w K mg base cs 4 "dot" R_dot := by
  obtain ⟨f, fd, c, h, hm, hg⟩ := h.ex
  refine fn_data h hm sc_dot (h.fn.bindsN fun _ _ _ _ _ _ us hl => match us, hl with | [_, _], _ => rfl) (Sg.len fun _ => rfl) ?_
  intro A outer s H vs E ds d hr hv hF T D hD
  obtain ⟨⟨t, row, u, pt⟩, hpre, rfl, rfl⟩ := hF
  obtain ⟨v0, ws, rfl, h0, hv⟩ := dps_cons hv
  obtain ⟨v1, ws, rfl, h1, hv⟩ := dps_cons hv
  obtain rfl := dps_nil hv
  have nd := sc_dot.nd
  have hp : DotOk row pt := hpre
  refine wb_ret (P := fun v H' => Dp K H' v (encQ (dotQ row pt))) (Wd.is (wd_call f_total hr (by decide) T (wa_cons (Wl.wd (wl_lc (xs := row.zip pt) (enc := fun z => .tuple [.int z.1, encQ z.2]) [("number", 2), ("one", 3)] [2, 3] (fun z => [.int z.1, encQ z.2]) (fun z => !decide (z.1 = 0)) (fun z => encQ (timesQ (z.1, 1) z.2)) rfl nd (blkOk_by (N := N_dot) (sc := defScope s_dot) (by decide +kernel)) (Src.as (src_zipK B (wd_var 0 rfl h0) (wd_var 1 rfl h1)) zipD_map) (by decide) ?_ (fun _ _ _ => rfl) fun x hx => turn_one (fun z => gj_tup rfl (gj_cons (gj_nm 2 nd) (gj_cons (gj_nm 3 nd) gj_nil))) (fun z H' ws e dw => ?_) fun hb z H' ws e dw => ?_)) wa_nil) ⟨⟨false, prodsQ row pt⟩, hp.list, ?_, rfl⟩) rfl) hD
  · rw [List.length_zip]
    have := hp.l1
    omega
  · obtain ⟨v2, ws, rfl, h2, dw⟩ := dps_cons dw
    obtain ⟨v3, ws, rfl, h3, dw⟩ := dps_cons dw
    obtain rfl := dps_nil dw
    exact wt_cmp cm_neI (wd_var 2 rfl h2) wd_int
  · obtain ⟨v2, ws, rfl, h2, dw⟩ := dps_cons dw
    obtain ⟨v3, ws, rfl, h3, dw⟩ := dps_cons dw
    obtain rfl := dps_nil dw
    exact wd_call f_times hr (by decide) (T.ext e) (wa_cons (wd_tup (wa_cons (wd_var 2 rfl h2) (wa_cons wd_int wa_nil))) (wa_cons (wd_var 3 rfl h3) wa_nil)) ⟨⟨(x.1, 1), x.2⟩, ⟨qs1 (hp.it x hx).1, (hp.it x hx).2⟩, rfl, rfl⟩
  · show [PyData.list _] = [PyData.list ((prodsQ row pt).map encQ)]
    unfold prodsQ
    rw [List.map_map]
    rfl

abbrev N_least_product : List Str := ["low", "high", "factor", "one", "two"]
theorem sc_least_product : FnScope N_least_product ["low", "high", "factor"] (defScope s_least_product) := ⟨rfl, rfl, rfl, by decide +kernel, rfl, by decide +kernel, by decide +kernel⟩
abbrev R_least_product : List PyData → PyData → Prop := Sg (α := Int × Int × Q2) (fun ⟨lo, hi, q⟩ => LeastOk lo hi q) (fun ⟨lo, hi, q⟩ => [.int lo, .int hi, encQ q]) (fun ⟨lo, hi, q⟩ => encQ (leastQ lo hi q))
theorem f_least_product (h : Def1 K mg base cs "least_product" s_least_product false) (B : Bi mg) (f_times : Fn P w K mg base cs 2 "times" R_times) (f_is_less : Fn P w K mg base cs 1 "is_less" R_is_less) : Fn P w K mg base cs 3 "least_product" R_least_product := by
  obtain ⟨f, fd, c, h, hm, hg⟩ := h.ex
  refine fn_data h hm sc_least_product (h.fn.bindsN fun _ _ _ _ _ _ us hl => match us, hl with | [_, _, _], _ => rfl) (Sg.len fun _ => rfl) ?_
  intro A outer s H vs E ds d hr hv hF T D hD
  obtain ⟨⟨lo, hi, q⟩, hpre, rfl, rfl⟩ := hF
  obtain ⟨v0, ws, rfl, h0, hv⟩ := dps_cons hv
  obtain ⟨v1, ws, rfl, h1, hv⟩ := dps_cons hv
  obtain ⟨v2, ws, rfl, h2, hv⟩ := dps_cons hv
  obtain rfl := dps_nil hv
  have nd := sc_least_product.nd
  have hp : LeastOk lo hi q := hpre
  refine wb_par (i := 3) (j := 4) nd rfl (wd_call f_times hr (by decide) T (wa_cons (wd_tup (wa_cons (wd_var 0 rfl h0) (wa_cons wd_int wa_nil))) (wa_cons (wd_var 2 rfl h2) wa_nil)) ⟨⟨(lo, 1), q⟩, ⟨qs1 hp.plo, hp.pf⟩, rfl, rfl⟩) (wd_call f_times hr (by decide) T (wa_cons (wd_tup (wa_cons (wd_var 1 rfl h1) (wa_cons wd_int wa_nil))) (wa_cons (wd_var 2 rfl h2) wa_nil)) ⟨⟨(hi, 1), q⟩, ⟨qs1 hp.phi, hp.pf⟩, rfl, rfl⟩) fun v3 v4 H1 x1 h3 h4 => ?_
  refine wb_ret (wd_if (wt_val (wd_call f_is_less hr (by decide) (T.ext x1) (wa_cons (wd_var 3 rfl h3) (wa_cons (wd_var 4 rfl h4) wa_nil)) ⟨⟨_, _⟩, ⟨hp.p1, hp.p2⟩, rfl, rfl⟩)) (fun hk => Wd.is (wd_var 3 rfl h3) ?_) (fun hk => Wd.is (wd_var 4 rfl h4) ?_)) (fun v H'' y dv => hD v H'' (x1.trans y) dv)
  · show encQ (timesQ (lo, 1) q) = encQ (leastQ lo hi q)
    unfold leastQ
    rw [if_pos hk]
  · show encQ (timesQ (hi, 1) q) = encQ (leastQ lo hi q)
    unfold leastQ
    rw [if_neg (by rw [show lessQ (timesQ (lo, 1) q) (timesQ (hi, 1) q) = false from hk]; decide)]

abbrev N_Linear__judge : List Str := ["self", "data", "value", "rows", "due", "lows", "highs", "costs", "bound", "w", "found", "k", "factor", "row"]
theorem sc_Linear__judge : FnScope N_Linear__judge ["self", "data", "value"] (defScope s_Linear__judge) := ⟨rfl, rfl, rfl, by decide +kernel, rfl, by decide +kernel, by decide +kernel⟩
abbrev R_Linear__judge : List PyData → PyData → Prop := Sg (α := List (List Int) × List Int × List Int × List Int × List Int × Option Int × List Q2 × Q2) (fun ⟨rows, due, lows, highs, costs, bound, ws0, w0⟩ => LinOk rows due lows highs costs bound ws0 w0) (fun ⟨rows, due, lows, highs, costs, bound, ws0, w0⟩ => [.tuple [.tuple (rows.map tI), tI due, tI lows, tI highs, tI costs, encO bound], .tuple [.str "weights", .tuple (ws0.map encQ), encQ w0]]) (fun ⟨rows, due, lows, highs, costs, bound, ws0, w0⟩ => .bool (lessQ (leftQ bound w0) (foundQ rows due lows highs costs ws0 w0 lows.length)))
theorem f_Linear__judge {C : Addr} (h : Def2 K mg base cs C "judge" "Linear.judge" s_Linear__judge false) (B : Bi mg) (f_is_worded : Fn P w K mg base cs 1 "is_worded" R_is_worded) (f_is_quotient_row : Fn P w K mg base cs 6 "is_quotient_row" R_is_quotient_row) (f_is_quotient : Fn P w K mg base cs 4 "is_quotient" R_is_quotient) (f_dot : Fn P w K mg base cs 4 "dot" R_dot) (f_minus : Fn P w K mg base cs 2 "minus" R_minus) (f_times : Fn P w K mg base cs 2 "times" R_times) (f_plus : Fn P w K mg base cs 2 "plus" R_plus) (f_least_product : Fn P w K mg base cs 3 "least_product" R_least_product) (f_is_less : Fn P w K mg base cs 1 "is_less" R_is_less) : Mt P w K mg base cs 7 C "judge" R_Linear__judge := by
  obtain ⟨f, fd, c, h, hcl, hme, hg⟩ := h.ex
  refine mt_data h hcl hme sc_Linear__judge (h.fn.bindsN fun _ _ _ _ _ _ us hl => match us, hl with | [_, _, _], _ => rfl) (fun ds d e => congrArg (· + 1) (Sg.len (n := 2) (fun _ => rfl) ds d e)) ?_
  intro A outer s H a0 dx0 ws E ds d hr hi hv hF T D hD
  obtain ⟨⟨rows, due, lows, highs, costs, bound, ws0, w0⟩, hpre, rfl, rfl⟩ := hF
  obtain ⟨v1, ws, rfl, h1, hv⟩ := dps_cons hv
  obtain ⟨v2, ws, rfl, h2, hv⟩ := dps_cons hv
  obtain rfl := dps_nil hv
  have nd := sc_Linear__judge.nd
  have hp : LinOk rows due lows highs costs bound ws0 w0 := hpre
  refine wb_asg (wd_var 1 rfl h1) (gj_tup rfl (gj_cons (gj_nm 3 nd) (gj_cons (gj_nm 4 nd) (gj_cons (gj_nm 5 nd) (gj_cons (gj_nm 6 nd) (gj_cons (gj_nm 7 nd) (gj_cons (gj_nm 8 nd) gj_nil))))))) fun us H1 x1 hu => ?_
  obtain ⟨v3, us, rfl, h3, hu⟩ := dps_cons hu
  obtain ⟨v4, us, rfl, h4, hu⟩ := dps_cons hu
  obtain ⟨v5, us, rfl, h5, hu⟩ := dps_cons hu
  obtain ⟨v6, us, rfl, h6, hu⟩ := dps_cons hu
  obtain ⟨v7, us, rfl, h7, hu⟩ := dps_cons hu
  obtain ⟨v8, us, rfl, h8, hu⟩ := dps_cons hu
  obtain rfl := dps_nil hu
  replace h2 := x1.dp h2
  refine wb_if (k := false) (Wt.is (wt_val (wd_call f_is_worded hr (by decide) (T.ext x1) (wa_cons (wd_var 2 rfl h2) (wa_cons wd_str (wa_cons wd_int wa_nil))) ⟨⟨_, _, _⟩, show (0 : Int) < 2 by decide, rfl, rfl⟩)) ?_) (fun hk => nomatch hk) fun _ H2 x2 => ?_
  · show isWorded _ _ _ = false
    rfl
  have x := x1.trans x2
  replace h2 := x2.dp h2; replace h3 := x2.dp h3; replace h4 := x2.dp h4; replace h5 := x2.dp h5; replace h6 := x2.dp h6; replace h7 := x2.dp h7; replace h8 := x2.dp h8
  have tx := T.ext x
  refine wb_nil (wb_if (k := false) (wt_w (ww_or (k := false) (wt_not (k := true) (Wt.is (wt_val (wd_call f_is_worded hr (by decide) tx (wa_cons (wd_var 2 rfl h2) (wa_cons wd_str (wa_cons wd_int wa_nil))) ⟨⟨_, _, _⟩, show (0 : Int) < 3 by decide, rfl, rfl⟩)) ?_)) fun _ => ww_or (k := false) (wt_not (k := true) (Wt.is (wt_val (wd_call f_is_quotient_row hr (by decide) tx (wa_cons (wd_ixT rfl (wd_var 2 rfl h2) wd_int) (wa_cons (wd_lenT B (wd_var 3 rfl h3)) wa_nil)) ⟨⟨_, _⟩, trivial, rfl, rfl⟩)) ?_)) fun _ => ww_or1 (wt_not (k := true) (Wt.is (wt_val (wd_call f_is_quotient hr (by decide) tx (wa_cons (wd_ixT rfl (wd_var 2 rfl h2) wd_int) wa_nil) ⟨_, trivial, rfl, rfl⟩)) ?_)))) (fun hk => nomatch hk) fun _ H3 x3 => ?_)
  · show isWorded _ _ _ = true
    rw [worded3]
    decide +kernel
  · show isQRow _ (.tuple (ws0.map encQ)) = true
    simp only [isQRow, List.length_map, hp.len, decide_true, Bool.true_and, List.all_map]
    exact hp.isq
  · exact hp.isw
  replace h2 := x3.dp h2; replace h3 := x3.dp h3; replace h4 := x3.dp h4; replace h5 := x3.dp h5; replace h6 := x3.dp h6; replace h7 := x3.dp h7; replace h8 := x3.dp h8
  replace x := x.trans x3
  refine wb_nil (wb_set (P := fun v H' => Dp K H' v (encQ w0)) 9 nd (wd_ixT rfl (wd_var 2 rfl h2) wd_int) fun v9 H4 x4 h9 => ?_)
  replace h2 := x4.dp h2; replace h3 := x4.dp h3; replace h4 := x4.dp h4; replace h5 := x4.dp h5; replace h6 := x4.dp h6; replace h7 := x4.dp h7; replace h8 := x4.dp h8
  replace x := x.trans x4
  refine wb_if (k := false) (wt_w (ww_or (k := false) (Wt.is (wt_cmp cm_lt (wd_ixT rfl (wd_var 9 rfl h9) wd_int) wd_int) (decide_eq_false (by have := hp.w0; omega))) fun _ => ww_or1 (wt_w (Ww.is (ww_and (wt_cmp cm_isN (wd_var 8 rfl h8) wd_non) fun hk => ww_and1 (wt_cmp cm_neI (wd_ixT rfl (wd_var 9 rfl h9) wd_int) wd_int)) ?_)))) (fun hk => nomatch hk) fun _ H5 x5 => ?_
  · cases hb : bound with
    | none => simp [encO, isNone, hp.wn hb]
    | some b => simp [encO, isNone]
  replace h2 := x5.dp h2; replace h3 := x5.dp h3; replace h4 := x5.dp h4; replace h5 := x5.dp h5; replace h6 := x5.dp h6; replace h7 := x5.dp h7; replace h8 := x5.dp h8; replace h9 := x5.dp h9
  replace x := x.trans x5
  refine wb_nil (wb_set (P := fun v H' => Dp K H' v (encQ (foundQ rows due lows highs costs ws0 w0 0))) 10 nd (wd_call f_dot hr (by decide) (T.ext x) (wa_cons (wd_var 4 rfl h4) (wa_cons (wd_ixT rfl (wd_var 2 rfl h2) wd_int) wa_nil)) ⟨⟨true, due, true, ws0⟩, hp.d0, rfl, rfl⟩) fun v10 H6 x6 h10 => ?_)
  replace h2 := x6.dp h2; replace h3 := x6.dp h3; replace h4 := x6.dp h4; replace h5 := x6.dp h5; replace h6 := x6.dp h6; replace h7 := x6.dp h7; replace h8 := x6.dp h8; replace h9 := x6.dp h9
  replace x := x.trans x6
  have ll := hp.ll
  refine wb_for [11] (fun (k : Nat) => [.int (k : Int)]) (fun H2 i σ' H' => Ext H2 H' ∧ ∃ vf u11 u12 u13, σ' = [some (.ref a0), some v1, some v2, some v3, some v4, some v5, some v6, some v7, some v8, some v9, some vf, u11, u12, u13] ∧ Dp K H' vf (encQ (foundQ rows due lows highs costs ws0 w0 i))) (src_range (M := Ext) (n := lows.length) B (Wd.is (wd_lenT B (wd_var 5 rfl h5)) (by rw [List.length_map])) (by omega)) PassesOwn.never rfl (fun x _ => gj_nm 11 nd) ?_ ?_ ?_ ?_
  · intro H7 x7
    exact ⟨Ext.refl _, v10, none, none, none, rfl, x7.dp h10⟩
  · intro H7 i σ' H' ⟨y, _⟩
    exact y
  · intro H7 i k σ' H' H'' ws y hk ⟨y1, vf, u11, u12, u13, e, df⟩ y2 hw
    obtain ⟨v11, ws, rfl, h11, hw⟩ := dps_cons hw
    obtain rfl := dps_nil hw
    subst e
    have hik : k = i ∧ i < lows.length := by
      obtain ⟨q1, q2⟩ := List.getElem?_eq_some_iff.mp hk
      rw [List.length_range] at q1
      rw [List.getElem_range] at q2
      exact ⟨q2.symm, q1⟩
    obtain ⟨rfl, hlt⟩ := hik
    have z := (y.trans y1).trans y2
    replace h2 := z.dp h2; replace h3 := z.dp h3; replace h5 := z.dp h5; replace h6 := z.dp h6; replace h7 := z.dp h7; replace h9 := z.dp h9
    replace df := y2.dp df
    have tz := T.ext (x.trans z)
    refine wb_set (P := fun v H' => Dp K H' v (encQ (facQ rows costs ws0 w0 k))) 12 nd (wd_call f_minus hr (by decide) tz (wa_cons (wd_call f_times hr (by decide) tz (wa_cons (wd_var 9 rfl h9) (wa_cons (wd_tup (wa_cons (wd_ixT (atI_ints (by rw [hp.lc]; exact hlt)) (wd_var 7 rfl h7) (wd_var 11 rfl h11)) (wa_cons wd_int wa_nil))) wa_nil)) ⟨⟨w0, (costs.getD k 0, 1)⟩, ⟨hp.qw, qs1 (hp.ck k hlt)⟩, rfl, rfl⟩) (wa_cons (wd_call f_dot hr (by decide) tz (wa_cons (Wl.wd (wl_lc (xs := rows) (enc := tI) [("row", 13)] [13] (fun r => [tI r]) (fun _ => true) (fun r => .int (r.getD k 0)) rfl nd (blkOk_by (N := N_Linear__judge) (sc := defScope s_Linear__judge) (by decide +kernel)) (src_T keeps_ext (wd_var 3 rfl h3)) (by decide) hp.rl (fun _ _ _ => rfl) fun r hr' => turn_x 13 (fun _ => nd) (fun _ => rfl) (fun _ => .inl rfl) (fun _ => .inr rfl) fun z' H' v e hv => ?_)) (wa_cons (wd_ixT rfl (wd_var 2 rfl h2) wd_int) wa_nil)) ⟨⟨false, colI rows k, true, ws0⟩, hp.dk k hlt, ?_, rfl⟩) wa_nil)) ⟨⟨_, _⟩, ⟨hp.tk k hlt, hp.dq k hlt⟩, rfl, rfl⟩) fun v12 H8 x8 h12 => ?_
    · exact wd_ixT (atI_ints (by rw [hp.row r hr']; exact hlt)) (wd_var 13 rfl hv) (wd_var 11 rfl (e.dp h11))
    · rw [flt_all]
      show [PyData.list _, _] = [PyData.list ((colI rows k).map .int), _]
      unfold colI
      rw [List.map_map]
      rfl
    replace h5 := x8.dp h5; replace h6 := x8.dp h6; replace h11 := x8.dp h11; replace df := x8.dp df
    have tz := tz.ext x8
    refine wb_set (P := fun v H' => Dp K H' v (encQ (foundQ rows due lows highs costs ws0 w0 (k + 1)))) 10 nd (wd_call f_plus hr (by decide) tz (wa_cons (wd_var 10 rfl df) (wa_cons (wd_call f_least_product hr (by decide) tz (wa_cons (wd_ixT (atI_ints hlt) (wd_var 5 rfl h5) (wd_var 11 rfl h11)) (wa_cons (wd_ixT (atI_ints (by rw [hp.lh]; exact hlt)) (wd_var 6 rfl h6) (wd_var 11 rfl h11)) (wa_cons (wd_var 12 rfl h12) wa_nil))) ⟨⟨lows.getD k 0, highs.getD k 0, facQ rows costs ws0 w0 k⟩, hp.lk k hlt, rfl, rfl⟩) wa_nil)) ⟨⟨_, _⟩, ⟨hp.fk k (by omega), hp.qk k hlt⟩, rfl, rfl⟩) fun v10' H9 x9 h10' => ?_
    exact wb_nil ⟨((y1.trans y2).trans x8).trans x9, v10', some v11, some v12, u13, rfl, h10'⟩
  · intro H7 σ' H' y ⟨y1, vf, u11, u12, u13, e, df⟩
    subst e
    rw [List.length_range] at df
    have z := y.trans y1
    replace h8 := z.dp h8; replace h9 := z.dp h9
    have tz := T.ext (x.trans z)
    refine wb_ret (wd_call f_is_less hr (by decide) tz (wa_cons (d := encQ (leftQ bound w0)) (wd_if (wt_cmp cm_isN (wd_var 8 rfl h8) wd_non) (fun hk => ?_) (fun hk => ?_)) (wa_cons (wd_var 10 rfl df) wa_nil)) ⟨⟨_, _⟩, ⟨hp.lq, hp.fk _ (Nat.le_refl _)⟩, rfl, rfl⟩) (fun v H'' y3 dv => hD v H'' ((x.trans z).trans y3) dv)
    · cases hb : bound with
      | none => exact wd_tup (wa_cons wd_int (wa_cons wd_int wa_nil))
      | some b => rw [hb] at hk; simp [encO, isNone] at hk
    · cases hb : bound with
      | none => rw [hb] at hk; simp [encO, isNone] at hk
      | some b =>
        rw [hb] at h8
        exact wd_call f_times hr (by decide) tz (wa_cons (wd_var 9 rfl h9) (wa_cons (wd_tup (wa_cons (wd_var 8 rfl h8) (wa_cons wd_int wa_nil))) wa_nil)) ⟨⟨w0, (b, 1)⟩, ⟨hp.qw, qs1 (hp.bs b hb)⟩, rfl, rfl⟩

end Hd


set_option Elab.async false
set_option linter.all false
set_option maxRecDepth 100000
set_option maxHeartbeats 4000000
namespace Hd
open PySem PySem.Spec PyProof.Rows L2 FW
variable {P : Program} {w : World} {K : PySem.W.Frag} {mg : Str → Option Value} {base : Heap} {cs : List (Addr × Addr)}

/-! ### shortest lengths -/
abbrev Fm := List (Int × Q2)
def relaxM (m : Fm) (i j : Int) (len : Q2) : Fm := match getM m i with
  | none => m
  | some a => match getM m j with
    | none => putM m j (plusQ a len)
    | some b => if lessQ (plusQ a len) b = true then putM m j (plusQ a len) else m
def relax2 (m : Fm) (z : Arc × Q2) : Fm := relaxM (relaxM m z.1.1 z.1.2.1 z.2) z.1.2.1 z.1.1 z.2
def roundM (zs : List (Arc × Q2)) (m : Fm) : Fm := zs.foldl relax2 m
def farM (zs : List (Arc × Q2)) (s : Int) : Nat → Fm
  | 0 => [(s, (0, 1))]
  | k + 1 => roundM zs (farM zs s k)
def encM (m : Fm) : List (Int × PyData) := m.map fun p => (p.1, encQ p.2)
def encOQ : Option Q2 → PyData
  | none => .none
  | some q => encQ q
theorem getM_enc {k : Int} : ∀ {m : Fm}, getM (encM m) k = (getM m k).map encQ
  | [] => rfl
  | p :: m => by
    show getM ((p.1, encQ p.2) :: encM m) k = _
    rw [getM_cons, getM_cons, getM_enc (m := m)]
    by_cases h : p.1 = k <;> simp [h]
theorem putM_enc {k : Int} {q : Q2} {m : Fm} : putM (encM m) k (encQ q) = encM (putM m k q) := by
  have h : ((encM m).any fun p => decide (p.1 = k)) = (m.any fun p => decide (p.1 = k)) := by
    rw [getM_any, getM_any, getM_enc]
    cases getM m k <;> rfl
  unfold putM
  rw [h]
  by_cases e : (m.any fun p => decide (p.1 = k)) = true
  · rw [if_pos e, if_pos e]
    unfold encM
    rw [List.map_map, List.map_map]
    apply List.map_congr_left
    intro p _
    show (if p.1 = k then (p.1, encQ q) else (p.1, encQ p.2)) = ((if p.1 = k then (p.1, q) else p).1, encQ (if p.1 = k then (p.1, q) else p).2)
    by_cases z : p.1 = k
    · rw [if_pos z, if_pos z]
    · rw [if_neg z, if_neg z]
  · rw [if_neg e, if_neg e]
    unfold encM
    rw [List.map_append]
    rfl
theorem encM_frz {m : Fm} : ∀ p ∈ encM m, frz p.2 = true := by
  intro p hp
  unfold encM at hp
  obtain ⟨q, _, rfl⟩ := List.mem_map.mp hp
  rfl
theorem encM_len {m : Fm} : (encM m).length = m.length := List.length_map ..
theorem relaxM_len {m : Fm} {i j : Int} {len : Q2} : (relaxM m i j len).length ≤ m.length + 1 := by
  unfold relaxM
  split
  · omega
  · split
    · exact putM_len
    · split
      · exact putM_len
      · omega
structure FarOk (zs : List (Arc × Q2)) (s : Int) (n : Nat) : Prop where
  ex : ∃ Good : Nat → Fm → Prop, Good 0 [(s, (0, 1))] ∧ ∀ t m z, z ∈ zs → t < 2 * (n * zs.length) → Good t m → ∀ i j, (i = z.1.1 ∧ j = z.1.2.1) ∨ (i = z.1.2.1 ∧ j = z.1.1) →
    Good (t + 1) (relaxM m i j z.2) ∧ qs z.2 ∧ (∀ a, getM m i = some a → qs a ∧ qs (plusQ a z.2)) ∧ ∀ b, getM m j = some b → qs b
  few : 2 * (n * zs.length) < 90000
theorem roundM_take {zs : List (Arc × Q2)} {m : Fm} {i : Nat} {z : Arc × Q2} (h : zs[i]? = some z) : roundM (zs.take (i + 1)) m = relax2 (roundM (zs.take i) m) z := by
  unfold roundM
  rw [List.take_add_one, h, List.foldl_append]
  rfl
theorem fz_of_dk {H1 H' : Hp} {p : Addr} (hp : ∃ kvs, H1 p = some (.dK kvs)) (x : ExtB (· = p) H1 H') : Fz H1 H' := by
  obtain ⟨kvs, e⟩ := hp
  exact ⟨fun b xs h => x.keep b _ (fun z => by rw [show b = p from z, e] at h; cases h) h (fun _ z => by cases z), fun b o u h => x.keep b _ (fun z => by rw [show b = p from z, e] at h; cases h) h (fun _ z => by cases z)⟩
theorem frz_arcs {arcs : List Arc} : frzs (arcs.map encA) = true := by
  rw [frzs_iff]
  intro d hd
  obtain ⟨a, _, rfl⟩ := List.mem_map.mp hd
  rfl
theorem frz_qs {ws : List Q2} : frzs (ws.map encQ) = true := by
  rw [frzs_iff]
  intro d hd
  obtain ⟨a, _, rfl⟩ := List.mem_map.mp hd
  rfl
/-- the state of far_from: t steps done -/
structure FarSt (K : PySem.W.Frag) (H1 : Hp) (p : Addr) (Good : Nat → Fm → Prop) (t : Nat) (m : Fm) (H' : Hp) : Prop where
  x : ExtB (· = p) H1 H'
  d : Dk K H' p (encM m)
  g : Good t m
  l : m.length ≤ t + 1
theorem FarSt.ext {K : PySem.W.Frag} {H1 : Hp} {p : Addr} {Good : Nat → Fm → Prop} {t : Nat} {m : Fm} {H' H'' : Hp} (h : FarSt K H1 p Good t m H') (x : Ext H' H'') : FarSt K H1 p Good t m H'' := ⟨h.x.trans (.of x), h.d.ext x, h.g, h.l⟩

abbrev N_far_from : List Str := ["n", "ties", "lengths", "start", "far", "step", "i", "j", "c", "length", "one", "two", "reach", "v"]
theorem sc_far_from : FnScope N_far_from ["n", "ties", "lengths", "start"] (defScope s_far_from) := ⟨rfl, rfl, rfl, by decide +kernel, rfl, by decide +kernel, by decide +kernel⟩
abbrev R_far_from : List PyData → PyData → Prop := Sg (α := Nat × List Arc × List Q2 × Int) (fun ⟨n, ties, lens, s0⟩ => FarOk (ties.zip lens) s0 n ∧ n ≤ 100000) (fun ⟨n, ties, lens, s0⟩ => [.int (n : Int), .tuple (ties.map encA), .tuple (lens.map encQ), .int s0]) (fun ⟨n, ties, lens, s0⟩ => .list ((List.range n).map fun (v : Nat) => encOQ (getM (farM (ties.zip lens) s0 n) (v : Int))))
theorem f_far_from (h : Def1 K mg base cs "far_from" s_far_from false) (B : Bi mg) (f_plus : Fn P w K mg base cs 2 "plus" R_plus) (f_is_less : Fn P w K mg base cs 1 "is_less" R_is_less) : Fn P w K mg base cs 3 "far_from" R_far_from := by
  obtain ⟨f, fd, c, h, hm, hg⟩ := h.ex
  refine fn_data h hm sc_far_from (h.fn.bindsN fun _ _ _ _ _ _ us hl => match us, hl with | [_, _, _, _], _ => rfl) (Sg.len fun _ => rfl) ?_
  intro A outer s H vs E ds d hr hv hF T D hD
  obtain ⟨⟨n, ties, lens, s0⟩, hpre, rfl, rfl⟩ := hF
  obtain ⟨v0, ws, rfl, h0, hv⟩ := dps_cons hv
  obtain ⟨v1, ws, rfl, h1, hv⟩ := dps_cons hv
  obtain ⟨v2, ws, rfl, h2, hv⟩ := dps_cons hv
  obtain ⟨v3, ws, rfl, h3, hv⟩ := dps_cons hv
  obtain rfl := dps_nil hv
  have nd := sc_far_from.nd
  obtain ⟨fok, hn⟩ := (show FarOk (ties.zip lens) s0 n ∧ n ≤ 100000 from hpre)
  obtain ⟨⟨Good, g0, gs⟩, few⟩ := fok
  have hu := hu_of hr
  refine wb_set (P := fun v H' => ∃ p, v = .ref p ∧ H p = none ∧ Dk K H' p [(s0, encQ (0, 1))]) 4 nd (wv_disp1 (wd_var 3 rfl h3) (wd_tup (wa_cons wd_int (wa_cons wd_int wa_nil))) rfl) fun v4 H1 x1 hv4 => ?_
  obtain ⟨p, rfl, hfr, hd0⟩ := hv4
  have hdk : ∃ kvs, H1 p = some (.dK kvs) := let ⟨kvs, e, _⟩ := hd0.ex; ⟨kvs, e⟩
  replace h0 := x1.dp h0; replace h1 := x1.dp h1; replace h2 := x1.dp h2; replace h3 := x1.dp h3
  have T1 := T.ext x1
  refine wb_for (M := Fz) [5] (fun (k : Nat) => [.int (k : Int)]) (fun H2 k σ' H' => Fz H2 H' ∧ FarSt K H1 p Good (2 * (k * (ties.zip lens).length)) (farM (ties.zip lens) s0 k) H' ∧ ∃ u5 u6 u7 u8 u9 u10 u11 u12 u13, σ' = [some v0, some v1, some v2, some v3, some (.ref p), u5, u6, u7, u8, u9, u10, u11, u12, u13]) (src_range (n := n) B (wd_var 0 rfl h0) (by omega) (by omega) (by omega)) PassesOwn.never rfl (fun x _ => gj_nm 5 nd) ?_ ?_ ?_ ?_
  · intro H2 x2
    exact ⟨Fz.refl _, ⟨.of x2, hd0.ext x2, by simpa [farM] using g0, by simp [farM]⟩, _, _, _, _, _, _, _, _, _, rfl⟩
  · intro H2 i σ' H' ⟨y, _⟩
    exact y
  · intro H2 k k' σ' H' H'' ws x2 hk ⟨y1, st, u5, u6, u7, u8, u9, u10, u11, u12, u13, e⟩ y2 hw
    obtain ⟨v5, ws, rfl, h5, hw⟩ := dps_cons hw
    obtain rfl := dps_nil hw
    subst e
    have hkn : k < n := by
      have := (List.getElem?_eq_some_iff.mp hk).1
      rwa [List.length_range] at this
    replace st := st.ext y2
    have fz1 := fz_of_dk hdk st.x
    refine wb_for (M := Fz) [6, 7, 8, 9] (fun z : Arc × Q2 => [.int z.1.1, .int z.1.2.1, .int z.1.2.2, encQ z.2]) (fun H3 e σ' H' => Fz H3 H' ∧ FarSt K H1 p Good (2 * (k * (ties.zip lens).length) + 2 * e) (roundM ((ties.zip lens).take e) (farM (ties.zip lens) s0 k)) H' ∧ ∃ u6 u7 u8 u9 u10 u11 u12 u13, σ' = [some v0, some v1, some v2, some v3, some (.ref p), some v5, u6, u7, u8, u9, u10, u11, u12, u13]) (Src.as (src_zipT B (keeps_fz frz_arcs) (keeps_fz frz_qs) (wd_var 1 rfl (fz1.dp frz_arcs h1)) (wd_var 2 rfl (fz1.dp frz_qs h2))) zipD_map) PassesOwn.never rfl (fun z _ => gj_tup rfl (gj_cons (gj_tup rfl (gj_cons (gj_nm 6 nd) (gj_cons (gj_nm 7 nd) (gj_cons (gj_nm 8 nd) gj_nil)))) (gj_cons (gj_nm 9 nd) gj_nil))) ?_ ?_ ?_ ?_
    · intro H3 x3
      exact ⟨Fz.refl _, by simpa [roundM] using st.ext x3, _, _, _, _, _, _, _, _, rfl⟩
    · intro H3 i σ' H' ⟨y, _⟩
      exact y
    · intro H3 e z σ' H4 H5 ws x3 hz ⟨y3, st, u6, u7, u8, u9, u10, u11, u12, u13, eσ⟩ y4 hw
      obtain ⟨v6, ws, rfl, h6, hw⟩ := dps_cons hw
      obtain ⟨v7, ws, rfl, h7, hw⟩ := dps_cons hw
      obtain ⟨v8, ws, rfl, h8, hw⟩ := dps_cons hw
      obtain ⟨v9, ws, rfl, h9, hw⟩ := dps_cons hw
      obtain rfl := dps_nil hw
      subst eσ
      have hel : e < (ties.zip lens).length := (List.getElem?_eq_some_iff.mp hz).1
      have hzm : z ∈ ties.zip lens := List.mem_of_getElem? hz
      have tb : 2 * (k * (ties.zip lens).length) + 2 * e + 1 < 2 * (n * (ties.zip lens).length) := by
        have q : (k + 1) * (ties.zip lens).length ≤ n * (ties.zip lens).length := Nat.mul_le_mul_right _ hkn
        rw [Nat.succ_mul] at q
        omega
      replace st := st.ext y4
      refine wb_for (M := Fz) [10, 11] (fun q : Int × Int => [.int q.1, .int q.2]) (fun H6 b σ' H' => Fz H6 H' ∧ FarSt K H1 p Good (2 * (k * (ties.zip lens).length) + 2 * e + b) ((([(z.1.1, z.1.2.1), (z.1.2.1, z.1.1)] : List (Int × Int)).take b).foldl (fun m q => relaxM m q.1 q.2 z.2) (roundM ((ties.zip lens).take e) (farM (ties.zip lens) s0 k))) H' ∧ ∃ u10 u11 u12 u13, σ' = [some v0, some v1, some v2, some v3, some (.ref p), some v5, some v6, some v7, some v8, some v9, u10, u11, u12, u13]) (xs := [(z.1.1, z.1.2.1), (z.1.2.1, z.1.1)]) (enc := fun q => .tuple [.int q.1, .int q.2]) (src_T (keeps_fz rfl) (wd_tup (wa_cons (wd_tup (wa_cons (wd_var 6 rfl h6) (wa_cons (wd_var 7 rfl h7) wa_nil))) (wa_cons (wd_tup (wa_cons (wd_var 7 rfl h7) (wa_cons (wd_var 6 rfl h6) wa_nil))) wa_nil)))) PassesOwn.never rfl (fun q _ => gj_tup rfl (gj_cons (gj_nm 10 nd) (gj_cons (gj_nm 11 nd) gj_nil))) ?_ ?_ ?_ ?_
      · intro H6 x6
        exact ⟨Fz.refl _, by simpa using st.ext x6, _, _, _, _, rfl⟩
      · intro H6 i σ' H' ⟨y, _⟩
        exact y
      · intro H6 b q σ' H7 H8 ws x6 hq ⟨y6, st, u10, u11, u12, u13, eσ⟩ y7 hw
        obtain ⟨v10, ws, rfl, h10, hw⟩ := dps_cons hw
        obtain ⟨v11, ws, rfl, h11, hw⟩ := dps_cons hw
        obtain rfl := dps_nil hw
        subst eσ
        have hbl : b < 2 := (List.getElem?_eq_some_iff.mp hq).1
        have hqm : (q.1 = z.1.1 ∧ q.2 = z.1.2.1) ∨ (q.1 = z.1.2.1 ∧ q.2 = z.1.1) := by
          have := List.mem_of_getElem? hq
          simp only [List.mem_cons, List.not_mem_nil, or_false] at this
          rcases this with rfl | rfl
          · exact .inl ⟨rfl, rfl⟩
          · exact .inr ⟨rfl, rfl⟩
        have tk : ∀ m0 : Fm, (([(z.1.1, z.1.2.1), (z.1.2.1, z.1.1)] : List (Int × Int)).take (b + 1)).foldl (fun m q => relaxM m q.1 q.2 z.2) m0 = relaxM ((([(z.1.1, z.1.2.1), (z.1.2.1, z.1.1)] : List (Int × Int)).take b).foldl (fun m q => relaxM m q.1 q.2 z.2) m0) q.1 q.2 z.2 := fun m0 => by
          rw [List.take_add_one, hq, List.foldl_append]
          rfl
        rw [tk]
        generalize (([(z.1.1, z.1.2.1), (z.1.2.1, z.1.1)] : List (Int × Int)).take b).foldl (fun m q => relaxM m q.1 q.2 z.2) (roundM ((ties.zip lens).take e) (farM (ties.zip lens) s0 k)) = m at st ⊢
        obtain ⟨gg, qz, qa, qb⟩ := gs _ m z hzm (by omega) st.g q.1 q.2 hqm
        replace st := st.ext y7
        have fz6 : Fz H5 H8 := (x6.toFz.trans y6).trans y7.toFz
        have h9' := fz6.dp (d := encQ z.2) rfl h9
        have hl : m.length ≤ 90001 := by have := st.l; omega
        have key : ∀ H9, Ext H8 H9 → relaxM m q.1 q.2 z.2 = m → FarSt K H1 p Good (2 * (k * (ties.zip lens).length) + 2 * e + b + 1) (relaxM m q.1 q.2 z.2) H9 := fun H9 x9 em => ⟨(st.ext x9).x, by rw [em]; exact (st.ext x9).d, gg, by rw [em]; have := st.l; omega⟩
        refine wb_if (wt_din hu st.d (wd_var 10 rfl h10) (wr_var 4 rfl)) (fun hk1 H9 x9 => ?_) (fun hk1 H9 x9 => ?_)
        · rw [getM_enc] at hk1
          obtain ⟨a, ha⟩ : ∃ a, getM m q.1 = some a := by
            cases h : getM m q.1 with
            | none => rw [h] at hk1; cases hk1
            | some a => exact ⟨a, rfl⟩
          obtain ⟨qa1, qa2⟩ := qa a ha
          have st9 := st.ext x9
          have T9 : Tabs cs H9 := fun c hc => st9.x.tab _ (T1 c hc)
          refine wb_set (P := fun v H' => Dp K H' v (encQ (plusQ a z.2))) 12 nd (wd_call f_plus hr (by decide) T9 (wa_cons (wd_dget hu st9.d (wr_var 4 rfl) (wd_var 10 rfl (x9.dp h10)) (by rw [getM_enc, ha]; rfl)) (wa_cons (wd_var 9 rfl (x9.dp h9')) wa_nil)) ⟨⟨a, z.2⟩, ⟨qa1, qz⟩, rfl, rfl⟩) fun v12 H10 x10 h12 => ?_
          have st10 := st9.ext x10
          have T10 := T9.ext x10
          have h11' := (x9.trans x10).dp h11
          refine wb_if (k := match getM m q.2 with | none => true | some b => lessQ (plusQ a z.2) b) (wt_w ?_) (fun hk2 H11 x11 => ?_) (fun hk2 H11 x11 => ?_)
          · cases hb : getM m q.2 with
            | none =>
              have e1 : (!(getM (encM m) q.2).isSome) = true := by rw [getM_enc, hb]; rfl
              refine Ww.is (ww_or (k' := true) (wt_dnin hu st10.d (wd_var 11 rfl h11') (wr_var 4 rfl)) (fun hh => ?_)) (by rw [e1]; rfl)
              rw [e1] at hh
              cases hh
            | some b0 =>
              have e1 : (!(getM (encM m) q.2).isSome) = false := by rw [getM_enc, hb]; rfl
              refine Ww.is (ww_or (k' := lessQ (plusQ a z.2) b0) (wt_dnin hu st10.d (wd_var 11 rfl h11') (wr_var 4 rfl)) (fun hh => ww_or1 (wt_val (wd_call f_is_less hr (by decide) T10 (wa_cons (wd_var 12 rfl h12) (wa_cons (wd_dget hu st10.d (wr_var 4 rfl) (wd_var 11 rfl h11') (by rw [getM_enc, hb]; rfl)) wa_nil)) ⟨⟨plusQ a z.2, b0⟩, ⟨qa2, qb b0 hb⟩, rfl, rfl⟩)))) (by rw [e1]; rfl)
          · have st11 := st10.ext x11
            have er : relaxM m q.1 q.2 z.2 = putM m q.2 (plusQ a z.2) := by
              unfold relaxM
              rw [ha]
              cases hb : getM m q.2 with
              | none => rfl
              | some b0 => rw [hb] at hk2; exact if_pos hk2
            refine wb_dput hu st11.d (by rw [encM_len]; omega) (wd_var 12 rfl (x11.dp h12)) (wr_var 4 rfl) (wd_var 11 rfl (x11.dp h11')) encM_frz rfl fun H12 kvs' x12 ⟨kvs0, e0⟩ dk => ?_
            refine wb_nil (wb_nil (wb_nil ⟨?_, ⟨?_, ?_, ?_, ?_⟩, _, _, _, _, rfl⟩))
            · exact (y6.trans y7.toFz).trans ((((x9.trans x10).trans x11).trans x12).toFz.trans (Fz.dk e0))
            · exact (st11.ext x12).x.trans (ExtB.upd (S := (· = p)) rfl e0 (fun _ z => by cases z))
            · rw [er, ← putM_enc]; exact dk
            · exact gg
            · have := relaxM_len (m := m) (i := q.1) (j := q.2) (len := z.2)
              have := st.l
              omega
          · have er : relaxM m q.1 q.2 z.2 = m := by
              unfold relaxM
              rw [ha]
              cases hb : getM m q.2 with
              | none => rw [hb] at hk2; cases hk2
              | some b0 => rw [hb] at hk2; exact if_neg (by rw [show lessQ (plusQ a z.2) b0 = false from hk2]; decide)
            exact wb_nil (wb_nil (wb_nil ⟨(y6.trans y7.toFz).trans ((x9.trans x10).trans x11).toFz, key H11 ((x9.trans x10).trans x11) er, _, _, _, _, rfl⟩))
        · have er : relaxM m q.1 q.2 z.2 = m := by
            rw [getM_enc] at hk1
            unfold relaxM
            cases h : getM m q.1 with
            | none => rfl
            | some a => rw [h] at hk1; cases hk1
          exact wb_nil (wb_nil ⟨(y6.trans y7.toFz).trans x9.toFz, key H9 x9 er, _, _, _, _, rfl⟩)
      · intro H6 σ' H7 x6 ⟨y6, st, u10, u11, u12, u13, eσ⟩
        subst eσ
        refine wb_nil ⟨((y3.trans y4.toFz).trans x6.toFz).trans y6, ?_, _, _, _, _, _, _, _, _, rfl⟩
        rw [roundM_take hz]
        exact st
    · intro H3 σ' H4 x3 ⟨y3, st, u6, u7, u8, u9, u10, u11, u12, u13, eσ⟩
      subst eσ
      refine wb_nil ⟨((y1.trans y2.toFz).trans x3.toFz).trans y3, ?_, _, _, _, _, _, _, _, _, _, rfl⟩
      rw [List.take_length] at st
      have e : 2 * (k * (ties.zip lens).length) + 2 * (ties.zip lens).length = 2 * ((k + 1) * (ties.zip lens).length) := by have := Nat.add_one_mul k (ties.zip lens).length; omega
      rw [e] at st
      exact st
  · intro H2 σ' H' x2 ⟨y1, st, u5, u6, u7, u8, u9, u10, u11, u12, u13, e⟩
    subst e
    rw [List.length_range] at st
    have fz1 := fz_of_dk hdk st.x
    refine wb_ret (P := fun v H' => Dp K H' v (.list ((List.range n).map fun (v : Nat) => encOQ (getM (farM (ties.zip lens) s0 n) (v : Int))))) (Wd.is (Wl.wd (wl_lc (xs := List.range n) (enc := fun (k : Nat) => .int (k : Int)) [("v", 13)] [13] (fun (k : Nat) => [.int (k : Int)]) (fun _ => true) (fun (k : Nat) => encOQ (getM (farM (ties.zip lens) s0 n) (k : Int))) rfl nd (blkOk_by (N := N_far_from) (sc := defScope s_far_from) (by decide +kernel)) (src_range (n := n) B (wd_var 0 rfl (fz1.dp rfl h0)) (by omega) (by omega) (by omega)) (by decide) (by rw [List.length_range]; exact hn) (fun k _ _ => by cases getM (farM (ties.zip lens) s0 n) (k : Int) <;> rfl) fun k hk => turn_x 13 (fun _ => nd) (fun _ => rfl) (fun _ => .inl rfl) (fun _ => .inr rfl) fun z H' v e hv => ?_)) (by rw [flt_all])) (fun v H'' y2 dv => hD v H'' ?_ dv)
    · refine Wd.is (wd_dgetm hu (st.d.ext e) (wr_var 4 rfl) (wd_var 13 rfl hv) ⟨by rfl, by rfl, by rfl, by rfl⟩) ?_
      rw [getM_enc]
      cases getM (farM (ties.zip lens) s0 n) (k : Int) <;> rfl
    · exact (ExtB.ext st.x x1 (fun b hb => by rw [show b = p from hb]; exact hfr)).trans y2

end Hd


set_option Elab.async false
set_option linter.all false
set_option maxRecDepth 100000
set_option maxHeartbeats 4000000
namespace Hd
open PySem PySem.Spec PyProof.Rows L2 FW
variable {P : Program} {w : World} {K : PySem.W.Frag} {mg : Str → Option Value} {base : Heap} {cs : List (Addr × Addr)}

/-! ### orders -/
def prodsO (zs : List (Arc × Q2)) : List Q2 := zs.map fun z => timesQ (z.1.2.2, 1) z.2
def ordLoop (zs : List (Arc × Q2)) (n : Nat) : List Arc → Q2 → Bool
  | [], f => decide (f.1 < 0)
  | o :: r, f => match getM (farM zs o.1 n) o.2.1 with
    | none => true
    | some q => ordLoop zs n r (minusQ f (timesQ (o.2.2, 1) q))
def RunOk (zs : List (Arc × Q2)) (n : Nat) : List Arc → Q2 → Prop
  | [], _ => True
  | o :: r, f => match getM (farM zs o.1 n) o.2.1 with
    | none => True
    | some q => qs f ∧ sm o.2.2 ∧ qs q ∧ qs (timesQ (o.2.2, 1) q) ∧ RunOk zs n r (minusQ f (timesQ (o.2.2, 1) q))
structure OrdOk (n : Nat) (ties orders : List Arc) (lens : List Q2) : Prop where
  isq : lens.all (fun q => isQ (encQ q)) = true
  len : lens.length = ties.length
  pos : ∀ q ∈ lens, 0 ≤ q.1
  nn : n ≤ 100000
  tl : ties.length ≤ 100000
  it : ∀ z ∈ ties.zip lens, sm z.1.2.2 ∧ qs z.2
  tot : ∀ i, qs (totalQ ((prodsO (ties.zip lens)).take i))
  each : ∀ x ∈ prodsO (ties.zip lens), qs x
  far : ∀ o ∈ orders, FarOk (ties.zip lens) o.1 n ∧ 0 ≤ o.2.1 ∧ o.2.1 < n
  run : RunOk (ties.zip lens) n orders (totalQ (prodsO (ties.zip lens)))
theorem drop_at {α : Type} {xs : List α} {i : Nat} {x : α} (h : xs[i]? = some x) : xs.drop i = x :: xs.drop (i + 1) := by
  obtain ⟨hi, e⟩ := List.getElem?_eq_some_iff.mp h
  rw [← e]
  exact List.drop_eq_getElem_cons hi
theorem atI_range {n : Nat} {f : Nat → PyData} {v : Int} (h0 : 0 ≤ v) (h1 : v < n) : atI ((List.range n).map f) v = some (f v.toNat) := by
  have e : ((v.toNat : Nat) : Int) = v := Int.toNat_of_nonneg h0
  rw [← e]
  refine atI_nat ?_
  rw [List.getElem?_map, List.getElem?_range (by omega)]
  rw [e]
  rfl

abbrev N_Orders__judge : List Str := ["self", "data", "value", "n", "ties", "orders", "found", "u", "v", "d", "far", "one", "tie"]
theorem sc_Orders__judge : FnScope N_Orders__judge ["self", "data", "value"] (defScope s_Orders__judge) := ⟨rfl, rfl, rfl, by decide +kernel, rfl, by decide +kernel, by decide +kernel⟩
abbrev R_Orders__judge : List PyData → PyData → Prop := Sg (α := Nat × List Arc × List Arc × List Q2) (fun ⟨n, ties, orders, lens⟩ => OrdOk n ties orders lens) (fun ⟨n, ties, orders, lens⟩ => [.tuple [.int (n : Int), .tuple (ties.map encA), .tuple (orders.map encA)], .tuple [.str "lengths", .tuple (lens.map encQ)]]) (fun ⟨n, ties, orders, lens⟩ => .bool (ordLoop (ties.zip lens) n orders (totalQ (prodsO (ties.zip lens)))))
theorem f_Orders__judge {C : Addr} (h : Def2 K mg base cs C "judge" "Orders.judge" s_Orders__judge true) (B : Bi mg) (f_is_worded : Fn P w K mg base cs 1 "is_worded" R_is_worded) (f_is_quotient_row : Fn P w K mg base cs 6 "is_quotient_row" R_is_quotient_row) (f_times : Fn P w K mg base cs 2 "times" R_times) (f_total : Fn P w K mg base cs 3 "total" R_total) (f_far_from : Fn P w K mg base cs 3 "far_from" R_far_from) (f_minus : Fn P w K mg base cs 2 "minus" R_minus) : Mt P w K mg base cs 8 C "judge" R_Orders__judge := by
  obtain ⟨f, fd, c, h, hcl, hme, hg⟩ := h.ex
  obtain ⟨T0, hT0, TB⟩ := hg rfl
  refine mt_data h hcl hme sc_Orders__judge (h.fn.bindsN fun _ _ _ _ _ _ us hl => match us, hl with | [_, _, _], _ => rfl) (fun ds d e => congrArg (· + 1) (Sg.len (n := 2) (fun _ => rfl) ds d e)) ?_
  intro A outer s H a0 dx0 ws E ds d hr hi hv hF T D hD
  obtain ⟨⟨n, ties, orders, lens⟩, hpre, rfl, rfl⟩ := hF
  obtain ⟨v1, ws, rfl, h1, hv⟩ := dps_cons hv
  obtain ⟨v2, ws, rfl, h2, hv⟩ := dps_cons hv
  obtain rfl := dps_nil hv
  have nd := sc_Orders__judge.nd
  have hp : OrdOk n ties orders lens := hpre
  refine wb_asg (wd_var 1 rfl h1) (gj_tup rfl (gj_cons (gj_nm 3 nd) (gj_cons (gj_nm 4 nd) (gj_cons (gj_nm 5 nd) gj_nil)))) fun us H1 x1 hu => ?_
  obtain ⟨v3, us, rfl, h3, hu⟩ := dps_cons hu
  obtain ⟨v4, us, rfl, h4, hu⟩ := dps_cons hu
  obtain ⟨v5, us, rfl, h5, hu⟩ := dps_cons hu
  obtain rfl := dps_nil hu
  replace h2 := x1.dp h2
  refine wb_if (k := false) (Wt.is (wt_val (wd_call f_is_worded hr (by decide) (T.ext x1) (wa_cons (wd_var 2 rfl h2) (wa_cons wd_str (wa_cons wd_int wa_nil))) ⟨⟨_, _, _⟩, show (0 : Int) < 2 by decide, rfl, rfl⟩)) ?_) (fun hk => nomatch hk) fun _ H2 x2 => ?_
  · show isWorded _ _ _ = false
    rw [worded2]
    decide +kernel
  have x := x1.trans x2
  replace h2 := x2.dp h2; replace h3 := x2.dp h3; replace h4 := x2.dp h4; replace h5 := x2.dp h5
  have tx := T.ext x
  refine wb_nil (wb_if (k := false) (wt_w (ww_or (k := false) (wt_not (k := true) (Wt.is (wt_val (wd_call f_is_worded hr (by decide) tx (wa_cons (wd_var 2 rfl h2) (wa_cons wd_str (wa_cons wd_int wa_nil))) ⟨⟨_, _, _⟩, show (0 : Int) < 2 by decide, rfl, rfl⟩)) ?_)) fun _ => ww_or1 (wt_not (k := true) (Wt.is (wt_val (wd_call f_is_quotient_row hr (by decide) tx (wa_cons (wd_ixT rfl (wd_var 2 rfl h2) wd_int) (wa_cons (wd_lenT B (wd_var 4 rfl h4)) wa_nil)) ⟨⟨_, _⟩, trivial, rfl, rfl⟩)) ?_)))) (fun hk => nomatch hk) fun _ H3 x3 => ?_)
  · show isWorded _ _ _ = true
    rw [worded2]
    decide +kernel
  · show isQRow _ (.tuple (lens.map encQ)) = true
    simp only [isQRow, List.length_map, hp.len, decide_true, Bool.true_and, List.all_map]
    exact hp.isq
  replace h2 := x3.dp h2; replace h3 := x3.dp h3; replace h4 := x3.dp h4; replace h5 := x3.dp h5
  replace x := x.trans x3
  refine wb_nil (wb_if (k := false) (Wt.is (wt_val (wd_any (xs := lens) (enc := encQ) [("one", 11)] [11] (fun q => [encQ q]) (fun _ => true) (fun q => decide (q.1 < 0)) B hr TB h.code (T.ext x) hT0 nd (gsc_by (N := N_Orders__judge) (sc := defScope s_Orders__judge) (by decide +kernel)) (src_T keeps_ext (wd_ixT rfl (wd_var 2 rfl h2) wd_int)) (by decide) fun q hq => turn_x 11 (fun _ => nd) (fun _ => rfl) (fun _ => .inl rfl) (fun _ => .inr rfl) fun z H' v e hv => ?_)) ?_) (fun hk => nomatch hk) fun _ H4 x4 => ?_)
  · exact wd_cmp cm_lt (wd_ixT rfl (wd_var 11 rfl hv) wd_int) wd_int
  · rw [flt_all, List.any_eq_false]
    intro q hq
    have := hp.pos q hq
    simp
    omega
  replace h2 := x4.dp h2; replace h3 := x4.dp h3; replace h4 := x4.dp h4; replace h5 := x4.dp h5
  replace x := x.trans x4
  refine wb_nil (wb_set (P := fun v H' => Dp K H' v (encQ (totalQ (prodsO (ties.zip lens))))) 6 nd (wd_call f_total hr (by decide) (T.ext x) (wa_cons (wd_tupG (xs := ties.zip lens) (enc := fun z => .tuple [encA z.1, encQ z.2]) [("one", 11), ("tie", 12)] [12, 11] (fun z => [encA z.1, encQ z.2]) (fun _ => true) (fun z => encQ (timesQ (z.1.2.2, 1) z.2)) B hr TB h.code (T.ext x) hT0 nd (gsc_by (N := N_Orders__judge) (sc := defScope s_Orders__judge) (by decide +kernel)) (Src.as (src_zipT B keeps_ext keeps_ext (wd_var 4 rfl h4) (wd_ixT rfl (wd_var 2 rfl h2) wd_int)) zipD_map) (by decide) ?_ fun z hz => turn_nil (fun i => gj_tup rfl (gj_cons (gj_nm 12 nd) (gj_cons (gj_nm 11 nd) gj_nil))) fun i H' ws e dw => ?_) wa_nil) ⟨⟨true, prodsO (ties.zip lens)⟩, ⟨hp.tot, hp.each⟩, ?_, rfl⟩) fun v6 H5 x5 h6 => ?_)
  · rw [List.length_zip]
    have := hp.tl
    omega
  · obtain ⟨v12, ws, rfl, h12, dw⟩ := dps_cons dw
    obtain ⟨v11, ws, rfl, h11, dw⟩ := dps_cons dw
    obtain rfl := dps_nil dw
    exact wd_call f_times i.2 (by decide) (T.ext (x.trans e)) (wa_cons (wd_tup (wa_cons (wd_ixT rfl (wd_var 12 rfl h12) wd_int) (wa_cons wd_int wa_nil))) (wa_cons (wd_var 11 rfl h11) wa_nil)) ⟨⟨(z.1.2.2, 1), z.2⟩, ⟨qs1 (hp.it z hz).1, (hp.it z hz).2⟩, rfl, rfl⟩
  · rw [flt_all]
    show [PyData.tuple _] = [PyData.tuple ((prodsO (ties.zip lens)).map encQ)]
    unfold prodsO
    rw [List.map_map]
    rfl
  replace h2 := x5.dp h2; replace h3 := x5.dp h3; replace h4 := x5.dp h4; replace h5 := x5.dp h5
  replace x := x.trans x5
  refine wb_for [7, 8, 9] (fun o : Arc => [.int o.1, .int o.2.1, .int o.2.2]) (fun H2 i σ' H' => Ext H2 H' ∧ ∃ vf ff u7 u8 u9 u10 u11 u12, σ' = [some (.ref a0), some v1, some v2, some v3, some v4, some v5, some vf, u7, u8, u9, u10, u11, u12] ∧ Dp K H' vf (encQ ff) ∧ RunOk (ties.zip lens) n (orders.drop i) ff ∧ ordLoop (ties.zip lens) n (orders.drop i) ff = ordLoop (ties.zip lens) n orders (totalQ (prodsO (ties.zip lens)))) (src_T (M := Ext) keeps_ext (wd_var 5 rfl h5)) PassesOwn.never rfl (fun o _ => gj_tup rfl (gj_cons (gj_nm 7 nd) (gj_cons (gj_nm 8 nd) (gj_cons (gj_nm 9 nd) gj_nil)))) ?_ ?_ ?_ ?_
  · intro H7 x7
    exact ⟨Ext.refl _, v6, _, none, none, none, none, none, none, rfl, x7.dp h6, hp.run, rfl⟩
  · intro H7 i σ' H' ⟨y, _⟩
    exact y
  · intro H7 i o σ' H' H'' ws y ho ⟨y1, vf, ff, u7, u8, u9, u10, u11, u12, eσ, df, run, eq⟩ y2 hw
    obtain ⟨v7, ws, rfl, h7, hw⟩ := dps_cons hw
    obtain ⟨v8, ws, rfl, h8, hw⟩ := dps_cons hw
    obtain ⟨v9, ws, rfl, h9, hw⟩ := dps_cons hw
    obtain rfl := dps_nil hw
    subst eσ
    have om := List.mem_of_getElem? ho
    obtain ⟨fo, b0, b1⟩ := hp.far o om
    rw [drop_at ho] at run eq
    have z := (y.trans y1).trans y2
    replace h2 := z.dp h2; replace h3 := z.dp h3; replace h4 := z.dp h4
    replace df := y2.dp df
    have tz := T.ext (x.trans z)
    have ev : ((o.2.1.toNat : Nat) : Int) = o.2.1 := Int.toNat_of_nonneg b0
    refine wb_set (P := fun v H' => Dp K H' v (encOQ (getM (farM (ties.zip lens) o.1 n) o.2.1))) 10 nd (wd_ixL (by rw [atI_range b0 b1, ev]) (wd_call f_far_from hr (by decide) tz (wa_cons (wd_var 3 rfl h3) (wa_cons (wd_var 4 rfl h4) (wa_cons (wd_ixT rfl (wd_var 2 rfl h2) wd_int) (wa_cons (wd_var 7 rfl h7) wa_nil)))) ⟨⟨n, ties, lens, o.1⟩, ⟨fo, hp.nn⟩, rfl, rfl⟩) (wd_var 8 rfl h8)) fun v10 H8 x8 h10 => ?_
    replace df := x8.dp df
    replace h9 := x8.dp h9
    cases hg : getM (farM (ties.zip lens) o.1 n) o.2.1 with
    | none =>
      rw [hg] at h10
      refine wb_if (k := true) (wt_cmp cm_isN (wd_var 10 rfl h10) wd_non) (fun _ H9 x9 => ?_) (fun hk => nomatch hk)
      refine wb_ret (Wd.is wd_bl ?_) (fun v H'' y3 dv => hD v H'' (((x.trans z).trans x8).trans (x9.trans y3)) dv)
      show PyData.bool true = PyData.bool (ordLoop _ _ _ _)
      rw [← eq]
      unfold ordLoop
      rw [hg]
    | some q =>
      rw [hg] at h10
      unfold RunOk at run
      rw [hg] at run
      have e2 : ordLoop (ties.zip lens) n (o :: orders.drop (i + 1)) ff = ordLoop (ties.zip lens) n (orders.drop (i + 1)) (minusQ ff (timesQ (o.2.2, 1) q)) := by
        show (match getM (farM (ties.zip lens) o.1 n) o.2.1 with | none => true | some q => ordLoop (ties.zip lens) n (orders.drop (i + 1)) (minusQ ff (timesQ (o.2.2, 1) q))) = _
        rw [hg]
      rw [e2] at eq
      obtain ⟨r1, r2, r3, r4, r5⟩ := run
      refine wb_if (k := false) (wt_cmp cm_isN (wd_var 10 rfl h10) wd_non) (fun hk => nomatch hk) (fun _ H9 x9 => ?_)
      replace df := x9.dp df
      replace h9 := x9.dp h9
      replace h10 := x9.dp h10
      have tz := (tz.ext x8).ext x9
      refine wb_nil (wb_set (P := fun v H' => Dp K H' v (encQ (minusQ ff (timesQ (o.2.2, 1) q)))) 6 nd (wd_call f_minus hr (by decide) tz (wa_cons (wd_var 6 rfl df) (wa_cons (wd_call f_times hr (by decide) tz (wa_cons (wd_tup (wa_cons (wd_var 9 rfl h9) (wa_cons wd_int wa_nil))) (wa_cons (wd_var 10 rfl h10) wa_nil)) ⟨⟨(o.2.2, 1), q⟩, ⟨qs1 r2, r3⟩, rfl, rfl⟩) wa_nil)) ⟨⟨_, _⟩, ⟨r1, r4⟩, rfl, rfl⟩) fun v6' H10 x10 h6' => ?_)
      exact wb_nil ⟨(((y1.trans y2).trans x8).trans x9).trans x10, v6', _, _, _, _, _, _, _, rfl, h6', r5, eq⟩
  · intro H7 σ' H' y ⟨y1, vf, ff, u7, u8, u9, u10, u11, u12, eσ, df, run, eq⟩
    subst eσ
    rw [List.drop_length] at eq
    refine wb_ret (Wd.is (wd_cmp cm_lt (wd_ixT rfl (wd_var 6 rfl df) wd_int) wd_int) ?_) (fun v H'' y3 dv => hD v H'' ((x.trans (y.trans y1)).trans y3) dv)
    show PyData.bool (decide (ff.1 < 0)) = PyData.bool (ordLoop _ _ _ _)
    rw [← eq]
    rfl

end Hd


set_option Elab.async false
set_option linter.all false
set_option maxRecDepth 100000
set_option maxHeartbeats 4000000
namespace Hd
open PySem PySem.Spec PyProof.Rows L2 FW
variable {P : Program} {w : World} {K : PySem.W.Frag} {mg : Str → Option Value} {base : Heap} {cs : List (Addr × Addr)}
def kcls : List (Str × Str) := [("flow", "Flow"), ("need", "Need"), ("cost", "Cost"), ("ways", "Ways"), ("places", "Places"), ("transport", "Transport"), ("season", "Season"), ("choice", "Choice"), ("turned", "Turned"), ("grid", "Grid"), ("time", "Time"), ("levels", "Levels"), ("gain", "Gain"), ("orders", "Orders"), ("task", "Task"), ("linear", "Linear")]
def kindsK (K : PySem.W.Frag) : List (Str × Addr) := kcls.map fun q => (q.1, He.ga K q.2)
theorem kinds_trs {K : PySem.W.Frag} : ((kindsK K).map fun q => ((tC (.str q.1), tNew0 q.2) : TE × TE)) = [(tC (.str "flow"), tNew0 (He.ga K "Flow")), (tC (.str "need"), tNew0 (He.ga K "Need")), (tC (.str "cost"), tNew0 (He.ga K "Cost")), (tC (.str "ways"), tNew0 (He.ga K "Ways")), (tC (.str "places"), tNew0 (He.ga K "Places")), (tC (.str "transport"), tNew0 (He.ga K "Transport")), (tC (.str "season"), tNew0 (He.ga K "Season")), (tC (.str "choice"), tNew0 (He.ga K "Choice")), (tC (.str "turned"), tNew0 (He.ga K "Turned")), (tC (.str "grid"), tNew0 (He.ga K "Grid")), (tC (.str "time"), tNew0 (He.ga K "Time")), (tC (.str "levels"), tNew0 (He.ga K "Levels")), (tC (.str "gain"), tNew0 (He.ga K "Gain")), (tC (.str "orders"), tNew0 (He.ga K "Orders")), (tC (.str "task"), tNew0 (He.ga K "Task")), (tC (.str "linear"), tNew0 (He.ga K "Linear"))] := rfl
abbrev N_kind_of : List Str := ["word", "known"]
theorem sc_kind_of : FnScope N_kind_of ["word"] (defScope s_kind_of) := ⟨rfl, rfl, rfl, by decide +kernel, rfl, by decide +kernel, by decide +kernel⟩
theorem lk_known : (defScope s_kind_of).names.lookup ("known" : Str) = some .local := by decide +kernel
theorem lk_word : (defScope s_kind_of).names.lookup ("word" : Str) = some .local := by decide +kernel
theorem f_kind_of (h : Def1 K mg base cs "kind_of" s_kind_of false) (hk : ∀ q ∈ kcls, mg q.2 = some (.ref (He.ga K q.2)) ∧ Mk0 K (He.ga K q.2)) : FnS P w K mg base 1 "kind_of" (spKind (kindsK K)) := by
  obtain ⟨f, fd, c, h, hm, hg⟩ := h.ex
  refine fn_any h hm sc_kind_of (h.fn.bindsN fun _ _ _ _ _ _ us hl => match us, hl with | [_], _ => rfl) (fun vs H Q E ⟨q, _, e, _⟩ => by rw [e]; rfl) ?_
  intro A outer s H vs Q E hr ⟨q, hq, ev, hQ⟩
  subst ev
  have nd := sc_kind_of.nd
  have hu := hu_of hr
  have lkG : ∀ x : Str, (defScope s_kind_of).names.lookup x = some .globalImplicit → Gl (fx P w K mg base N_kind_of "kind_of" (defScope s_kind_of) f fd.code A outer s H E) x := fun x h => h
  refine wb_cons ?_
  generalize he : Expr.Dict _ _ _ = e
  have hs : ∀ (x : Str) (p : Pos) (l : Nat) (env : Env), swapsWith e (some (.Name x p)) l env = pure false := by
    intro x p l env
    rw [← he]
    rfl
  refine of_ps (ps_set (i := 1) nd rfl (.inl lk_known) w_pe (hs _ _ _ _) (.inl rfl)) ?_
  have key : Ev (W (fx P w K mg base N_kind_of "kind_of" (defScope s_kind_of) f fd.code A outer s H E) e) (L2.start N_kind_of [V.str q.1]) H fun v H' => ∃ p kvs, v = .ref p ∧ H' p = some (.dK kvs) ∧ KindsAt kvs H' (kindsK K) := by
    rw [← he]
    have hh : ∀ (ks : List (Option Expr)) (vs : List Expr) (pos : Pos), PPl (fx P w K mg base N_kind_of "kind_of" (defScope s_kind_of) f fd.code A outer s H E) ks vs ((kindsK K).map fun q => (tC (.str q.1), tNew0 q.2)) → ks.length = 16 → Ev (W (fx P w K mg base N_kind_of "kind_of" (defScope s_kind_of) f fd.code A outer s H E) (.Dict ks vs pos)) (L2.start N_kind_of [V.str q.1]) H fun v H' => ∃ p kvs, v = .ref p ∧ H' p = some (.dK kvs) ∧ KindsAt kvs H' (kindsK K) := fun ks vs pos h hl =>
      wv_kinds h (by omega) (by omega) (by unfold kindsK; rw [List.length_map]; decide) (by unfold kindsK; rw [List.map_map]; exact (by decide +kernel : (kcls.map (·.1)).Nodup))
    generalize e1 : ([_, _, _, _, _, _, _, _, _, _, _, _, _, _, _, _] : List (Option Expr)) = ks
    generalize e2 : ([_, _, _, _, _, _, _, _, _, _, _, _, _, _, _, _] : List Expr) = vs
    have hlen : ks.length = 16 := by
      rw [← e1]
      simp only [List.length_cons, List.length_nil]
    refine hh ks vs _ ?_ hlen
    · rw [← e1, ← e2, kinds_trs]
      refine .cons pe_str (pe_new0 (hk ("flow", "Flow") (by decide +kernel)).2 (lkG "Flow" (by decide +kernel)) (hk ("flow", "Flow") (by decide +kernel)).1) ?_
      refine .cons pe_str (pe_new0 (hk ("need", "Need") (by decide +kernel)).2 (lkG "Need" (by decide +kernel)) (hk ("need", "Need") (by decide +kernel)).1) ?_
      refine .cons pe_str (pe_new0 (hk ("cost", "Cost") (by decide +kernel)).2 (lkG "Cost" (by decide +kernel)) (hk ("cost", "Cost") (by decide +kernel)).1) ?_
      refine .cons pe_str (pe_new0 (hk ("ways", "Ways") (by decide +kernel)).2 (lkG "Ways" (by decide +kernel)) (hk ("ways", "Ways") (by decide +kernel)).1) ?_
      refine .cons pe_str (pe_new0 (hk ("places", "Places") (by decide +kernel)).2 (lkG "Places" (by decide +kernel)) (hk ("places", "Places") (by decide +kernel)).1) ?_
      refine .cons pe_str (pe_new0 (hk ("transport", "Transport") (by decide +kernel)).2 (lkG "Transport" (by decide +kernel)) (hk ("transport", "Transport") (by decide +kernel)).1) ?_
      refine .cons pe_str (pe_new0 (hk ("season", "Season") (by decide +kernel)).2 (lkG "Season" (by decide +kernel)) (hk ("season", "Season") (by decide +kernel)).1) ?_
      refine .cons pe_str (pe_new0 (hk ("choice", "Choice") (by decide +kernel)).2 (lkG "Choice" (by decide +kernel)) (hk ("choice", "Choice") (by decide +kernel)).1) ?_
      refine .cons pe_str (pe_new0 (hk ("turned", "Turned") (by decide +kernel)).2 (lkG "Turned" (by decide +kernel)) (hk ("turned", "Turned") (by decide +kernel)).1) ?_
      refine .cons pe_str (pe_new0 (hk ("grid", "Grid") (by decide +kernel)).2 (lkG "Grid" (by decide +kernel)) (hk ("grid", "Grid") (by decide +kernel)).1) ?_
      refine .cons pe_str (pe_new0 (hk ("time", "Time") (by decide +kernel)).2 (lkG "Time" (by decide +kernel)) (hk ("time", "Time") (by decide +kernel)).1) ?_
      refine .cons pe_str (pe_new0 (hk ("levels", "Levels") (by decide +kernel)).2 (lkG "Levels" (by decide +kernel)) (hk ("levels", "Levels") (by decide +kernel)).1) ?_
      refine .cons pe_str (pe_new0 (hk ("gain", "Gain") (by decide +kernel)).2 (lkG "Gain" (by decide +kernel)) (hk ("gain", "Gain") (by decide +kernel)).1) ?_
      refine .cons pe_str (pe_new0 (hk ("orders", "Orders") (by decide +kernel)).2 (lkG "Orders" (by decide +kernel)) (hk ("orders", "Orders") (by decide +kernel)).1) ?_
      refine .cons pe_str (pe_new0 (hk ("task", "Task") (by decide +kernel)).2 (lkG "Task" (by decide +kernel)) (hk ("task", "Task") (by decide +kernel)).1) ?_
      refine .cons pe_str (pe_new0 (hk ("linear", "Linear") (by decide +kernel)).2 (lkG "Linear" (by decide +kernel)) (hk ("linear", "Linear") (by decide +kernel)).1) ?_
      exact .nil
  refine key.go fun v1 H1 x1 hv1 => ?_
  obtain ⟨p, kvs, rfl, e, kd⟩ := hv1
  obtain ⟨a, dx, h1, h2⟩ := kd q hq
  exact wb_ret (wv_getk hu e h1 (wr_var (hv := .inl lk_known) 1 rfl) (wd_var (hv := .inl lk_word) 0 rfl (.str q.1)) ⟨by rfl, by rfl, by rfl, by rfl⟩) fun v H2 x2 ev => by
    rw [ev]
    exact hQ a dx H2 (x1.trans x2) (x2.ins h2)



abbrev N_judge : List Str := ["question", "value"]
theorem sc_judge : FnScope N_judge ["question", "value"] (defScope s_judge) := ⟨rfl, rfl, rfl, by decide +kernel, rfl, by decide +kernel, by decide +kernel⟩
def R_judge : List PyData → PyData → Prop := fun ds d => ∃ wd args value, ds = [.tuple (.str wd :: args), value] ∧ ((wd = "flow" ∧ R_Flow__judge [.tuple args, value] d) ∨ (wd = "need" ∧ R_Need__judge [.tuple args, value] d) ∨ (wd = "task" ∧ R_Task__judge [.tuple args, value] d) ∨ (wd = "linear" ∧ R_Linear__judge [.tuple args, value] d) ∨ (wd = "orders" ∧ R_Orders__judge [.tuple args, value] d))
theorem f_judge (h : Def1 K mg base cs "judge" s_judge false) (f_kind : FnS P w K mg base 1 "kind_of" (spKind (kindsK K))) (f_Flow : Mt P w K mg base cs 6 (He.ga K "Flow") "judge" R_Flow__judge) (f_Need : Mt P w K mg base cs 5 (He.ga K "Need") "judge" R_Need__judge) (f_Task : Mt P w K mg base cs 5 (He.ga K "Task") "judge" R_Task__judge) (f_Linear : Mt P w K mg base cs 7 (He.ga K "Linear") "judge" R_Linear__judge) (f_Orders : Mt P w K mg base cs 8 (He.ga K "Orders") "judge" R_Orders__judge) : Fn P w K mg base cs 9 "judge" R_judge := by
  obtain ⟨f, fd, c, h, hm, hg⟩ := h.ex
  refine fn_data h hm sc_judge (h.fn.bindsN fun _ _ _ _ _ _ us hl => match us, hl with | [_, _], _ => rfl) (fun ds d ⟨_, _, _, e, _⟩ => by rw [e]; rfl) ?_
  intro A outer s H vs E ds d hr hv hF T D hD
  obtain ⟨wd, args, value, rfl, hF⟩ := hF
  obtain ⟨v0, ws, rfl, h0, hv⟩ := dps_cons hv
  obtain ⟨v1, ws, rfl, h1, hv⟩ := dps_cons hv
  obtain rfl := dps_nil hv
  rcases hF with ⟨rfl, hR⟩ | ⟨rfl, hR⟩ | ⟨rfl, hR⟩ | ⟨rfl, hR⟩ | ⟨rfl, hR⟩
  · refine wb_ret (wd_meth f_Flow hr (by decide) T (wv_callS f_kind hr (by decide) (wa_cons (wd_ixT atI0 (wd_var 0 rfl h0) wd_int) wa_nil) fun vs H1 x1 dv Q q => ?_) (wa_cons (Wd.is (wd_slT (wd_var 0 rfl h0) (wo_some wd_int) wo_none) (congrArg PyData.tuple cut_tail)) (wa_cons (wd_var 1 rfl h1) wa_nil)) hR) hD
    obtain ⟨u, us, rfl, hu, hn⟩ := dps_cons dv
    obtain rfl := dps_nil hn
    rw [dp_str hu]
    exact ⟨("flow", He.ga K "Flow"), List.mem_map.mpr ⟨("flow", "Flow"), by decide +kernel, rfl⟩, rfl, fun a dx H' y e => q _ H' y ⟨a, dx, rfl, e⟩⟩
  · refine wb_ret (wd_meth f_Need hr (by decide) T (wv_callS f_kind hr (by decide) (wa_cons (wd_ixT atI0 (wd_var 0 rfl h0) wd_int) wa_nil) fun vs H1 x1 dv Q q => ?_) (wa_cons (Wd.is (wd_slT (wd_var 0 rfl h0) (wo_some wd_int) wo_none) (congrArg PyData.tuple cut_tail)) (wa_cons (wd_var 1 rfl h1) wa_nil)) hR) hD
    obtain ⟨u, us, rfl, hu, hn⟩ := dps_cons dv
    obtain rfl := dps_nil hn
    rw [dp_str hu]
    exact ⟨("need", He.ga K "Need"), List.mem_map.mpr ⟨("need", "Need"), by decide +kernel, rfl⟩, rfl, fun a dx H' y e => q _ H' y ⟨a, dx, rfl, e⟩⟩
  · refine wb_ret (wd_meth f_Task hr (by decide) T (wv_callS f_kind hr (by decide) (wa_cons (wd_ixT atI0 (wd_var 0 rfl h0) wd_int) wa_nil) fun vs H1 x1 dv Q q => ?_) (wa_cons (Wd.is (wd_slT (wd_var 0 rfl h0) (wo_some wd_int) wo_none) (congrArg PyData.tuple cut_tail)) (wa_cons (wd_var 1 rfl h1) wa_nil)) hR) hD
    obtain ⟨u, us, rfl, hu, hn⟩ := dps_cons dv
    obtain rfl := dps_nil hn
    rw [dp_str hu]
    exact ⟨("task", He.ga K "Task"), List.mem_map.mpr ⟨("task", "Task"), by decide +kernel, rfl⟩, rfl, fun a dx H' y e => q _ H' y ⟨a, dx, rfl, e⟩⟩
  · refine wb_ret (wd_meth f_Linear hr (by decide) T (wv_callS f_kind hr (by decide) (wa_cons (wd_ixT atI0 (wd_var 0 rfl h0) wd_int) wa_nil) fun vs H1 x1 dv Q q => ?_) (wa_cons (Wd.is (wd_slT (wd_var 0 rfl h0) (wo_some wd_int) wo_none) (congrArg PyData.tuple cut_tail)) (wa_cons (wd_var 1 rfl h1) wa_nil)) hR) hD
    obtain ⟨u, us, rfl, hu, hn⟩ := dps_cons dv
    obtain rfl := dps_nil hn
    rw [dp_str hu]
    exact ⟨("linear", He.ga K "Linear"), List.mem_map.mpr ⟨("linear", "Linear"), by decide +kernel, rfl⟩, rfl, fun a dx H' y e => q _ H' y ⟨a, dx, rfl, e⟩⟩
  · refine wb_ret (wd_meth f_Orders hr (by decide) T (wv_callS f_kind hr (by decide) (wa_cons (wd_ixT atI0 (wd_var 0 rfl h0) wd_int) wa_nil) fun vs H1 x1 dv Q q => ?_) (wa_cons (Wd.is (wd_slT (wd_var 0 rfl h0) (wo_some wd_int) wo_none) (congrArg PyData.tuple cut_tail)) (wa_cons (wd_var 1 rfl h1) wa_nil)) hR) hD
    obtain ⟨u, us, rfl, hu, hn⟩ := dps_cons dv
    obtain rfl := dps_nil hn
    rw [dp_str hu]
    exact ⟨("orders", He.ga K "Orders"), List.mem_map.mpr ⟨("orders", "Orders"), by decide +kernel, rfl⟩, rfl, fun a dx H' y e => q _ H' y ⟨a, dx, rfl, e⟩⟩

end Hd


set_option Elab.async false
set_option linter.all false
set_option maxRecDepth 100000
set_option maxHeartbeats 4000000
namespace Hd
open PySem PySem.Spec PyProof.Rows L2 FW
variable {P : Program} {w : World} {K : PySem.W.Frag} {mg : Str → Option Value} {base : Heap} {cs : List (Addr × Addr)}

/-! ### the law's helpers -/
def spreadS (c : Int) : Nat → Int × Int
  | 0 => (c % 2147483647, 1)
  | k + 1 => (((spreadS c k).1 * 48271 + 12345 + (k : Int)) % 2147483647, (spreadS c k).2 * 2147483647 + ((spreadS c k).1 * 48271 + 12345 + (k : Int)) % 2147483647)
theorem spread_ok (c : Int) : ∀ k, 0 ≤ (spreadS c k).1 ∧ (spreadS c k).1 < 2147483647 ∧ 0 ≤ (spreadS c k).2 ∧ (spreadS c k).2 < 2147483648 ^ (k + 1)
  | 0 => ⟨Int.emod_nonneg _ (by decide), Int.emod_lt_of_pos _ (by decide), by show (0 : Int) ≤ 1; decide, by show (1 : Int) < 2147483648 ^ 1; decide⟩
  | k + 1 => by
    obtain ⟨h1, h2, h3, h4⟩ := spread_ok c k
    have a1 : 0 ≤ ((spreadS c k).1 * 48271 + 12345 + (k : Int)) % 2147483647 := Int.emod_nonneg _ (by decide)
    have a2 : ((spreadS c k).1 * 48271 + 12345 + (k : Int)) % 2147483647 < 2147483647 := Int.emod_lt_of_pos _ (by decide)
    have e : (2147483648 : Int) ^ (k + 1 + 1) = 2147483648 ^ (k + 1) * 2147483648 := Int.pow_succ ..
    refine ⟨a1, a2, ?_, ?_⟩
    · show 0 ≤ (spreadS c k).2 * 2147483647 + ((spreadS c k).1 * 48271 + 12345 + (k : Int)) % 2147483647
      generalize ((spreadS c k).1 * 48271 + 12345 + (k : Int)) % 2147483647 = y at a1 a2
      clear e h4
      omega
    · show (spreadS c k).2 * 2147483647 + ((spreadS c k).1 * 48271 + 12345 + (k : Int)) % 2147483647 < 2147483648 ^ (k + 1 + 1)
      rw [e]
      generalize ((spreadS c k).1 * 48271 + 12345 + (k : Int)) % 2147483647 = y at a1 a2
      generalize (2147483648 : Int) ^ (k + 1) = z at h4
      clear e
      omega
theorem spread_b (c : Int) (k : Nat) (h : k < 4) : (spreadS c k).2.natAbs < 2147483648 ^ 5 := by
  obtain ⟨_, _, h3, h4⟩ := spread_ok c k
  have e : (2147483648 : Int) ^ (k + 1) ≤ 45671926166590716193865151022383844364247891968 := by
    clear h3 h4
    match k, h with
    | 0, _ => decide +kernel
    | 1, _ => decide +kernel
    | 2, _ => decide +kernel
    | 3, _ => decide +kernel
  have e2 : (2147483648 : Nat) ^ 5 = 45671926166590716193865151022383844364247891968 := by decide +kernel
  rw [e2]
  generalize (2147483648 : Int) ^ (k + 1) = z at h4 e
  omega
theorem smallW {a b : Int} (ha : a.natAbs < 2 ^ 400) (hb : b.natAbs < 2 ^ 400) : CMulW a b := wide_mul ha hb (by decide) (by decide) (by decide)
theorem nat_lt400 {a : Int} {n : Nat} (h : a.natAbs < n) (hn : n ≤ 2 ^ 400) : a.natAbs < 2 ^ 400 := Nat.lt_of_lt_of_le h hn
theorem divW {a b : Int} (h : 0 < b) (hb : b.natAbs < 2 ^ 400) : CDivW a b := wide_div h hb (by decide) (by decide)

abbrev N_lw_same : List Str := ["actual", "due", "k"]
theorem sc_lw_same : FnScope N_lw_same ["actual", "due"] (defScope s_lw_same) := ⟨rfl, rfl, rfl, by decide +kernel, rfl, by decide +kernel, by decide +kernel⟩
abbrev R_lw_same : List PyData → PyData → Prop := Sg (α := Bool × Bool) (fun ⟨a, b⟩ => True) (fun ⟨a, b⟩ => [.bool a, .bool b]) (fun ⟨a, b⟩ => .bool (a == b))
theorem f_lw_same (h : Def1 K mg base cs "_law_same" s_lw_same false) (B : Bi mg) : Fn P w K mg base cs 1 "_law_same" R_lw_same := by
  obtain ⟨f, fd, c, h, hm, hg⟩ := h.ex
  refine fn_data h hm sc_lw_same (h.fn.bindsN fun _ _ _ _ _ _ us hl => match us, hl with | [_, _], _ => rfl) (Sg.len fun _ => rfl) ?_
  intro A outer s H vs E ds d hr hv hF T D hD
  obtain ⟨⟨a, b⟩, -, rfl, rfl⟩ := hF
  obtain ⟨v0, ws, rfl, h0, hv⟩ := dps_cons hv
  obtain ⟨v1, ws, rfl, h1, hv⟩ := dps_cons hv
  obtain rfl := dps_nil hv
  refine wb_if (k := false) (wt_w (ww_or (k := false) (Wt.is (wt_val (wd_isiTup B (wd_var 1 rfl h1))) rfl) fun _ => ww_or1 (Wt.is (wt_val (wd_isiList B (wd_var 1 rfl h1))) rfl))) (fun hk => nomatch hk) fun _ H1 x1 => ?_
  replace h0 := x1.dp h0
  replace h1 := x1.dp h1
  refine wb_nil (wb_if (k := false) (Wt.is (wt_cmp cm_isN (wd_var 1 rfl h1) wd_non) rfl) (fun hk => nomatch hk) fun _ H2 x2 => ?_)
  replace h0 := x2.dp h0
  replace h1 := x2.dp h1
  refine wb_nil (wb_if (k := true) (wt_w (ww_or (k := true) (k' := false) (Wt.is (wt_val (wd_isiBool B (wd_var 1 rfl h1))) rfl) fun hh => nomatch hh)) (fun _ H3 x3 => ?_) (fun hk => nomatch hk))
  replace h0 := x3.dp h0
  replace h1 := x3.dp h1
  exact wb_ret (Wd.is (wd_and (k := true) (Wd.is (wd_isiBool B (wd_var 1 rfl h1)) rfl) fun _ => wd_and (k := true) (Wd.is (wd_isiBool B (wd_var 0 rfl h0)) rfl) fun _ => wd_one (wd_cmp cm_eqB (wd_var 0 rfl h0) (wd_var 1 rfl h1))) rfl) (fun v H'' y dv => hD v H'' (((x1.trans x2).trans x3).trans y) dv)

abbrev N_lw_spread : List Str := ["cell", "blended", "whole_sum", "k"]
theorem sc_lw_spread : FnScope N_lw_spread ["cell"] (defScope s_lw_spread) := ⟨rfl, rfl, rfl, by decide +kernel, rfl, by decide +kernel, by decide +kernel⟩
abbrev R_lw_spread : List PyData → PyData → Prop := Sg (α := Int) (fun c => True) (fun c => [.int c]) (fun c => .int (spreadS c 4).2)
theorem f_lw_spread (h : Def1 K mg base cs "_law_spread" s_lw_spread false) (B : Bi mg) : Fn P w K mg base cs 1 "_law_spread" R_lw_spread := by
  obtain ⟨f, fd, c, h, hm, hg⟩ := h.ex
  refine fn_data h hm sc_lw_spread (h.fn.bindsN fun _ _ _ _ _ _ us hl => match us, hl with | [_], _ => rfl) (Sg.len fun _ => rfl) ?_
  intro A outer s H vs E ds d hr hv hF T D hD
  obtain ⟨c, -, rfl, rfl⟩ := hF
  obtain ⟨v0, ws, rfl, h0, hv⟩ := dps_cons hv
  obtain rfl := dps_nil hv
  have nd := sc_lw_spread.nd
  refine wb_set (P := fun v H' => Dp K H' v (.int (spreadS c 0).1)) 1 nd (wd_bin (bn_mod (by decide)) (wd_int1 B (wd_var 0 rfl h0)) wd_int) fun v1 H1 x1 h1 => ?_
  refine wb_set (P := fun v H' => Dp K H' v (.int (spreadS c 0).2)) 2 nd wd_int fun v2 H2 x2 h2 => ?_
  replace h1 := x2.dp h1
  refine wb_for [3] (fun (k : Nat) => [.int (k : Int)]) (fun H3 i σ' H' => Ext H3 H' ∧ ∃ w1 w2 w3, σ' = [some v0, some w1, some w2, w3] ∧ Dp K H' w1 (.int (spreadS c i).1) ∧ Dp K H' w2 (.int (spreadS c i).2)) (src_range (M := Ext) (n := 4) B wd_int (by decide) (by decide) (by decide)) PassesOwn.never rfl (fun x _ => gj_nm 3 nd) ?_ ?_ ?_ ?_
  · intro H3 x3
    exact ⟨Ext.refl _, v1, v2, none, rfl, x3.dp h1, x3.dp h2⟩
  · intro H3 i σ' H' ⟨y, _⟩
    exact y
  · intro H3 i k σ' H' H'' ws x3 hk ⟨y1, w1, w2, w3, e, d1, d2⟩ y2 hw
    obtain ⟨v3, ws, rfl, h3, hw⟩ := dps_cons hw
    obtain rfl := dps_nil hw
    subst e
    have hik : k = i ∧ i < 4 := by
      obtain ⟨q1, q2⟩ := List.getElem?_eq_some_iff.mp hk
      rw [List.length_range] at q1
      rw [List.getElem_range] at q2
      exact ⟨q2.symm, q1⟩
    obtain ⟨rfl, hlt⟩ := hik
    obtain ⟨b1, b2, b3, b4⟩ := spread_ok c k
    replace d1 := y2.dp d1
    replace d2 := y2.dp d2
    refine wb_set (P := fun v H' => Dp K H' v (.int (spreadS c (k + 1)).1)) 1 nd (wd_bin (bn_mod (by decide)) (wd_int1 B (wd_bin bn_add (wd_bin bn_add (wd_bin (bn_mul (smallW (nat_lt400 (n := 2147483647) (by omega) (by decide)) (by decide))) (wd_var 1 rfl d1) wd_int) wd_int) (wd_var 3 rfl h3))) wd_int) fun w1' H4 x4 d1' => ?_
    replace d2 := x4.dp d2
    refine wb_set (P := fun v H' => Dp K H' v (.int (spreadS c (k + 1)).2)) 2 nd (wd_bin bn_add (wd_bin (bn_mul (smallW (nat_lt400 (n := 2147483648 ^ 5) ?_ (by decide)) (by decide))) (wd_var 2 rfl d2) wd_int) (wd_var 1 rfl d1')) fun w2' H5 x5 d2' => ?_
    · exact spread_b c k hlt
    · exact wb_nil ⟨((y1.trans y2).trans x4).trans x5, w1', w2', some v3, rfl, x5.dp d1', d2'⟩
  · intro H3 σ' H' x3 ⟨y1, w1, w2, w3, e, d1, d2⟩
    subst e
    exact wb_ret (wd_var 2 rfl d2) (fun v H'' y2 dv => hD v H'' ((((x1.trans x2).trans x3).trans y1).trans y2) dv)

abbrev N_lw_draw : List Str := ["pool", "many", "cell", "blended", "value"]
theorem sc_lw_draw : FnScope N_lw_draw ["pool", "many"] (defScope s_lw_draw) := ⟨rfl, rfl, rfl, by decide +kernel, rfl, by decide +kernel, by decide +kernel⟩
theorem f_lw_draw (h : Def1 K mg base cs "_law_draw" s_lw_draw false) (B : Bi mg) (f_lw_spread : Fn P w K mg base cs 1 "_law_spread" R_lw_spread) : FnS P w K mg base 2 "_law_draw" (spDraw K cs) := by
  obtain ⟨f, fd, c, h, hm, hg⟩ := h.ex
  refine fn_any h hm sc_lw_draw (h.fn.bindsN fun _ _ _ _ _ _ us hl => match us, hl with | [_, _], _ => rfl) (fun vs H Q E ⟨_, _, _, _, _, e, _⟩ => by rw [e]; rfl) ?_
  have nd := sc_lw_draw.nd
  intro A outer s H vs Q E hr ⟨p, many, s0, ns, m, ev, m0, m1, hpool, mm, T, hQ⟩
  subst ev
  obtain ⟨a, b, c0, salt, pl, ha, hc, hcm, hs0, hs1⟩ := hpool.ex
  have ix : ∀ {H' : Hp} {σ' : L2.St} {a' b' c' : Int} {k : Nat} {d : PyData} {pos p1 p2 : Pos} {jt : Nat}, Pool K H' p s0 ns a' b' c' salt → σ'[0]? = some (some (.ref p)) → atI [PyData.list (ns.map .int), .int a', .int b', .int c', .int salt] (k : Int) = some d →
      Wd (fx P w K mg base N_lw_draw "_law_draw" (defScope s_lw_draw) f fd.code A outer s H E) (.Subscript (.Name "pool" p1) (.Constant (.int (k : Int)) jt p2) pos) σ' H' d := fun pl' hσ e => wd_ixL e (wd_var 0 hσ pl'.dp) wd_int
  have hmany : Dp K H (.int many) (.int many) := .int many
  -- what follows the first if
  have tail : ∀ (u2 : Option V) (H1 : Hp) (a' b' : Int), Pool K H1 p s0 ns a' b' c0 salt → 0 ≤ a' → ExtP p H H1 → WB (fx P w K mg base N_lw_draw "_law_draw" (defScope s_lw_draw) f fd.code A outer s H E) (defBody s_lw_draw).tail { nx := fun _ H' => Q .non H', rt := Q } [some (.ref p), some (.int many), u2, none, none] H1 := by
    intro u2 H1 a' b' pl1 ha1 e1
    refine wb_seti (j := 3) pl1.at_ (wd_bin bn_add (ix (k := 3) pl1 rfl rfl) wd_int) (wr_var 0 rfl) wd_int rfl fun v H2 H3 x2 x3 dv => ?_
    rw [dp_int dv]
    show WB _ _ _ _ (upd _ p (.lst [.ref s0, .int a', .int b', .int (c0 + 1), .int salt]))
    have pl3 := ((pl1.ext x2).ext x3).put (a' := a') (b' := b') (c' := c0 + 1)
    have e3 : ExtP p H (upd H3 p (.lst [.ref s0, .int a', .int b', .int (c0 + 1), .int salt])) := (e1.trans (.of (x2.trans x3))).trans (ExtB.upd (S := (· = p)) rfl ((x2.trans x3).lst pl1.at_) (fun _ z => by cases z))
    have fin : ∀ {H4 : Hp} {b'' : Int}, Pool K H4 p s0 ns a' b'' (c0 + 1) salt → PoolOk K H4 p s0 ns (m + 1) := fun q => ⟨a', _, c0 + 1, salt, q, ha1, by omega, by push_cast; omega, hs0, hs1⟩
    generalize upd H3 p (.lst [.ref s0, .int a', .int b', .int (c0 + 1), .int salt]) = H4 at pl3 e3
    have c400 : (c0 + 1).natAbs < 2 ^ 400 := nat_lt400 (n := 2 ^ 61) (by omega) (by decide)
    refine wb_if (wt_cmp cm_le (ix (k := 2) pl3 rfl rfl) wd_int) (fun hk H5 x5 => ?_) (fun hk H5 x5 => ?_)
    · have pl5 := pl3.ext x5
      refine wb_set (P := fun v H' => ∃ z : Int, v = .int z ∧ 0 ≤ z ∧ z < 2147483647) 3 nd (Ev.imp (wd_bin (bn_mod (by decide)) (wd_int1 B (wd_bin bn_add (wd_bin bn_add (wd_bin (bn_mul (smallW (nat_lt400 (n := 1000003) (by omega) (by decide)) (by decide))) (ix (k := 4) pl5 rfl rfl) wd_int) (wd_bin (bn_mul (smallW c400 (by decide))) (ix (k := 3) pl5 rfl rfl) wd_int)) wd_int)) wd_int) fun v _ _ dv => ⟨_, dp_int dv, Int.emod_nonneg _ (by decide), Int.emod_lt_of_pos _ (by decide)⟩) fun v6 H6 x6 ⟨z, ez, z0, z1⟩ => ?_
      subst ez
      have pl6 := pl5.ext x6
      refine wb_set (P := fun v H' => ∃ z : Int, v = .int z) 3 nd (Ev.imp (wd_bin (bn_mod (by decide)) (wd_int1 B (wd_bin bn_add (wd_bin (bn_mul (smallW (nat_lt400 (n := 2147483647) (by omega) (by decide)) (by decide))) (wd_var 3 rfl (.int z)) wd_int) (ix (k := 3) pl6 rfl rfl))) wd_int) fun v _ _ dv => ⟨_, dp_int dv⟩) fun v7 H7 x7 ⟨z2, ez2⟩ => ?_
      subst ez2
      refine wb_ret (wd_bin (bn_mod m0) (wd_bin (bn_fdiv (divW (by decide) (by decide))) (wd_var 3 rfl (.int z2)) wd_int) (wd_var 1 rfl (.int many))) fun v H8 x8 dv => ?_
      rw [dp_int dv]
      exact hQ _ H8 (e3.trans (.of (((x5.trans x6).trans x7).trans x8))) (fin (((pl6.ext x7)).ext x8)) (Int.emod_nonneg _ (by omega)) (Int.emod_lt_of_pos _ m0)
    · have pl5 := pl3.ext x5
      refine wb_nil (wb_set (P := fun v H' => v = .int (b' % many)) 4 nd (Ev.imp (wd_bin (bn_mod m0) (wd_int1 B (ix (k := 2) pl5 rfl rfl)) (wd_var 1 rfl (.int many))) fun v _ _ dv => dp_int dv) fun v6 H6 x6 ev6 => ?_)
      subst ev6
      have pl6 := pl5.ext x6
      refine wb_seti (j := 2) pl6.at_ (wd_bin (bn_fdiv (divW m0 (nat_lt400 (n := 2 ^ 60) (by omega) (by decide)))) (ix (k := 2) pl6 rfl rfl) (wd_var 1 rfl (.int many))) (wr_var 0 rfl) wd_int rfl fun v H7 H8 x7 x8 dv => ?_
      rw [dp_int dv]
      show WB _ _ _ _ (upd _ p (.lst [.ref s0, .int a', .int (b' / many), .int (c0 + 1), .int salt]))
      have pl8 := ((pl6.ext x7).ext x8).put (a' := a') (b' := b' / many) (c' := c0 + 1)
      refine wb_ret (wd_var 4 rfl (.int (b' % many))) fun v H9 x9 dv => ?_
      rw [dp_int dv]
      refine hQ _ H9 ?_ (fin (pl8.ext x9)) (Int.emod_nonneg _ (by omega)) (Int.emod_lt_of_pos _ m0)
      exact ((e3.trans (.of (((x5.trans x6).trans x7).trans x8))).trans (ExtB.upd (S := (· = p)) rfl ((x7.trans x8).lst pl6.at_) (fun _ z => by cases z))).trans (.of x9)
  have hl : ((ns.map PyData.int).length : Int) = (ns.length : Int) := by rw [List.length_map]
  refine wb_if (wt_w (ww_and (wt_cmp cm_le (ix (k := 2) pl rfl rfl) wd_int) fun _ => ww_and1 (wt_cmp cm_lt (ix (k := 1) pl rfl rfl) (wd_lenL B (ix (k := 0) pl rfl rfl))))) (fun hk H1 x1 => ?_) (fun hk H1 x1 => wb_nil (tail none H1 a b (pl.ext x1) ha (.of x1)))
  have hal : a < (ns.length : Int) := by
    rw [Bool.and_eq_true] at hk
    have := of_decide_eq_true hk.2
    rwa [hl] at this
  have pl1 := pl.ext x1
  have ea : ((a.toNat : Nat) : Int) = a := Int.toNat_of_nonneg ha
  have eat : atI (ns.map PyData.int) a = some (.int (ns.getD a.toNat 0)) := by
    have := atI_ints (ns := ns) (k := a.toNat) (by omega)
    rwa [ea] at this
  refine wb_set (P := fun v H' => v = .int (ns.getD a.toNat 0)) 2 nd (Ev.imp (wd_ixL eat (ix (k := 0) pl1 rfl rfl) (ix (k := 1) pl1 rfl rfl)) fun v _ _ dv => dp_int dv) fun v2 H2 x2 ev2 => ?_
  subst ev2
  have pl2 := pl1.ext x2
  refine wb_seti (j := 1) pl2.at_ (wd_bin bn_add (ix (k := 1) pl2 rfl rfl) wd_int) (wr_var 0 rfl) wd_int rfl fun v H3 H4 x3 x4 dv => ?_
  rw [dp_int dv]
  show WB _ _ _ _ (upd _ p (.lst [.ref s0, .int (a + 1), .int b, .int c0, .int salt]))
  have pl4 := ((pl2.ext x3).ext x4).put (a' := a + 1) (b' := b) (c' := c0)
  have e4 : ExtP p H (upd H4 p (.lst [.ref s0, .int (a + 1), .int b, .int c0, .int salt])) := (ExtB.of (((x1.trans x2).trans x3).trans x4)).trans (ExtB.upd (S := (· = p)) rfl ((x3.trans x4).lst pl2.at_) (fun _ z => by cases z))
  generalize upd H4 p (.lst [.ref s0, .int (a + 1), .int b, .int c0, .int salt]) = H5 at pl4 e4
  refine wb_seti (j := 2) pl4.at_ (wd_var 2 rfl (.int (ns.getD a.toNat 0))) (wr_var 0 rfl) wd_int rfl fun v H6 H7 x6 x7 dv => ?_
  rw [dp_int dv]
  show WB _ _ _ _ (upd _ p (.lst [.ref s0, .int (a + 1), .int (ns.getD a.toNat 0), .int c0, .int salt]))
  have pl7 := ((pl4.ext x6).ext x7).put (a' := a + 1) (b' := ns.getD a.toNat 0) (c' := c0)
  have e7 : ExtP p H (upd H7 p (.lst [.ref s0, .int (a + 1), .int (ns.getD a.toNat 0), .int c0, .int salt])) := (e4.trans (.of (x6.trans x7))).trans (ExtB.upd (S := (· = p)) rfl ((x6.trans x7).lst pl4.at_) (fun _ z => by cases z))
  generalize upd H7 p (.lst [.ref s0, .int (a + 1), .int (ns.getD a.toNat 0), .int c0, .int salt]) = H8 at pl7 e7
  have T8 : Tabs cs H8 := fun q hq => e7.tab _ (T q hq)
  refine wb_if (wt_cmp cm_lt (wd_var 2 rfl (.int (ns.getD a.toNat 0))) wd_int) (fun hk2 H9 x9 => ?_) (fun hk2 H9 x9 => wb_nil (wb_nil (tail (some (.int (ns.getD a.toNat 0))) H9 (a + 1) _ (pl7.ext x9) (by omega) (e7.trans (.of x9)))))
  have pl9 := pl7.ext x9
  refine wb_seti (j := 2) pl9.at_ (wd_call f_lw_spread hr (by decide) (T8.ext x9) (wa_cons (wd_var 2 rfl (.int (ns.getD a.toNat 0))) wa_nil) ⟨_, trivial, rfl, rfl⟩) (wr_var 0 rfl) wd_int rfl fun v H10 H11 x10 x11 dv => ?_
  rw [dp_int dv]
  show WB _ _ _ _ (upd _ p (.lst [.ref s0, .int (a + 1), .int (spreadS (ns.getD a.toNat 0) 4).2, .int c0, .int salt]))
  have pl11 := ((pl9.ext x10).ext x11).put (a' := a + 1) (b' := (spreadS (ns.getD a.toNat 0) 4).2) (c' := c0)
  refine wb_nil (wb_nil (tail (some (.int (ns.getD a.toNat 0))) _ (a + 1) _ pl11 (by omega) ?_))
  exact (e7.trans (.of ((x9.trans x10).trans x11))).trans (ExtB.upd (S := (· = p)) rfl ((x10.trans x11).lst pl9.at_) (fun _ z => by cases z))
end Hd


set_option Elab.async false
set_option linter.all false
set_option maxRecDepth 100000
set_option maxHeartbeats 4000000
namespace Hd
open PySem PySem.Spec PyProof.Rows L2 FW
variable {P : Program} {w : World} {K : PySem.W.Frag} {mg : Str → Option Value} {base : Heap} {cs : List (Addr × Addr)}

def subsI : Nat → List (List Int)
  | 0 => [[]]
  | k + 1 => subsI k ++ (subsI k).map fun r => r ++ [(k : Int)]
theorem subs_len : ∀ k, (subsI k).length = 2 ^ k
  | 0 => rfl
  | k + 1 => by
    show (subsI k ++ (subsI k).map fun r => r ++ [(k : Int)]).length = _
    rw [List.length_append, List.length_map, subs_len k, Nat.pow_succ]
    omega
theorem subs_each : ∀ k, ∀ r ∈ subsI k, r.length ≤ k
  | 0, r, h => by
    have e : r = [] := by simpa [subsI] using h
    rw [e]; exact Nat.le_refl _
  | k + 1, r, h => by
    have h2 : r ∈ subsI k ∨ ∃ a ∈ subsI k, a ++ [(k : Int)] = r := by simpa [subsI] using h
    rcases h2 with h3 | ⟨a, h3, rfl⟩
    · exact Nat.le_succ_of_le (subs_each k r h3)
    · rw [List.length_append]
      have := subs_each k a h3
      simp
      exact this

theorem frzs_ints {ns : List Int} : frzs (ns.map PyData.int) = true := by
  rw [frzs_iff]
  intro d hd
  obtain ⟨a, _, rfl⟩ := List.mem_map.mp hd
  rfl
abbrev N_lw_subsets : List Str := ["number", "found", "k", "one"]
theorem sc_lw_subsets : FnScope N_lw_subsets ["number"] (defScope s_lw_subsets) := ⟨rfl, rfl, rfl, by decide +kernel, rfl, by decide +kernel, by decide +kernel⟩
abbrev R_lw_subsets : List PyData → PyData → Prop := Sg (α := Nat) (fun n => n ≤ 10) (fun n => [.int (n : Int)]) (fun n => .list ((subsI n).map tI))
theorem f_lw_subsets (h : Def1 K mg base cs "_law_subsets" s_lw_subsets false) (B : Bi mg) : Fn P w K mg base cs 1 "_law_subsets" R_lw_subsets := by
  obtain ⟨f, fd, c, h, hm, hg⟩ := h.ex
  refine fn_data h hm sc_lw_subsets (h.fn.bindsN fun _ _ _ _ _ _ us hl => match us, hl with | [_], _ => rfl) (Sg.len fun _ => rfl) ?_
  intro A outer s H vs E ds d hr hv hF T D hD
  obtain ⟨n, hpre, rfl, rfl⟩ := hF
  obtain ⟨v0, ws, rfl, h0, hv⟩ := dps_cons hv
  obtain rfl := dps_nil hv
  have nd := sc_lw_subsets.nd
  have hn : n ≤ 10 := hpre
  refine wb_set (P := fun v H' => ∃ p xs, v = .ref p ∧ H' p = some (.lst xs) ∧ DpAll K H' xs ((subsI 0).map tI)) 1 nd (Wl.wx (wl_lst (wa_cons (wd_tup wa_nil) wa_nil))) fun v1 H1 x1 h1 => ?_
  refine wb_for (M := Ext) [2] (fun (k : Nat) => [.int (k : Int)]) (fun H2 i σ' H' => Ext H2 H' ∧ ∃ w1 w2 w3, σ' = [some v0, some w1, w2, w3] ∧ ∃ p xs, w1 = .ref p ∧ H' p = some (.lst xs) ∧ DpAll K H' xs ((subsI i).map tI)) (src_range (n := n) B (wd_var 0 rfl (x1.dp h0)) (by omega) (by omega) (by omega)) PassesOwn.never rfl (fun x _ => gj_nm 2 nd) ?_ ?_ ?_ ?_
  · intro H2 x2
    obtain ⟨p, xs, e1, e2, e3⟩ := h1
    exact ⟨Ext.refl _, v1, none, none, rfl, p, xs, e1, x2.lst e2, x2.dps e3⟩
  · intro H2 i σ' H' ⟨y, _⟩
    exact y
  · intro H2 i k σ' H' H'' ws x2 hk ⟨y1, w1, w2, w3, e, p, xs, e1, e2, e3⟩ y2 hw
    obtain ⟨v2, ws, rfl, h2, hw⟩ := dps_cons hw
    obtain rfl := dps_nil hw
    subst e
    subst e1
    have hik : k = i ∧ i < n := by
      obtain ⟨q1, q2⟩ := List.getElem?_eq_some_iff.mp hk
      rw [List.length_range] at q1
      rw [List.getElem_range] at q2
      exact ⟨q2.symm, q1⟩
    obtain ⟨rfl, hlt⟩ := hik
    have l2 : (subsI k).length ≤ 1024 := by
      rw [subs_len]
      exact Nat.pow_le_pow_right (by decide : 0 < 2) (show k ≤ 10 by omega)
    have hv : Wx (fx P w K mg base N_lw_subsets "_law_subsets" (defScope s_lw_subsets) f fd.code A outer s H E) (.Name "found" ⟨0, 0, 0, 0⟩) [some v0, some (.ref p), some v2, w3] H'' ((subsI k).map tI) := ev_pe (pe_var (i := 1) rfl (.inl rfl)) (ev_var rfl fun H2 y => ⟨p, xs, rfl, (y2.trans y).lst e2, (y2.trans y).dps e3⟩)
    have hL : Dp K H'' (.ref p) (.list ((subsI k).map tI)) := .lst (sqL_of (y2.lst e2)) (y2.dps e3)
    refine wb_set (P := fun v H' => ∃ p xs, v = .ref p ∧ H' p = some (.lst xs) ∧ DpAll K H' xs ((subsI (k + 1)).map tI)) 1 nd (Wl.wx (Ev.imp (wl_cat (ev_pe (pe_var (i := 1) rfl (.inl rfl)) (ev_var rfl fun H2 y => ⟨p, xs, rfl, (y2.trans y).lst e2, (y2.trans y).dps e3⟩)) (Wl.wx (wl_lc (xs := subsI k) (enc := tI) [("one", 3)] [3] (fun r => [tI r]) (fun _ => true) (fun r => tI (r ++ [(k : Int)])) rfl nd (blkOk_by (N := N_lw_subsets) (sc := defScope s_lw_subsets) (by decide +kernel)) (src_L (wd_var 1 rfl hL)) (by decide) (by omega) (fun r _ _ => frzs_ints) fun r hr' => turn_x 3 (fun _ => nd) (fun _ => rfl) (fun _ => .inl rfl) (fun _ => .inr rfl) fun z H' v e hv => ?_)) ?_) fun v H3 _ hv3 => ?_)) fun v1' H3 x3 h1' => ?_
    · refine Wd.is (wd_bin (bn_catT ?_) (wd_var 3 rfl hv) (wd_tup (wa_cons (wd_var 2 rfl (e.dp h2)) wa_nil))) ?_
      · have := subs_each k r hr'
        rw [List.length_map]
        simp
        omega
      · show PyData.tuple (r.map .int ++ [.int (k : Int)]) = PyData.tuple ((r ++ [(k : Int)]).map .int)
        rw [List.map_append]
        rfl
    · rw [flt_all, List.length_map, List.length_map]
      omega
    · obtain ⟨p3, xs3, q1, q2, q3, q4⟩ := hv3
      refine ⟨p3, xs3, q1, q2, q3, ?_⟩
      rw [flt_all] at q4
      have e9 : (subsI (k + 1)).map tI = (subsI k).map tI ++ (subsI k).map fun r => tI (r ++ [(k : Int)]) := by
        show (subsI k ++ (subsI k).map fun r => r ++ [(k : Int)]).map tI = _
        rw [List.map_append, List.map_map]
        rfl
      rw [e9]
      exact q4
    · obtain ⟨p3, xs3, q1, q2, q3⟩ := h1'
      exact wb_nil ⟨(y1.trans y2).trans x3, v1', _, _, rfl, p3, xs3, q1, q2, q3⟩
  · intro H2 σ' H' x2 ⟨y1, w1, w2, w3, e, p, xs, e1, e2, e3⟩
    subst e
    subst e1
    rw [List.length_range] at e3
    exact wb_ret (wd_var 1 rfl (.lst (sqL_of e2) e3)) (fun v H'' y2 dv => hD v H'' (((x1.trans x2).trans y1).trans y2) dv)


/-- two places -/
def spEnds (K : PySem.W.Frag) (cs : List (Addr × Addr)) : Sp := fun vs H Q _ => ∃ p n s ns m, vs = [.ref p, .int n] ∧ 2 ≤ n ∧ n < 2 ^ 50 ∧ PoolOk K H p s ns m ∧ m < 2 ^ 50 ∧ Tabs cs H ∧ ∀ v H' a b, ExtP p H H' → PoolOk K H' p s ns (m + 2) → 0 ≤ a → a < n → 0 ≤ b → b < n → a ≠ b → Dp K H' v (.tuple [.int a, .int b]) → Q v H'

abbrev N_lw_ends : List Str := ["pool", "n", "s"]
theorem sc_lw_ends : FnScope N_lw_ends ["pool", "n"] (defScope s_lw_ends) := ⟨rfl, rfl, rfl, by decide +kernel, rfl, by decide +kernel, by decide +kernel⟩
theorem f_lw_ends (h : Def1 K mg base cs "_law_ends" s_lw_ends false) (B : Bi mg) (f_lw_draw : FnS P w K mg base 2 "_law_draw" (spDraw K cs)) : FnS P w K mg base 3 "_law_ends" (spEnds K cs) := by
  obtain ⟨f, fd, c, h, hm, hg⟩ := h.ex
  refine fn_any h hm sc_lw_ends (h.fn.bindsN fun _ _ _ _ _ _ us hl => match us, hl with | [_, _], _ => rfl) (fun vs H Q E ⟨_, _, _, _, _, e, _⟩ => by rw [e]; rfl) ?_
  have nd := sc_lw_ends.nd
  intro A outer s H vs Q E hr ⟨p, n, s0, ns, m, ev, n2, n50, hpool, mm, T, hQ⟩
  subst ev
  refine wb_setW 2 nd (w_draw f_lw_draw hr (by decide) T hpool (by omega) (wr_var 0 rfl) (wd_var 1 rfl (.int n)) (by omega) (by omega) fun a H1 e1 pl1 a0 a1 => ?_)
  have T1 : Tabs cs H1 := fun q hq => e1.tab _ (T q hq)
  refine wb_retW (of_pe (pe_tup (pa_cons w_pe (pa_cons w_pe pa_nil))) ?_)
  refine (wd_var 2 rfl (.int a)).go fun v2 H2 x2 d2 => ?_
  show W _ _ _ H2 _
  refine of_pe (pe_op op_mod w_pe w_pe) ?_
  refine w_addR (wd_bin bn_add (wd_var 2 rfl (.int a)) wd_int) fun H3 x3 => w_draw f_lw_draw hr (by decide) ((T1.ext x2).ext x3) ((pl1.ext x2).ext x3) (by omega) (wr_var 0 rfl) (wd_bin bn_sub (wd_var 1 rfl (.int n)) wd_int) (by omega) (by omega) fun b H4 e4 pl4 b0 b1 => ⟨b, rfl, ?_⟩
  refine (wd_var 1 rfl (.int n)).go fun v5 H5 x5 d5 => ?_
  refine ⟨_, n, rfl, dp_int d5, by omega, ?_⟩
  refine ⟨sz_of (Nat.le_of_ble_eq_true rfl), fun q hq => ?_⟩
  obtain ⟨c0, c1, c2⟩ := mod_ne a0 a1 b0 b1
  refine hQ _ _ a ((a + 1 + b) % n) ?_ ((pl4.ext x5).ext (Ext.new hq)) a0 a1 c0 c1 c2.symm ?_
  · exact (((e1.trans (.of (x2.trans x3))).trans e4).trans (.of x5)).trans (.of (Ext.new hq))
  · rw [dp_int d2]
    exact .tup (sqT_of upd_same) (.cons (.int _) (.cons (.int _) .nil))

/-- a new pool -/
def spPool (K : PySem.W.Frag) (cs : List (Addr × Addr)) : Sp := fun vs H Q _ => ∃ a ns, vs = [.ref a] ∧ SqL K H a (ns.map V.int) ∧ ns.length ≤ 63 ∧ ∀ p s H', Ext H H' → PoolOk K H' p s ns 0 → H p = none → Q (.ref p) H'

abbrev N_lw_pool : List Str := ["script", "salt", "cell"]
theorem sc_lw_pool : FnScope N_lw_pool ["script"] (defScope s_lw_pool) := ⟨rfl, rfl, rfl, by decide +kernel, rfl, by decide +kernel, by decide +kernel⟩
theorem f_lw_pool (h : Def1 K mg base cs "_law_pool" s_lw_pool false) (B : Bi mg)  : FnS P w K mg base 1 "_law_pool" (spPool K cs) := by
  obtain ⟨f, fd, c, h, hm, hg⟩ := h.ex
  refine fn_any h hm sc_lw_pool (h.fn.bindsN fun _ _ _ _ _ _ us hl => match us, hl with | [_], _ => rfl) (fun vs H Q E ⟨_, _, e, _⟩ => by rw [e]; rfl) ?_
  have nd := sc_lw_pool.nd
  intro A outer s H vs Q E hr ⟨a, ns, ev, hS, hl, hQ⟩
  subst ev
  have h0 : Dp K H (.ref a) (.list (ns.map .int)) := .lst hS dps_ints
  refine wb_set (P := fun v H' => v = .int 7) 1 nd (Ev.imp wd_int fun v _ _ dv => dp_int dv) fun v1 H1 x1 e1 => ?_
  subst e1
  refine wb_for (M := Ext) [2] (fun (z : Int) => [.int z]) (fun H2 i σ' H' => Ext H2 H' ∧ ∃ z u, σ' = [some (.ref a), some (.int z), u] ∧ 0 ≤ z ∧ z < 1000003) (Src.as (xs := cutL ns none (some 63)) (enc := PyData.int) (src_L (Wl.wd (wd_slL (wd_var 0 rfl (x1.dp h0)) wo_none (wo_some wd_int)))) cutL_map) PassesOwn.never rfl (fun x _ => gj_nm 2 nd) ?_ ?_ ?_ ?_
  · intro H2 x2
    exact ⟨Ext.refl _, 7, none, rfl, by decide, by decide⟩
  · intro H2 i σ' H' ⟨y, _⟩
    exact y
  · intro H2 i z σ' H' H'' ws x2 hz ⟨y1, t, u, e, t0, t1⟩ y2 hw
    obtain ⟨v2, ws, rfl, h2, hw⟩ := dps_cons hw
    obtain rfl := dps_nil hw
    subst e
    refine wb_set (P := fun v H' => ∃ t' : Int, v = .int t' ∧ 0 ≤ t' ∧ t' < 1000003) 1 nd (Ev.imp (wd_bin (bn_mod (by decide)) (wd_int1 B (wd_bin bn_add (wd_bin (bn_mul (smallW (nat_lt400 (n := 1000003) (by omega) (by decide)) (by decide))) (wd_var 1 rfl (.int t)) wd_int) (wd_var 2 rfl h2))) wd_int) fun v _ _ dv => ⟨_, dp_int dv, Int.emod_nonneg _ (by decide), Int.emod_lt_of_pos _ (by decide)⟩) fun v3 H3 x3 ⟨t', e3, t0', t1'⟩ => ?_
    subst e3
    exact wb_nil ⟨(y1.trans y2).trans x3, t', _, rfl, t0', t1'⟩
  · intro H2 σ' H' x2 ⟨y1, t, u, e, t0, t1⟩
    subst e
    have x := (x1.trans x2).trans y1
    refine wb_ret (wl_lst (wa_cons (Wl.wd (wl_ofL B (wd_var 0 rfl (x.dp h0)))) (wa_cons wd_int (wa_cons wd_int (wa_cons wd_int (wa_cons (wd_var 1 rfl (.int t)) wa_nil)))))) fun v H3 x3 ⟨p, xs, ev, hp, e3, d3⟩ => ?_
    obtain ⟨w1, ws, rfl, g1, d3⟩ := dps_cons d3
    obtain ⟨w2, ws, rfl, g2, d3⟩ := dps_cons d3
    obtain ⟨w3, ws, rfl, g3, d3⟩ := dps_cons d3
    obtain ⟨w4, ws, rfl, g4, d3⟩ := dps_cons d3
    obtain ⟨w5, ws, rfl, g5, d3⟩ := dps_cons d3
    obtain rfl := dps_nil d3
    obtain ⟨s0, zs, rfl, q1, q2⟩ := dp_lst g1
    obtain rfl := of_dps_ints q2
    rw [dp_int g2, dp_int g3, dp_int g4, dp_int g5] at e3
    subst ev
    exact hQ p s0 H3 (x.trans x3) ⟨0, 0, 0, t, ⟨e3, q1⟩, by decide, by decide, by decide, t0, t1⟩ (x.free p hp)
end Hd


set_option Elab.async false
set_option linter.all false
set_option maxRecDepth 100000
set_option maxHeartbeats 4000000
namespace Hd
open PySem PySem.Spec PyProof.Rows L2 FW
variable {P : Program} {w : World} {K : PySem.W.Frag} {mg : Str → Option Value} {base : Heap} {cs : List (Addr × Addr)}

structure NetI (n : Int) (arcs : List Arc) : Prop where
  all : ∀ a ∈ arcs, 0 ≤ a.1 ∧ a.1 < n ∧ 0 ≤ a.2.1 ∧ a.2.1 < n ∧ a.1 ≠ a.2.1 ∧ 0 ≤ a.2.2 ∧ a.2.2 < 101
theorem NetI.app {n : Int} {arcs : List Arc} {a : Arc} (h : NetI n arcs) (g : 0 ≤ a.1 ∧ a.1 < n ∧ 0 ≤ a.2.1 ∧ a.2.1 < n ∧ a.1 ≠ a.2.1 ∧ 0 ≤ a.2.2 ∧ a.2.2 < 101) : NetI n (arcs ++ [a]) :=
  ⟨fun b hb => by
    rcases List.mem_append.mp hb with z | z
    · exact h.all b z
    · have e : b = a := by simpa using z
      rw [e]; exact g⟩
/-- a net -/
def spNet (K : PySem.W.Frag) (cs : List (Addr × Addr)) : Sp := fun vs H Q _ => ∃ p places most s ns m, vs = [.ref p, .int places, .int most] ∧ 2 ≤ places ∧ places ≤ 10 ∧ 0 ≤ most ∧ most ≤ 20 ∧ PoolOk K H p s ns m ∧ m < 2 ^ 40 ∧ Tabs cs H ∧ ∀ v H' n arcs, ExtP p H H' → PoolOk K H' p s ns (m + 100) → 2 ≤ n → n ≤ places → NetI n arcs → (arcs.length : Int) ≤ most → Dp K H' v (encN n arcs) → Q v H'

abbrev N_lw_net : List Str := ["pool", "places", "most", "n", "top", "arcs", "k", "i", "j"]
theorem sc_lw_net : FnScope N_lw_net ["pool", "places", "most"] (defScope s_lw_net) := ⟨rfl, rfl, rfl, by decide +kernel, rfl, by decide +kernel, by decide +kernel⟩
theorem f_lw_net (h : Def1 K mg base cs "_law_net" s_lw_net false) (B : Bi mg) (f_lw_draw : FnS P w K mg base 2 "_law_draw" (spDraw K cs)) : FnS P w K mg base 3 "_law_net" (spNet K cs) := by
  obtain ⟨f, fd, c, h, hm, hg⟩ := h.ex
  refine fn_any h hm sc_lw_net (h.fn.bindsN fun _ _ _ _ _ _ us hl => match us, hl with | [_, _, _], _ => rfl) (fun vs H Q E ⟨_, _, _, _, _, _, e, _⟩ => by rw [e]; rfl) ?_
  have nd := sc_lw_net.nd
  intro A outer s H vs Q E hr ⟨p, places, most, s0, ns, m, ev, pl2, pl10, mo0, mo20, hpool, mm, T, hQ⟩
  subst ev
  have tb : ∀ {H' : Hp}, ExtP p H H' → Tabs cs H' := fun e q hq => e.tab _ (T q hq)
  refine wb_setW 3 nd (w_addR wd_int fun H1 x1 => w_draw f_lw_draw hr (by decide) (T.ext x1) (hpool.ext x1) (by omega) (wr_var 0 rfl) (wd_bin bn_sub (wd_var 1 rfl (.int places)) wd_int) (by omega) (by omega) fun z H2 e2 pl z0 z1 => ⟨z, rfl, ?_⟩)
  have E2 : ExtP p H H2 := (ExtB.of x1).trans e2
  clear e2 x1
  generalize hn : 2 + z = n
  have n2 : 2 ≤ n := by omega
  have n10 : n ≤ places := by omega
  refine wb_setW 4 nd (of_pe (pe_ix ix_tup w_pe w_pe (by intro _ _; rfl)) ?_)
  refine (wd_tup (wa_cons wd_int (wa_cons wd_int (wa_cons wd_int wa_nil)))).go fun vt H3 x3 dt => ?_
  have pl3 := pl.ext x3
  refine w_draw f_lw_draw hr (by decide) (tb (E2.trans (.of x3))) pl3 (by omega) (wr_var 0 rfl) wd_int (by decide) (by decide) fun y H4 e4 pl4 y0 y1 => ?_
  obtain ⟨tp, txs, rfl, ht1, ht2⟩ := dp_tup (Fz.dp (ExtP.fz e4 pl3.lst) rfl dt)
  obtain ⟨u1, us, rfl, g1, ht2⟩ := dps_cons ht2
  obtain ⟨u2, us, rfl, g2, ht2⟩ := dps_cons ht2
  obtain ⟨u3, us, rfl, g3, ht2⟩ := dps_cons ht2
  obtain rfl := dps_nil ht2
  have htop : ∃ top : Int, 2 ≤ top ∧ top ≤ 101 ∧ atI [u1, u2, u3] y = some (.int top) := by
    rw [dp_int g1, dp_int g2, dp_int g3]
    have : y = 0 ∨ y = 1 ∨ y = 2 := by omega
    rcases this with rfl | rfl | rfl
    · exact ⟨2, by decide, by decide, rfl⟩
    · exact ⟨6, by decide, by decide, rfl⟩
    · exact ⟨101, by decide, by decide, rfl⟩
  obtain ⟨top, t2, t101, hat⟩ := htop
  refine ⟨tp, _, y, .int top, rfl, rfl, ht1, hat, ?_⟩
  have E4 : ExtP p H H4 := (E2.trans (.of x3)).trans e4
  refine wb_set (P := fun v H' => ∃ q, v = .ref q ∧ H4 q = none ∧ H' q = some (.lst [])) 5 nd (Ev.imp (wl_lst wa_nil) fun v H5 _ ⟨q, xs, e1, e2, e3, e4⟩ => ⟨q, e1, e2, by rw [e3, dps_nil e4]⟩) fun v5 H5 x5 ⟨q, ev5, hq4, hq5⟩ => ?_
  subst ev5
  have off := pl4.off hq4
  have pl5 := pl4.ext x5
  have E5 : ExtP p H H5 := E4.trans (.of x5)
  have hqp : q ≠ p := fun z => off.2 z.symm
  have final : ∀ {H' : Hp}, ExtB (fun b => b = p ∨ b = q) H5 H' → ExtP p H H' := fun x => ExtP.drop (q := q) E4 (E4.free q hq4) ((ExtB.of x5).trans x)
  have toB : ∀ {H1 H2 : Hp}, ExtP p H1 H2 → ExtB (fun b => b = p ∨ b = q) H1 H2 := fun x => x.mono fun b hb => .inl hb
  have tb2 : ∀ {H' : Hp}, ExtB (fun b => b = p ∨ b = q) H5 H' → Tabs cs H' := fun x => tb (final x)
  refine wb_forR 6 B PassesOwn.never rfl nd (w_draw f_lw_draw hr (by decide) (tb E5) pl5 (by omega) (wr_var 0 rfl) (wd_bin bn_add (wd_var 2 rfl (.int most)) wd_int) (by omega) (by omega) fun c H6 e6 pl6 c0 c1 => ?_)
  have E6 := toB e6
  refine ⟨c.toNat, by rw [Int.toNat_of_nonneg c0], by omega, fun t σ' H' => ∃ u6 u7 u8 arcs xs, σ' = [some (.ref p), some (.int places), some (.int most), some (.int n), some (.int top), some (.ref q), u6, u7, u8] ∧ H' q = some (.lst xs) ∧ DpAll K H' xs (arcs.map encA) ∧ NetI n arcs ∧ arcs.length = t ∧ PoolOk K H' p s0 ns (m + 3 + 3 * t) ∧ ExtB (fun b => b = p ∨ b = q) H5 H', ?_, ?_, ?_⟩
  · refine ⟨none, none, none, [], [], rfl, ?_, .nil, ⟨fun a ha => by cases ha⟩, rfl, pl6.mono (by omega), E6⟩
    exact e6.keep q _ (fun z => hqp z) hq5 (fun _ z => by cases z)
  · intro t σ' H7 ht ⟨u6, u7, u8, arcs, xs, eσ, hq7, dxs, net, len, pl7, E7⟩
    subst eσ
    refine wb_setW 7 nd (w_draw f_lw_draw hr (by decide) (tb2 E7) pl7 (by omega) (wr_var 0 rfl) (wd_var 3 rfl (.int n)) (by omega) (by omega) fun a H8 e8 pl8 a0 a1 => ?_)
    have E8 := E7.trans (toB e8)
    refine wb_setW 8 nd (of_pe (pe_op op_mod w_pe w_pe) (w_addR (wd_bin bn_add (wd_var 7 rfl (.int a)) wd_int) fun H9 x9 => w_draw f_lw_draw hr (by decide) (tb2 (E8.trans (.of x9))) (pl8.ext x9) (by omega) (wr_var 0 rfl) (wd_bin bn_sub (wd_var 3 rfl (.int n)) wd_int) (by omega) (by omega) fun b H10 e10 pl10 b0 b1 => ⟨b, rfl, (wd_var 3 rfl (.int n)).go fun w11 H11 x11 d11 => ⟨_, n, rfl, dp_int d11, by omega, ?_⟩⟩))
    obtain ⟨k0, k1, k2⟩ := mod_ne a0 a1 b0 b1
    have E11 := ((E8.trans (.of x9)).trans (toB e10)).trans (.of x11)
    have pl11 := pl10.ext x11
    have hqs : ∀ {Ha Hb : Hp}, ExtP p Ha Hb → Ha q = some (.lst xs) → Hb q = some (.lst xs) := fun x h => x.keep q _ (fun z => hqp z) h (fun _ z => by cases z)
    have hq11 : H11 q = some (.lst xs) := x11.lst (hqs e10 (x9.lst (hqs e8 hq7)))
    have fz11 : Fz H7 H11 := (((ExtP.fz e8 pl7.lst).trans x9.toFz).trans (ExtP.fz e10 (pl8.ext x9).lst)).trans x11.toFz
    refine wb_appendW hq11 (wr_var 5 rfl) (fun H12 x12 => ?_) (fun pa => pe_bm PySem.F.plainAttrs_list PySem.F.slot_list_append PySem.F.type_list_append mt_append w_pe pa)
    refine of_pe (pe_tup (pa_cons w_pe (pa_cons w_pe (pa_cons w_pe pa_nil)))) ?_
    refine (wd_var 7 rfl (.int a)).go fun w1 H13 x13 d1 => ?_
    refine (wd_var 8 rfl (.int ((a + 1 + b) % n))).go fun w2 H14 x14 d2 => ?_
    have x := (x12.trans x13).trans x14
    refine w_draw f_lw_draw hr (by decide) (tb2 (E11.trans (.of x))) (pl11.ext x) (by omega) (wr_var 0 rfl) (wd_var 4 rfl (.int top)) (by omega) (by omega) fun g H15 e15 pl15 g0 g1 => ?_
    refine ⟨sz_of (Nat.le_of_ble_eq_true rfl), fun r hr' => ?_⟩
    have hq15 : H15 q = some (.lst xs) := hqs e15 (x.lst hq11)
    have nqr : q ≠ r := ne_of_none hq15 hr'
    have fz15 : Fz H7 H15 := (fz11.trans x.toFz).trans (ExtP.fz e15 (pl11.ext x).lst)
    have hqr : (upd H15 r (.tup [w1, w2, .int g])) q = some (.lst xs) := by rw [upd_ne nqr]; exact hq15
    have dxs15 := ((Ext.new (o := .tup [w1, w2, .int g]) hr').dps (fz15.dps frz_arcs dxs))
    have lx : xs.length < 100000 := by
      rw [dxs.len, List.length_map]
      omega
    refine ⟨xs, hqr, lx, wb_nil ⟨_, _, _, arcs ++ [(a, ((a + 1 + b) % n), g)], _, rfl, upd_same, ?_, net.app ⟨a0, a1, k0, k1, k2.symm, g0, by show g < 101; omega⟩, by rw [List.length_append, len]; rfl, ?_, ?_⟩⟩
    · rw [List.map_append]
      refine ((Fz.lst hqr).dps frz_arcs dxs15).app (.cons ((Fz.lst hqr).dp rfl ?_) .nil)
      rw [dp_int d1, dp_int d2]
      exact .tup (sqT_of upd_same) (.cons (.int a) (.cons (.int ((a + 1 + b) % n)) (.cons (.int g) .nil)))
    · exact ((pl15.ext (Ext.new hr')).other off).mono (by omega)
    · exact (((E11.trans (.of x)).trans (toB e15)).trans (.of (Ext.new hr'))).trans (ExtB.upd (S := fun b => b = p ∨ b = q) (.inr rfl) hqr (fun _ z => by cases z))
  · intro σ' H7 ⟨u6, u7, u8, arcs, xs, eσ, hq7, dxs, net, len, pl7, E7⟩
    subst eσ
    refine wb_ret (wd_tup (wa_cons (wd_var 3 rfl (.int n)) (wa_cons (wd_tupL B (wd_var 5 rfl (.lst (sqL_of hq7) dxs))) wa_nil))) fun v H8 x8 dv => ?_
    exact hQ v H8 n arcs ((final E7).trans (.of x8)) ((pl7.ext x8).mono (by omega)) n2 n10 net (by omega) dv
end Hd


set_option Elab.async false
set_option linter.all false
set_option maxRecDepth 100000
set_option maxHeartbeats 4000000
namespace Hd
open PySem PySem.Spec PyProof.Rows L2 FW
variable {P : Program} {w : World} {K : PySem.W.Frag} {mg : Str → Option Value} {base : Heap} {cs : List (Addr × Addr)}

structure TiesI (n : Int) (ties : List Arc) : Prop where
  all : ∀ a ∈ ties, 0 ≤ a.1 ∧ a.1 < a.2.1 ∧ a.2.1 < n ∧ 0 ≤ a.2.2 ∧ a.2.2 < 5
structure OrdsI (n : Int) (orders : List Arc) : Prop where
  all : ∀ a ∈ orders, 0 ≤ a.1 ∧ a.1 < n ∧ 0 ≤ a.2.1 ∧ a.2.1 < n ∧ a.1 ≠ a.2.1 ∧ 1 ≤ a.2.2 ∧ a.2.2 < 5
theorem all_app {α : Type} {P : α → Prop} {xs : List α} {a : α} (h : ∀ x ∈ xs, P x) (g : P a) : ∀ x ∈ xs ++ [a], P x := fun b hb => by
  rcases List.mem_append.mp hb with z | z
  · exact h b z
  · have e : b = a := by simpa using z
    rw [e]; exact g
/-- ties and orders -/
def spOrders (K : PySem.W.Frag) (cs : List (Addr × Addr)) : Sp := fun vs H Q _ => ∃ p s ns m, vs = [.ref p] ∧ PoolOk K H p s ns m ∧ m < 2 ^ 40 ∧ Tabs cs H ∧ ∀ v H' n ties orders, ExtP p H H' → PoolOk K H' p s ns (m + 100) → 2 ≤ n → n ≤ 4 → TiesI n ties → ties.length ≤ 4 → OrdsI n orders → orders.length ≤ 3 → Dp K H' v (.tuple [.int n, .tuple (ties.map encA), .tuple (orders.map encA)]) → Q v H'

abbrev N_lw_orders : List Str := ["pool", "n", "ties", "k", "i", "orders", "u", "v"]
theorem sc_lw_orders : FnScope N_lw_orders ["pool"] (defScope s_lw_orders) := ⟨rfl, rfl, rfl, by decide +kernel, rfl, by decide +kernel, by decide +kernel⟩
theorem f_lw_orders (h : Def1 K mg base cs "_law_orders" s_lw_orders false) (B : Bi mg) (f_lw_draw : FnS P w K mg base 2 "_law_draw" (spDraw K cs)) (f_lw_ends : FnS P w K mg base 3 "_law_ends" (spEnds K cs)) : FnS P w K mg base 4 "_law_orders" (spOrders K cs) := by
  obtain ⟨f, fd, c, h, hm, hg⟩ := h.ex
  refine fn_any h hm sc_lw_orders (h.fn.bindsN fun _ _ _ _ _ _ us hl => match us, hl with | [_], _ => rfl) (fun vs H Q E ⟨_, _, _, _, e, _⟩ => by rw [e]; rfl) ?_
  have nd := sc_lw_orders.nd
  intro A outer s H vs Q E hr ⟨p, s0, ns, m, ev, hpool, mm, T, hQ⟩
  subst ev
  have tb : ∀ {H' : Hp}, ExtP p H H' → Tabs cs H' := fun e q hq => e.tab _ (T q hq)
  refine wb_setW 1 nd (w_addR wd_int fun H1 x1 => w_draw f_lw_draw hr (by decide) (T.ext x1) (hpool.ext x1) (by omega) (wr_var 0 rfl) wd_int (by decide) (by decide) fun z H2 e2 pl z0 z1 => ⟨z, rfl, ?_⟩)
  have E4 : ExtP p H H2 := (ExtB.of x1).trans e2
  clear e2 x1
  generalize hn : 2 + z = n
  have n2 : 2 ≤ n := by omega
  have n4 : n ≤ 4 := by omega
  refine wb_set (P := fun v H' => ∃ q, v = .ref q ∧ H2 q = none ∧ H' q = some (.lst [])) 2 nd (Ev.imp (wl_lst wa_nil) fun v H5 _ ⟨q, xs, e1, e2, e3, e4⟩ => ⟨q, e1, e2, by rw [e3, dps_nil e4]⟩) fun v5 H5 x5 ⟨q, ev5, hq4, hq5⟩ => ?_
  subst ev5
  have off := pl.off hq4
  have pl5 := pl.ext x5
  have E5 : ExtP p H H5 := E4.trans (.of x5)
  have hqp : q ≠ p := fun z => off.2 z.symm
  have final : ∀ {H' : Hp}, ExtB (fun b => b = p ∨ b = q) H5 H' → ExtP p H H' := fun x => ExtP.drop (q := q) E4 (E4.free q hq4) ((ExtB.of x5).trans x)
  have toB : ∀ {r : Addr} {H1 H2 : Hp}, ExtP p H1 H2 → ExtB (fun b => b = p ∨ b = r) H1 H2 := fun x => x.mono fun b hb => .inl hb
  have tb2 : ∀ {H' : Hp}, ExtB (fun b => b = p ∨ b = q) H5 H' → Tabs cs H' := fun x => tb (final x)
  refine wb_forR 3 B PassesOwn.never rfl nd (w_draw f_lw_draw hr (by decide) (tb E5) pl5 (by omega) (wr_var 0 rfl) wd_int (by decide) (by decide) fun c H6 e6 pl6 c0 c1 => ?_)
  have E6 := toB (r := q) e6
  refine ⟨c.toNat, by rw [Int.toNat_of_nonneg c0], by omega, fun t σ' H' => ∃ u3 u4 u5 u6 u7 arcs xs, σ' = [some (.ref p), some (.int n), some (.ref q), u3, u4, u5, u6, u7] ∧ H' q = some (.lst xs) ∧ DpAll K H' xs (arcs.map encA) ∧ TiesI n arcs ∧ arcs.length = t ∧ PoolOk K H' p s0 ns (m + 2 + 3 * t) ∧ ExtB (fun b => b = p ∨ b = q) H5 H', ?_, ?_, ?_⟩
  · refine ⟨none, none, none, none, none, [], [], rfl, ?_, .nil, ⟨fun a ha => by cases ha⟩, rfl, pl6.mono (by omega), E6⟩
    exact e6.keep q _ (fun z => hqp z) hq5 (fun _ z => by cases z)
  · intro t σ' H7 ht ⟨u3, u4, u5, u6, u7, arcs, xs, eσ, hq7, dxs, net, len, pl7, E7⟩
    subst eσ
    refine wb_setW 4 nd (w_draw f_lw_draw hr (by decide) (tb2 E7) pl7 (by omega) (wr_var 0 rfl) (wd_bin bn_sub (wd_var 1 rfl (.int n)) wd_int) (by omega) (by omega) fun a H8 e8 pl8 a0 a1 => ?_)
    have E8 := E7.trans (toB (r := q) e8)
    have hqs : ∀ {Ha Hb : Hp}, ExtP p Ha Hb → Ha q = some (.lst xs) → Hb q = some (.lst xs) := fun x h => x.keep q _ (fun z => hqp z) h (fun _ z => by cases z)
    have hq8 := hqs e8 hq7
    have fz8 : Fz H7 H8 := ExtP.fz e8 pl7.lst
    refine wb_appendW hq8 (wr_var 2 rfl) (fun H12 x12 => ?_) (fun pa => pe_bm PySem.F.plainAttrs_list PySem.F.slot_list_append PySem.F.type_list_append mt_append w_pe pa)
    refine of_pe (pe_tup (pa_cons w_pe (pa_cons w_pe (pa_cons w_pe pa_nil)))) ?_
    refine (wd_var 4 rfl (.int a)).go fun w1 H13 x13 d1 => ?_
    have xa := x12.trans x13
    refine w_addR (wd_bin bn_add (wd_var 4 rfl (.int a)) wd_int) fun H14 x14 => w_draw f_lw_draw hr (by decide) (tb2 (E8.trans (.of (xa.trans x14)))) (pl8.ext (xa.trans x14)) (by omega) (wr_var 0 rfl) (wd_bin bn_sub (wd_bin bn_sub (wd_var 1 rfl (.int n)) wd_int) (wd_var 4 rfl (.int a))) (by omega) (by omega) fun b H15 e15 pl15 b0 b1 => ⟨b, rfl, ?_⟩
    have E15 := (E8.trans (.of (xa.trans x14))).trans (toB (r := q) e15)
    refine w_draw f_lw_draw hr (by decide) (tb2 E15) pl15 (by omega) (wr_var 0 rfl) wd_int (by decide) (by decide) fun g H16 e16 pl16 g0 g1 => ?_
    have E16 := E15.trans (toB (r := q) e16)
    refine ⟨sz_of (Nat.le_of_ble_eq_true rfl), fun r hr' => ?_⟩
    have hq16 : H16 q = some (.lst xs) := hqs e16 (hqs e15 ((xa.trans x14).lst hq8))
    have nqr : q ≠ r := ne_of_none hq16 hr'
    have fz16 : Fz H7 H16 := ((fz8.trans (xa.trans x14).toFz).trans (ExtP.fz e15 (pl8.ext (xa.trans x14)).lst)).trans (ExtP.fz e16 pl15.lst)
    have hqr : (upd H16 r (.tup [w1, .int (a + 1 + b), .int g])) q = some (.lst xs) := by rw [upd_ne nqr]; exact hq16
    have dxs16 := ((Ext.new (o := .tup [w1, .int (a + 1 + b), .int g]) hr').dps (fz16.dps frz_arcs dxs))
    have lx : xs.length < 100000 := by
      rw [dxs.len, List.length_map]
      omega
    refine ⟨xs, hqr, lx, wb_nil ⟨_, _, _, _, _, arcs ++ [(a, a + 1 + b, g)], _, rfl, upd_same, ?_, ⟨all_app net.all ⟨a0, by show a < a + 1 + b; omega, by show a + 1 + b < n; omega, g0, g1⟩⟩, by rw [List.length_append, len]; rfl, ?_, ?_⟩⟩
    · rw [List.map_append]
      refine ((Fz.lst hqr).dps frz_arcs dxs16).app (.cons ((Fz.lst hqr).dp rfl ?_) .nil)
      rw [dp_int d1]
      exact .tup (sqT_of upd_same) (.cons (.int a) (.cons (.int _) (.cons (.int g) .nil)))
    · exact ((pl16.ext (Ext.new hr')).other off).mono (by omega)
    · exact (E16.trans (.of (Ext.new hr'))).trans (ExtB.upd (S := fun b => b = p ∨ b = q) (.inr rfl) hqr (fun _ z => by cases z))
  · intro σ' H7 ⟨u3, u4, u5, u6, u7, ties, xs, eσ, hq7, dxs, net, len, pl7, E7⟩
    subst eσ
    have EP7 : ExtP p H H7 := final E7
    refine wb_set (P := fun v H' => ∃ q2, v = .ref q2 ∧ H7 q2 = none ∧ H' q2 = some (.lst [])) 5 nd (Ev.imp (wl_lst wa_nil) fun v H5 _ ⟨q, xs, e1, e2, e3, e4⟩ => ⟨q, e1, e2, by rw [e3, dps_nil e4]⟩) fun v8 H8 x8 ⟨q2, ev8, hq27, hq28⟩ => ?_
    subst ev8
    have off2 := pl7.off hq27
    have pl8 := pl7.ext x8
    have E8 : ExtP p H H8 := EP7.trans (.of x8)
    have hq2p : q2 ≠ p := fun z => off2.2 z.symm
    have hqq : q ≠ q2 := ne_of_none hq7 hq27
    have hq8 := x8.lst hq7
    have final2 : ∀ {H' : Hp}, ExtB (fun b => b = p ∨ b = q2) H8 H' → ExtP p H H' := fun x => ExtP.drop (q := q2) EP7 (EP7.free q2 hq27) ((ExtB.of x8).trans x)
    have tb3 : ∀ {H' : Hp}, ExtB (fun b => b = p ∨ b = q2) H8 H' → Tabs cs H' := fun x => tb (final2 x)
    refine wb_forR 3 B PassesOwn.never rfl nd (w_addR wd_int fun H9 x9 => w_draw f_lw_draw hr (by decide) (tb (E8.trans (.of x9))) (pl8.ext x9) (by omega) (wr_var 0 rfl) wd_int (by decide) (by decide) fun c2 H10 e10 pl10 c20 c21 => ⟨c2, rfl, ?_⟩)
    have E10 := (ExtB.of (S := fun b => b = p ∨ b = q2) x9).trans (toB (r := q2) e10)
    have fz10 : Fz H7 H10 := (x8.toFz.trans x9.toFz).trans (ExtP.fz e10 (pl8.ext x9).lst)
    have qk : ∀ {r : Addr} {ys : List V} {Ha Hb : Hp}, r ≠ p → ExtP p Ha Hb → Ha r = some (.lst ys) → Hb r = some (.lst ys) := fun n x h => x.keep _ _ n h (fun _ z => by cases z)
    refine ⟨(1 + c2).toNat, by rw [Int.toNat_of_nonneg (by omega)], by omega, fun t σ' H' => ∃ u3 u4 u6 u7 ords ys, σ' = [some (.ref p), some (.int n), some (.ref q), u3, u4, some (.ref q2), u6, u7] ∧ H' q2 = some (.lst ys) ∧ DpAll K H' ys (ords.map encA) ∧ OrdsI n ords ∧ ords.length = t ∧ PoolOk K H' p s0 ns (m + 20 + 3 * t) ∧ ExtB (fun b => b = p ∨ b = q2) H8 H' ∧ H' q = some (.lst xs) ∧ DpAll K H' xs (ties.map encA), ?_, ?_, ?_⟩
    · exact ⟨_, _, _, _, [], [], rfl, qk hq2p e10 (x9.lst hq28), .nil, ⟨fun a ha => by cases ha⟩, rfl, pl10.mono (by omega), E10, qk hqp e10 (x9.lst hq8), fz10.dps frz_arcs dxs⟩
    · intro t σ' H11 ht ⟨u3, u4, u6, u7, ords, ys, eσ, hq211, dys, net2, len2, pl11, E11, hq11, dxs11⟩
      subst eσ
      refine wb_asgW (w_callS f_lw_ends hr (by decide) (pa_cons w_pe (pa_cons w_pe pa_nil)) ?_)
      refine (wr_var (p := p) 0 rfl).go fun w0 H12 x12 ew0 => ?_
      refine (wd_var 1 rfl (.int n)).go fun w1 H13 x13 d1 => ?_
      have xb := x12.trans x13
      refine ⟨p, n, s0, ns, m + 20 + 3 * t, by rw [ew0, dp_int d1], n2, by omega, pl11.ext xb, by omega, (tb3 E11).ext xb, fun v H14 a b e14 pl14 a0 a1 b0 b1 ab dv => ?_⟩
      refine (gj_tup (is := [6, 7]) (bs := [.int a, .int b]) rfl (gj_cons (gj_nm 6 nd) (gj_cons (gj_nm 7 nd) gj_nil))).go _ H14 v dv _ fun vs hv => ?_
      obtain ⟨y6, vs, rfl, k6, hv⟩ := dps_cons hv
      obtain ⟨y7, vs, rfl, k7, hv⟩ := dps_cons hv
      obtain rfl := dps_nil hv
      rw [dp_int k6, dp_int k7]
      have E14 := (E11.trans (.of xb)).trans (toB (r := q2) e14)
      have hq214 := qk hq2p e14 (xb.lst hq211)
      have hq14 := qk hqp e14 (xb.lst hq11)
      have fz14 : Fz H11 H14 := xb.toFz.trans (ExtP.fz e14 (pl11.ext xb).lst)
      refine wb_appendW hq214 (wr_var 5 rfl) (fun H15 x15 => ?_) (fun pa => pe_bm PySem.F.plainAttrs_list PySem.F.slot_list_append PySem.F.type_list_append mt_append w_pe pa)
      refine of_pe (pe_tup (pa_cons w_pe (pa_cons w_pe (pa_cons w_pe pa_nil)))) ?_
      refine (wd_var 6 rfl (.int a)).go fun z1 H16 x16 f1 => ?_
      refine (wd_var 7 rfl (.int b)).go fun z2 H17 x17 f2 => ?_
      have xc := (x15.trans x16).trans x17
      refine w_addR wd_int fun H18 x18 => w_draw f_lw_draw hr (by decide) (tb3 (E14.trans (.of (xc.trans x18)))) (pl14.ext (xc.trans x18)) (by omega) (wr_var 0 rfl) wd_int (by decide) (by decide) fun g H19 e19 pl19 g0 g1 => ⟨g, rfl, ?_⟩
      have E19 := (E14.trans (.of (xc.trans x18))).trans (toB (r := q2) e19)
      refine ⟨sz_of (Nat.le_of_ble_eq_true rfl), fun r hr' => ?_⟩
      have hq219 := qk hq2p e19 ((xc.trans x18).lst hq214)
      have hq19 := qk hqp e19 ((xc.trans x18).lst hq14)
      have nqr : q2 ≠ r := ne_of_none hq219 hr'
      have nqr1 : q ≠ r := ne_of_none hq19 hr'
      have fz19 : Fz H11 H19 := (fz14.trans (xc.trans x18).toFz).trans (ExtP.fz e19 (pl14.ext (xc.trans x18)).lst)
      have hqr : (upd H19 r (.tup [z1, z2, .int (1 + g)])) q2 = some (.lst ys) := by rw [upd_ne nqr]; exact hq219
      have up := Ext.new (o := .tup [z1, z2, .int (1 + g)]) hr'
      have dys19 := up.dps (fz19.dps frz_arcs dys)
      have lx : ys.length < 100000 := by
        rw [dys.len, List.length_map]
        omega
      refine ⟨ys, hqr, lx, wb_nil ⟨_, _, _, _, ords ++ [(a, b, 1 + g)], _, rfl, upd_same, ?_, ⟨all_app net2.all ⟨a0, a1, b0, b1, ab, by show 1 ≤ 1 + g; omega, by show 1 + g < 5; omega⟩⟩, by rw [List.length_append, len2]; rfl, ?_, ?_, ?_, ?_⟩⟩
      · rw [List.map_append]
        refine ((Fz.lst hqr).dps frz_arcs dys19).app (.cons ((Fz.lst hqr).dp rfl ?_) .nil)
        rw [dp_int f1, dp_int f2]
        exact .tup (sqT_of upd_same) (.cons (.int a) (.cons (.int b) (.cons (.int _) .nil)))
      · exact ((pl19.ext up).other off2).mono (by omega)
      · exact (E19.trans (.of up)).trans (ExtB.upd (S := fun b => b = p ∨ b = q2) (.inr rfl) hqr (fun _ z => by cases z))
      · rw [upd_ne hqq, upd_ne nqr1]; exact hq19
      · exact (Fz.lst hqr).dps frz_arcs (up.dps (fz19.dps frz_arcs dxs11))
    · intro σ' H11 ⟨u3, u4, u6, u7, ords, ys, eσ, hq211, dys, net2, len2, pl11, E11, hq11, dxs11⟩
      subst eσ
      refine wb_ret (wd_tup (wa_cons (wd_var 1 rfl (.int n)) (wa_cons (wd_tupL B (wd_var 2 rfl (.lst (sqL_of hq11) dxs11))) (wa_cons (wd_tupL B (wd_var 5 rfl (.lst (sqL_of hq211) dys))) wa_nil)))) fun v H12 x12 dv => ?_
      exact hQ v H12 n ties ords ((final2 E11).trans (.of x12)) ((pl11.ext x12).mono (by omega)) n2 n4 net (by omega) net2 (by omega) dv
end Hd


set_option Elab.async false
set_option linter.all false
set_option maxRecDepth 100000
set_option maxHeartbeats 4000000
namespace Hd
open PySem PySem.Spec PyProof.Rows L2 FW
/-! ### whole numbers as quotients -/
abbrev up (x : Int) : Q2 := (x, 1)
theorem quot1 {a : Int} : quot a 1 = up a := by
  unfold quot
  have e : Nat.gcd a.natAbs (1 : Int).natAbs = 1 := Nat.gcd_one_right _
  rw [e]
  simp
theorem plus1 {a b : Int} : plusQ (up a) (up b) = up (a + b) := by
  show quot (a * 1 + b * 1) (1 * 1) = _
  rw [Int.mul_one, Int.mul_one, Int.mul_one, quot1]
theorem minus1 {a b : Int} : minusQ (up a) (up b) = up (a - b) := by
  show quot (a * 1 - b * 1) (1 * 1) = _
  rw [Int.mul_one, Int.mul_one, Int.mul_one, quot1]
theorem times1 {a b : Int} : timesQ (up a) (up b) = up (a * b) := by
  show quot (a * b) (1 * 1) = _
  rw [Int.mul_one, quot1]
theorem less1 {a b : Int} : lessQ (up a) (up b) = decide (a < b) := by
  show decide (a * 1 < b * 1) = _
  rw [Int.mul_one, Int.mul_one]
theorem fold1 : ∀ {xs : List Int} {a : Int}, (xs.map up).foldl plusQ (up a) = up (a + xs.sum)
  | [], a => by simp
  | x :: xs, a => by
    rw [List.map_cons, List.foldl_cons, plus1, fold1, List.sum_cons, Int.add_assoc]
theorem total1 {xs : List Int} : totalQ (xs.map up) = up xs.sum := by
  unfold totalQ
  rw [show ((0 : Int), (1 : Int)) = up 0 from rfl, fold1, Int.zero_add]
theorem sm_of {a : Int} (h : a.natAbs ≤ 10 ^ 9) : sm a := by
  unfold sm
  exact Nat.lt_of_le_of_lt h (Nat.lt_of_lt_of_le (show 10 ^ 9 < 2 ^ 30 by decide) (Nat.pow_le_pow_right (by decide) (by decide)))
theorem qs_up {a : Int} (h : a.natAbs ≤ 10 ^ 9) : qs (up a) := qs1 (sm_of h)
theorem sum_le : ∀ {xs : List Int} {M : Nat}, (∀ x ∈ xs, x.natAbs ≤ M) → xs.sum.natAbs ≤ xs.length * M
  | [], M, _ => by simp
  | x :: xs, M, h => by
    have h1 := h x (List.mem_cons_self ..)
    have h2 := sum_le fun y hy => h y (List.mem_cons_of_mem _ hy)
    rw [List.sum_cons, List.length_cons, Nat.succ_mul]
    omega
theorem takes {xs : List Int} {M : Nat} (h : ∀ x ∈ xs, x.natAbs ≤ M) (b : xs.length * M ≤ 10 ^ 9) (i : Nat) : qs (totalQ ((xs.map up).take i)) := by
  rw [← List.map_take, total1]
  refine qs_up ?_
  have h1 := sum_le (xs := xs.take i) fun x hx => h x (List.mem_of_mem_take hx)
  have h2 : (xs.take i).length ≤ xs.length := by rw [List.length_take]; omega
  have h3 := Nat.mul_le_mul_right M h2
  omega
/-- the sum of a row's products -/
def dotI (row bs : List Int) : Int := ((row.zip bs).map fun z => z.1 * z.2).sum
theorem prods1 {row bs : List Int} : prodsQ row (bs.map up) = (((row.zip bs).filter fun z => !decide (z.1 = 0)).map fun z => z.1 * z.2).map up := by
  unfold prodsQ
  rw [List.zip_map_right, List.filter_map, List.map_map, List.map_map]
  apply List.map_congr_left
  intro z _
  show timesQ (up z.1) (up z.2) = up (z.1 * z.2)
  rw [times1]
theorem sum_drop0 : ∀ {zs : List (Int × Int)}, ((zs.filter fun z => !decide (z.1 = 0)).map fun z => z.1 * z.2).sum = (zs.map fun z => z.1 * z.2).sum
  | [] => rfl
  | z :: zs => by
    by_cases h : z.1 = 0
    · rw [List.filter_cons_of_neg (by simp [h]), sum_drop0, List.map_cons, List.sum_cons, h]
      simp
    · rw [List.filter_cons_of_pos (by simp [h]), List.map_cons, List.sum_cons, sum_drop0, List.map_cons, List.sum_cons]
theorem dot1 {row bs : List Int} : dotQ row (bs.map up) = up (dotI row bs) := by
  unfold dotQ
  rw [prods1, total1, sum_drop0]
  rfl
theorem dotOk1 {row bs : List Int} (hr : ∀ x ∈ row, x.natAbs ≤ 10 ^ 4) (hb : ∀ x ∈ bs, x = 0 ∨ x = 1) (hl : row.length ≤ 1000) : DotOk row (bs.map up) ∧ (dotI row bs).natAbs ≤ 10 ^ 7 := by
  have key : ∀ z ∈ row.zip bs, (z.1 * z.2).natAbs ≤ 10 ^ 4 := fun z hz => by
    obtain ⟨h1, h2⟩ := List.of_mem_zip (a := z.1) (b := z.2) hz
    have h3 := hr _ h1
    rcases hb _ h2 with e | e <;> rw [e] <;> simp
    exact h3
  have kf : ∀ x ∈ ((row.zip bs).filter fun z => !decide (z.1 = 0)).map fun z => z.1 * z.2, x.natAbs ≤ 10 ^ 4 := fun x hx => by
    obtain ⟨z, hz, rfl⟩ := List.mem_map.mp hx
    exact key z (List.mem_filter.mp hz).1
  have lz : (row.zip bs).length ≤ 1000 := by rw [List.length_zip]; omega
  have lf : (((row.zip bs).filter fun z => !decide (z.1 = 0)).map fun z => z.1 * z.2).length ≤ 1000 := by
    rw [List.length_map]
    exact Nat.le_trans (List.length_filter_le _ _) lz
  refine ⟨⟨?_, ?_, ?_, by omega⟩, ?_⟩
  · intro z hz
    rw [List.zip_map_right] at hz
    obtain ⟨y, hy, rfl⟩ := List.mem_map.mp hz
    obtain ⟨h1, h2⟩ := List.of_mem_zip (a := y.1) (b := y.2) hy
    refine ⟨sm_of (Nat.le_trans (hr _ h1) (by decide)), qs_up ?_⟩
    rcases hb _ h2 with e | e <;> rw [e] <;> decide
  · intro i
    rw [prods1]
    exact takes kf (by omega) i
  · intro x hx
    rw [prods1] at hx
    obtain ⟨y, hy, rfl⟩ := List.mem_map.mp hx
    exact qs_up (Nat.le_trans (kf y hy) (by decide))
  · unfold dotI
    have h := sum_le (xs := (row.zip bs).map fun z => z.1 * z.2) (M := 10 ^ 4) fun x hx => by
      obtain ⟨z, hz, rfl⟩ := List.mem_map.mp hx
      exact key z hz
    rw [List.length_map] at h
    have := Nat.mul_le_mul_right (10 ^ 4) lz
    omega
theorem least1 {c f : Int} : leastQ 0 c (up f) = up (if 0 < c * f then 0 else c * f) := by
  unfold leastQ
  rw [show ((0 : Int), (1 : Int)) = up 0 from rfl, show (c, (1 : Int)) = up c from rfl, times1, times1, less1, Int.zero_mul]
  by_cases h : 0 < c * f
  · rw [if_pos (by simpa using h), if_pos h]
  · rw [if_neg (by simpa using h), if_neg h]
theorem isQ_up {a : Int} : isQ (encQ (up a)) = true := by
  show (decide ((0 : Int) < 1) && decide ((Nat.gcd a.natAbs (1 : Int).natAbs : Int) = 1)) = true
  rw [show Nat.gcd a.natAbs (1 : Int).natAbs = 1 from Nat.gcd_one_right _]
  rfl
/-- two points of a row -/
theorem two {β : Int → Int} {i j x y : Int} (hi : 0 ≤ i) (hj : 0 ≤ j) (ne : i ≠ j) : ∀ n : Nat, ((List.range n).map fun v : Nat => (if (v : Int) = j then x else if (v : Int) = i then y else 0) * β (v : Int)).sum = (if j < n then x * β j else 0) + (if i < n then y * β i else 0)
  | 0 => by
    rw [if_neg (by omega), if_neg (by omega)]
    rfl
  | n + 1 => by
    rw [List.range_succ, List.map_append, List.sum_append, two hi hj ne n]
    simp only [List.map_cons, List.map_nil, List.sum_cons, List.sum_nil, Int.add_zero]
    by_cases h1 : (n : Int) = j
    · rw [if_pos h1, if_neg (show ¬ j < n by omega), if_pos (show j < (n + 1 : Nat) by omega), h1]
      by_cases h2 : i < n
      · rw [if_pos (by omega), if_pos (by omega)]; omega
      · rw [if_neg (by omega), if_neg (by omega)]; omega
    · rw [if_neg h1]
      by_cases h2 : (n : Int) = i
      · rw [if_pos h2, if_neg (show ¬ i < n by omega), if_pos (show i < (n + 1 : Nat) by omega), h2]
        by_cases h3 : j < n
        · rw [if_pos (by omega), if_pos (by omega)]; omega
        · rw [if_neg (by omega), if_neg (by omega)]; omega
      · rw [if_neg h2, Int.zero_mul]
        have e1 : (j < (n + 1 : Nat)) ↔ j < n := by omega
        have e2 : (i < (n + 1 : Nat)) ↔ i < n := by omega
        simp only [e1, e2, Int.add_zero]
theorem sum_filter {α : Type} {b : α → Bool} {f : α → Int} : ∀ {xs : List α}, ((xs.filter b).map f).sum = (xs.map fun x => f x * (if b x = true then 1 else 0)).sum
  | [] => rfl
  | x :: xs => by
    cases h : b x
    · rw [List.filter_cons_of_neg (by simp [h]), sum_filter, List.map_cons, List.sum_cons]
      simp [h]
    · rw [List.filter_cons_of_pos h, List.map_cons, List.sum_cons, sum_filter, List.map_cons, List.sum_cons]
      simp [h]
end Hd


set_option Elab.async false
set_option linter.all false
set_option maxRecDepth 100000
set_option maxHeartbeats 4000000
namespace Hd
open PySem PySem.Spec PyProof.Rows L2 FW
/-! ### sides -/
theorem asc_of {ns : List Int} (h : ns.Pairwise (· < ·)) : asc ns = true := by
  unfold asc
  rw [List.all_eq_true]
  intro k hk
  rw [List.mem_range] at hk
  rw [decide_eq_true_eq]
  have a : k < ns.length := by omega
  have b : k + 1 < ns.length := by omega
  rw [List.getD_eq_getElem?_getD, List.getD_eq_getElem?_getD, List.getElem?_eq_getElem a, List.getElem?_eq_getElem b]
  exact (List.pairwise_iff_getElem.mp h) k (k + 1) a b (by omega)
theorem places_of {n : Int} {ns : List Int} (h : ns.Pairwise (· < ·)) (r : ∀ x ∈ ns, 0 ≤ x ∧ x < n) : isPlaces n (tI ns) = true := by
  show ((ns.map PyData.int).all _ && asc ((ns.map PyData.int).map intD)) = true
  rw [Bool.and_eq_true]
  constructor
  · rw [List.all_eq_true]
    intro d hd
    obtain ⟨x, hx, rfl⟩ := List.mem_map.mp hd
    have := r x hx
    show (isInt (.int x) && (decide (0 ≤ x) && decide (x ≤ n - 1))) = true
    rw [isInt_int, Bool.true_and, Bool.and_eq_true, decide_eq_true_eq, decide_eq_true_eq]
    omega
  · rw [List.map_map, show (intD ∘ PyData.int) = id from rfl, List.map_id]
    exact asc_of h
theorem subs_ok : ∀ k : Nat, ∀ r ∈ subsI k, r.Pairwise (· < ·) ∧ ∀ x ∈ r, 0 ≤ x ∧ x < (k : Int)
  | 0, r, h => by
    have e : r = [] := by simpa [subsI] using h
    rw [e]
    exact ⟨.nil, fun x hx => by cases hx⟩
  | k + 1, r, h => by
    have h2 : r ∈ subsI k ∨ ∃ a ∈ subsI k, a ++ [(k : Int)] = r := by simpa [subsI] using h
    rcases h2 with h3 | ⟨a, h3, rfl⟩
    · obtain ⟨p, q⟩ := subs_ok k r h3
      exact ⟨p, fun x hx => by have := q x hx; omega⟩
    · obtain ⟨p, q⟩ := subs_ok k a h3
      refine ⟨List.pairwise_append.mpr ⟨p, List.pairwise_singleton .., fun x hx y hy => ?_⟩, fun x hx => ?_⟩
      · rw [List.mem_singleton] at hy
        have := q x hx
        omega
      · rcases List.mem_append.mp hx with z | z
        · have := q x z
          omega
        · rw [List.mem_singleton] at z
          omega
def outL (n : Nat) (side : List Int) : List Int := ((List.range n).filter fun v : Nat => !decide ((v : Int) ∈ side)).map fun v : Nat => (v : Int)
theorem mem_out {n : Nat} {side : List Int} {x : Int} : x ∈ outL n side ↔ (0 ≤ x ∧ x < n) ∧ x ∉ side := by
  unfold outL
  rw [List.mem_map]
  constructor
  · rintro ⟨v, hv, rfl⟩
    rw [List.mem_filter, List.mem_range] at hv
    exact ⟨⟨by omega, by omega⟩, by simpa using hv.2⟩
  · rintro ⟨⟨h0, h1⟩, h2⟩
    have e : ((x.toNat : Nat) : Int) = x := Int.toNat_of_nonneg h0
    refine ⟨x.toNat, List.mem_filter.mpr ⟨List.mem_range.mpr (by omega), ?_⟩, e⟩
    rw [e]
    simpa using h2
theorem out_ok {n : Nat} {side : List Int} : (outL n side).Pairwise (· < ·) ∧ ∀ x ∈ outL n side, 0 ≤ x ∧ x < (n : Int) := by
  refine ⟨?_, fun x hx => (mem_out.mp hx).1⟩
  unfold outL
  rw [List.pairwise_map]
  refine (List.pairwise_lt_range.filter _).imp fun {a b} h => ?_
  omega
theorem out_len {n : Nat} {side : List Int} : (outL n side).length ≤ n := by
  unfold outL
  rw [List.length_map]
  exact Nat.le_trans (List.length_filter_le _ _) (by rw [List.length_range]; exact Nat.le_refl _)
/-! ### the net's questions -/
def needOf (s t k v : Int) : Int := if v = t then k else if v = s then 0 - k else 0
def needsL (n : Nat) (s t k : Int) : List Int := (List.range n).map fun v : Nat => needOf s t k v
def boundedL (arcs : List Arc) : List (List Int) := arcs.map fun a => [a.1, a.2.1, 0, a.2.2]
def taskL (arcs : List Arc) : List (List Int) := arcs.map fun a => [a.1, a.2.1, 0, a.2.2, 0]
def rowOf (v : Int) (a : Arc) : Int := if a.2.1 = v then 1 else if a.1 = v then -1 else 0
def rowsL (n : Nat) (arcs : List Arc) : List (List Int) := (List.range n).map fun v : Nat => arcs.map (rowOf v)
def bitOf (out : List Int) (v : Int) : Int := if v ∈ out then 1 else 0
def bitsL (n : Nat) (out : List Int) : List Int := (List.range n).map fun v : Nat => bitOf out v
def zerosL (arcs : List Arc) : List Int := arcs.map fun _ => 0
def capsL (arcs : List Arc) : List Int := arcs.map fun a => a.2.2
theorem in_gen {n : Nat} {arcs : List Arc} {side : List Int} (h : NetI n arcs) (g : Arc → List Int) (h0 : ∀ a, (g a).getD 0 0 = a.1) (h1 : ∀ a, (g a).getD 1 0 = a.2.1) (h3 : ∀ a, (g a).getD 3 0 = a.2.2) : inI (arcs.map g) (outL n side) = crossI arcs side := by
  unfold inI crossI
  rw [List.filter_map, List.map_map]
  congr 1
  have e : arcs.filter ((fun r => !decide (r.getD 0 0 ∈ outL n side) && decide (r.getD 1 0 ∈ outL n side)) ∘ g) = arcs.filter fun a => decide (a.1 ∈ side) && !decide (a.2.1 ∈ side) := by
    apply List.filter_congr
    intro a ha
    obtain ⟨a0, a1, b0, b1, _⟩ := h.all a ha
    show (!decide ((g a).getD 0 0 ∈ outL n side) && decide ((g a).getD 1 0 ∈ outL n side)) = _
    rw [h0, h1]
    by_cases c1 : a.1 ∈ side <;> by_cases c2 : a.2.1 ∈ side <;> simp [mem_out, c1, c2, a0, a1, b0, b1]
  rw [e]
  apply List.map_congr_left
  intro a _
  exact h3 a
theorem out_gen {arcs : List Arc} {out : List Int} (g : Arc → List Int) (h2 : ∀ a, (g a).getD 2 0 = 0) : outI (arcs.map g) out = 0 := by
  unfold outI
  rw [List.filter_map, List.map_map]
  generalize arcs.filter _ = zs
  induction zs with
  | nil => rfl
  | cons z zs ih =>
    rw [List.map_cons, List.sum_cons, ih]
    show (g z).getD 2 0 + 0 = 0
    rw [h2]
    rfl
theorem needs_at {n : Nat} {s t k : Int} {v : Nat} (h : v < n) : (needsL n s t k).getD v 0 = needOf s t k v := by
  unfold needsL
  rw [List.getD_eq_getElem?_getD, List.getElem?_map, List.getElem?_range h]
  rfl
theorem need_sum {n : Nat} {s t k : Int} {side : List Int} : needI (needsL n s t k) (outL n side) = dotI (needsL n s t k) (bitsL n (outL n side)) := by
  unfold needI dotI
  unfold needsL bitsL
  rw [List.zip_map', List.map_map]
  show ((outL n side).map fun v : Int => ((List.range n).map fun v : Nat => needOf s t k v).getD v.toNat 0).sum = _
  unfold outL
  rw [List.map_map, sum_filter]
  congr 1
  apply List.map_congr_left
  intro v hv
  rw [List.mem_range] at hv
  have e : bitOf (outL n side) (v : Int) = (if (!decide ((v : Int) ∈ side)) = true then 1 else 0) := by
    unfold bitOf
    by_cases c : (v : Int) ∈ side <;> simp [mem_out, c, hv]
  show ((List.range n).map fun v : Nat => needOf s t k v).getD (Int.toNat (v : Int)) 0 * _ = needOf s t k v * bitOf (outL n side) v
  rw [e, Int.toNat_natCast, show ((List.range n).map fun v : Nat => needOf s t k v) = needsL n s t k from rfl, needs_at hv]
theorem need_two {n : Nat} {s t k : Int} {out : List Int} (s0 : 0 ≤ s) (s1 : s < n) (t0 : 0 ≤ t) (t1 : t < n) (ne : s ≠ t) : dotI (needsL n s t k) (bitsL n out) = k * bitOf out t + (0 - k) * bitOf out s := by
  unfold dotI needsL bitsL
  rw [List.zip_map', List.map_map]
  have h := two (β := bitOf out) (x := k) (y := 0 - k) s0 t0 ne n
  rw [if_pos t1, if_pos s1] at h
  exact h
theorem bit_out {n : Nat} {side : List Int} {v : Int} (h0 : 0 ≤ v) (h1 : v < n) : bitOf (outL n side) v = if v ∈ side then 0 else 1 := by
  unfold bitOf
  by_cases c : v ∈ side <;> simp [mem_out, c, h0, h1]
def crowdOf (arcs : List Arc) (side : List Int) (s t k : Int) : Bool := decide (crossI arcs side < k * (if t ∈ side then 0 else 1) + (0 - k) * (if s ∈ side then 0 else 1))
theorem crowd_gen {n : Nat} {arcs : List Arc} {side : List Int} {s t k : Int} (h : NetI n arcs) (s0 : 0 ≤ s) (s1 : s < n) (t0 : 0 ≤ t) (t1 : t < n) (ne : s ≠ t) (g : Arc → List Int) (h0 : ∀ a, (g a).getD 0 0 = a.1) (h1 : ∀ a, (g a).getD 1 0 = a.2.1) (h2 : ∀ a, (g a).getD 2 0 = 0) (h3 : ∀ a, (g a).getD 3 0 = a.2.2) :
    crowdI (arcs.map g) (needsL n s t k) (outL n side) = crowdOf arcs side s t k := by
  unfold crowdI crowdOf
  rw [in_gen h g h0 h1 h3, out_gen g h2, need_sum, need_two s0 s1 t0 t1 ne, bit_out s0 s1, bit_out t0 t1, Int.sub_zero]
def cutOf (arcs : List Arc) (side : List Int) (s t k : Int) : Bool := decide (s ∈ side) && (!decide (t ∈ side) && decide (crossI arcs side < k))
theorem cut_crowd {arcs : List Arc} {side : List Int} {s t k : Int} (hs : s ∈ side) (ht : t ∉ side) : cutOf arcs side s t k = crowdOf arcs side s t k := by
  unfold cutOf crowdOf
  simp [hs, ht]
theorem cut_imp {arcs : List Arc} {side : List Int} {s t k : Int} (h : cutOf arcs side s t k = true) : crowdOf arcs side s t k = true := by
  have h2 := h
  unfold cutOf at h2
  simp only [Bool.and_eq_true, decide_eq_true_eq, Bool.not_eq_true', decide_eq_false_iff_not] at h2
  rw [← cut_crowd h2.1 h2.2.1]
  exact h
end Hd


set_option Elab.async false
set_option linter.all false
set_option maxRecDepth 100000
set_option maxHeartbeats 4000000
namespace Hd
open PySem PySem.Spec PyProof.Rows L2 FW
/-! ### the linear paper -/
def ptsL (n : Nat) (out : List Int) : List Q2 := (List.range n).map fun v : Nat => (bitOf out v, 1)
theorem pts_up {n : Nat} {out : List Int} : ptsL n out = (bitsL n out).map up := by
  unfold ptsL bitsL
  rw [List.map_map]
  rfl
theorem bit01 {n : Nat} {out : List Int} : ∀ x ∈ bitsL n out, x = 0 ∨ x = 1 := by
  intro x hx
  obtain ⟨v, _, rfl⟩ := List.mem_map.mp hx
  show bitOf out v = 0 ∨ bitOf out v = 1
  unfold bitOf
  by_cases c : (v : Int) ∈ out <;> simp [c]
theorem col_at {n : Nat} {arcs : List Arc} {k : Nat} {a : Arc} (h : arcs[k]? = some a) : colI (rowsL n arcs) k = (List.range n).map fun v : Nat => rowOf v a := by
  unfold colI rowsL
  rw [List.map_map]
  apply List.map_congr_left
  intro v _
  show (arcs.map (rowOf v)).getD k 0 = _
  rw [List.getD_eq_getElem?_getD, List.getElem?_map, h]
  rfl
theorem row_le {v : Int} {a : Arc} : (rowOf v a).natAbs ≤ 1 := by
  unfold rowOf
  by_cases c : a.2.1 = v
  · simp [c]
  · by_cases d : a.1 = v <;> simp [c, d]
theorem col_dot {n : Nat} {arcs : List Arc} {out : List Int} {k : Nat} {a : Arc} (h : NetI n arcs) (ha : arcs[k]? = some a) : dotI (colI (rowsL n arcs) k) (bitsL n out) = bitOf out a.2.1 - bitOf out a.1 := by
  rw [col_at ha]
  obtain ⟨a0, a1, b0, b1, ne, _⟩ := h.all a (List.mem_of_getElem? ha)
  unfold dotI bitsL
  rw [List.zip_map', List.map_map]
  have z := two (β := bitOf out) (x := 1) (y := -1) a0 b0 ne n
  rw [if_pos b1, if_pos a1] at z
  have e : (List.range n).map ((fun z : Int × Int => z.1 * z.2) ∘ fun v : Nat => (rowOf v a, bitOf out v)) = (List.range n).map fun v : Nat => (if (v : Int) = a.2.1 then 1 else if (v : Int) = a.1 then -1 else 0) * bitOf out v := by
    apply List.map_congr_left
    intro v _
    show rowOf v a * _ = _
    unfold rowOf
    simp only [eq_comm]
  rw [e, z]
  omega
/-- one arc's least product -/
def leI (out : List Int) (a : Arc) : Int := if 0 < a.2.2 * (0 - (bitOf out a.2.1 - bitOf out a.1)) then 0 else a.2.2 * (0 - (bitOf out a.2.1 - bitOf out a.1))
theorem zeros_at {arcs : List Arc} {k : Nat} : (zerosL arcs).getD k 0 = 0 := by
  unfold zerosL
  rw [List.getD_eq_getElem?_getD, List.getElem?_map]
  cases arcs[k]? <;> rfl
theorem caps_at {arcs : List Arc} {k : Nat} {a : Arc} (h : arcs[k]? = some a) : (capsL arcs).getD k 0 = a.2.2 := by
  unfold capsL
  rw [List.getD_eq_getElem?_getD, List.getElem?_map, h]
  rfl
section
variable {n : Nat} {arcs : List Arc} {out : List Int} {s t k : Int}
theorem fac_at (h : NetI n arcs) {j : Nat} {a : Arc} (ha : arcs[j]? = some a) : facQ (rowsL n arcs) (zerosL arcs) (ptsL n out) (0, 1) j = up (0 - (bitOf out a.2.1 - bitOf out a.1)) := by
  unfold facQ
  rw [zeros_at, pts_up, dot1, col_dot h ha, show ((0 : Int), (1 : Int)) = up 0 from rfl, times1, minus1]
  rfl
theorem le_at (h : NetI n arcs) {j : Nat} {a : Arc} (ha : arcs[j]? = some a) : leastQ ((zerosL arcs).getD j 0) ((capsL arcs).getD j 0) (facQ (rowsL n arcs) (zerosL arcs) (ptsL n out) (0, 1) j) = up (leI out a) := by
  rw [fac_at h ha, zeros_at, caps_at ha, least1]
  rfl
theorem found_at (h : NetI n arcs) : ∀ j, j ≤ arcs.length → foundQ (rowsL n arcs) (needsL n s t k) (zerosL arcs) (capsL arcs) (zerosL arcs) (ptsL n out) (0, 1) j = up (dotI (needsL n s t k) (bitsL n out) + ((arcs.take j).map (leI out)).sum)
  | 0, _ => by
    show dotQ _ _ = _
    rw [pts_up, dot1]
    simp
  | j + 1, hj => by
    have ha : arcs[j]? = some arcs[j] := List.getElem?_eq_getElem (by omega)
    show plusQ (foundQ _ _ _ _ _ _ _ j) _ = _
    rw [found_at h j (by omega), le_at h ha, plus1, List.take_add_one, ha, List.map_append, List.sum_append]
    simp only [Option.toList_some, List.map_cons, List.map_nil, List.sum_cons, List.sum_nil, Int.add_zero, Int.add_assoc]
theorem bit_ok {v : Int} : bitOf out v = 0 ∨ bitOf out v = 1 := by
  unfold bitOf
  by_cases c : v ∈ out <;> simp [c]
theorem le_le {a : Arc} (c0 : 0 ≤ a.2.2) (c1 : a.2.2 < 101) : (leI out a).natAbs ≤ 100 := by
  unfold leI
  rcases bit_ok (out := out) (v := a.2.1) with e | e <;> rcases bit_ok (out := out) (v := a.1) with f | f <;> rw [e, f] <;> split <;> omega
theorem linOk (h : NetI n arcs) (la : arcs.length ≤ 20) (ln : n ≤ 100) (k0 : 0 ≤ k) (k1 : k ≤ 100) : LinOk (rowsL n arcs) (needsL n s t k) (zerosL arcs) (capsL arcs) (zerosL arcs) none (ptsL n out) (0, 1) := by
  have lz : (zerosL arcs).length = arcs.length := List.length_map ..
  have needs : ∀ x ∈ needsL n s t k, x.natAbs ≤ 10 ^ 4 := fun x hx => by
    obtain ⟨v, _, rfl⟩ := List.mem_map.mp hx
    show (needOf s t k v).natAbs ≤ _
    unfold needOf
    by_cases c : (v : Int) = t
    · rw [if_pos c]; omega
    · rw [if_neg c]
      by_cases d : (v : Int) = s
      · rw [if_pos d]; omega
      · rw [if_neg d]; decide
  have d0 := dotOk1 (row := needsL n s t k) (bs := bitsL n out) needs bit01 (by unfold needsL; rw [List.length_map, List.length_range]; omega)
  have cols : ∀ j, j < arcs.length → DotOk (colI (rowsL n arcs) j) ((bitsL n out).map up) ∧ (dotI (colI (rowsL n arcs) j) (bitsL n out)).natAbs ≤ 10 ^ 7 := fun j hj => by
    have ha : arcs[j]? = some arcs[j] := List.getElem?_eq_getElem hj
    refine dotOk1 ?_ bit01 ?_
    · rw [col_at ha]
      intro x hx
      obtain ⟨v, _, rfl⟩ := List.mem_map.mp hx
      exact Nat.le_trans row_le (by decide)
    · rw [col_at ha, List.length_map, List.length_range]; omega
  have fac : ∀ j, j < arcs.length → ∃ a, arcs[j]? = some a ∧ a ∈ arcs := fun j hj => ⟨arcs[j], List.getElem?_eq_getElem hj, List.getElem_mem hj⟩
  have q0 : qs (up 0) := qs_up (by decide)
  refine ⟨?_, isQ_up, ?_, Int.le_refl _, fun _ => rfl, q0, ?_, ?_, ?_, rfl, ?_, ?_, ?_, ?_, ?_, ?_, ?_, ?_, ?_, (fun b hb => by cases hb), q0⟩
  · rw [List.all_eq_true]
    intro q hq
    rw [pts_up] at hq
    obtain ⟨x, _, rfl⟩ := List.mem_map.mp hq
    exact isQ_up
  · unfold ptsL rowsL
    rw [List.length_map, List.length_map]
  · unfold rowsL; rw [List.length_map, List.length_range]; omega
  · rw [lz]; omega
  · rw [lz]; exact List.length_map ..
  · intro r hr
    obtain ⟨v, _, rfl⟩ := List.mem_map.mp hr
    rw [lz]; exact List.length_map ..
  · rw [pts_up]; exact d0.1
  · intro j hj
    rw [lz] at hj
    rw [pts_up]; exact (cols j hj).1
  · intro j _
    rw [zeros_at]; exact sm_of (by decide)
  · intro j _
    rw [zeros_at, show ((0 : Int), (1 : Int)) = up 0 from rfl, times1]
    exact q0
  · intro j hj
    rw [lz] at hj
    rw [pts_up, dot1]
    exact qs_up (Nat.le_trans (cols j hj).2 (by decide))
  · intro j hj
    rw [lz] at hj
    obtain ⟨a, ha, hm⟩ := fac j hj
    obtain ⟨_, _, _, _, _, c0, c1⟩ := h.all a hm
    have cf : (0 - (bitOf out a.2.1 - bitOf out a.1)).natAbs ≤ 1 := by
      rcases bit_ok (out := out) (v := a.2.1) with e | e <;> rcases bit_ok (out := out) (v := a.1) with f | f <;> rw [e, f] <;> decide
    rw [fac_at h ha, zeros_at, caps_at ha]
    refine ⟨sm_of (by decide), sm_of (by omega), qs_up (by omega), ?_, ?_⟩
    · rw [show ((0 : Int), (1 : Int)) = up 0 from rfl, times1, Int.zero_mul]; exact q0
    · rw [show (a.2.2, (1 : Int)) = up a.2.2 from rfl, times1]
      refine qs_up ?_
      rw [Int.natAbs_mul]
      have := Nat.mul_le_mul (show a.2.2.natAbs ≤ 100 by omega) cf
      omega
  · intro j hj
    rw [lz] at hj
    obtain ⟨a, ha, hm⟩ := fac j hj
    obtain ⟨_, _, _, _, _, c0, c1⟩ := h.all a hm
    rw [le_at h ha]
    exact qs_up (Nat.le_trans (le_le c0 c1) (by decide))
  · intro j hj
    rw [lz] at hj
    rw [found_at h j hj]
    refine qs_up ?_
    have z := sum_le (xs := (arcs.take j).map (leI out)) (M := 100) fun x hx => by
      obtain ⟨a, ha, rfl⟩ := List.mem_map.mp hx
      obtain ⟨_, _, _, _, _, c0, c1⟩ := h.all a (List.mem_of_mem_take ha)
      exact le_le c0 c1
    rw [List.length_map, List.length_take] at z
    have d1 := d0.2
    have z2 := Nat.mul_le_mul_right 100 (show min j arcs.length ≤ 20 by omega)
    omega
theorem le_cross {side : List Int} (h : NetI n arcs) : (arcs.map (leI (outL n side))).sum = - crossI arcs side := by
  unfold crossI
  rw [sum_filter]
  have key : ∀ zs : List Arc, (∀ a ∈ zs, a ∈ arcs) → (zs.map (leI (outL n side))).sum = -(zs.map fun a => a.2.2 * (if (decide (a.1 ∈ side) && !decide (a.2.1 ∈ side)) = true then 1 else 0)).sum := by
    intro zs
    induction zs with
    | nil => intro _; rfl
    | cons a zs ih =>
      intro hm
      rw [List.map_cons, List.sum_cons, ih (fun b hb => hm b (List.mem_cons_of_mem _ hb)), List.map_cons, List.sum_cons]
      obtain ⟨a0, a1, b0, b1, _, c0, c1⟩ := h.all a (hm a (List.mem_cons_self ..))
      have e : leI (outL n side) a = -(a.2.2 * (if (decide (a.1 ∈ side) && !decide (a.2.1 ∈ side)) = true then 1 else 0)) := by
        unfold leI
        rw [bit_out a0 a1, bit_out b0 b1]
        by_cases c1 : a.1 ∈ side <;> by_cases c2 : a.2.1 ∈ side <;> simp [c1, c2] <;> omega
      rw [e]
      omega
  exact key arcs fun _ h => h
theorem lin_crowd {side : List Int} (h : NetI n arcs) (s0 : 0 ≤ s) (s1 : s < n) (t0 : 0 ≤ t) (t1 : t < n) (ne : s ≠ t) : lessQ (leftQ none (0, 1)) (foundQ (rowsL n arcs) (needsL n s t k) (zerosL arcs) (capsL arcs) (zerosL arcs) (ptsL n (outL n side)) (0, 1) (zerosL arcs).length) = crowdOf arcs side s t k := by
  rw [show (zerosL arcs).length = arcs.length from List.length_map .., found_at h _ (Nat.le_refl _), List.take_length, le_cross h, show leftQ none (0, 1) = up 0 from rfl, less1]
  unfold crowdOf
  rw [need_two s0 s1 t0 t1 ne, bit_out s0 s1, bit_out t0 t1]
  apply decide_eq_decide.mpr
  omega
end
end Hd


set_option Elab.async false
set_option linter.all false
set_option maxRecDepth 100000
set_option maxHeartbeats 4000000
namespace Hd
open PySem PySem.Spec PyProof.Rows L2 FW
/-! ### orders -/
/-- parted by the side: as a number -/
def part (side : List Int) (i j : Int) : Int := if (decide (i ∈ side) != decide (j ∈ side)) = true then 1 else 0
def lensL (side : List Int) (ties : List Arc) : List Q2 := ties.map fun a => up (part side a.1 a.2.1)
theorem part01 {side : List Int} {i j : Int} : part side i j = 0 ∨ part side i j = 1 := by
  unfold part
  cases (decide (i ∈ side) != decide (j ∈ side)) <;> simp
theorem part_tri {side : List Int} {i j k : Int} : part side i k ≤ part side i j + part side j k := by
  unfold part
  by_cases a : i ∈ side <;> by_cases b : j ∈ side <;> by_cases c : k ∈ side <;> simp [a, b, c]
theorem part_sym {side : List Int} {i j : Int} : part side i j = part side j i := by
  unfold part
  by_cases a : i ∈ side <;> by_cases b : j ∈ side <;> simp [a, b]
theorem part_self {side : List Int} {i : Int} : part side i i = 0 := by
  unfold part
  simp
/-- lengths found in t steps -/
def GoodM (side : List Int) (s : Int) (t : Nat) (m : Fm) : Prop := ∀ v q, getM m v = some q → ∃ x, q = up x ∧ part side s v ≤ x ∧ x ≤ (t : Int)
theorem good_mono {side : List Int} {s : Int} {t t' : Nat} {m : Fm} (h : GoodM side s t m) (l : t ≤ t') : GoodM side s t' m := fun v q e => by
  obtain ⟨x, e1, e2, e3⟩ := h v q e
  exact ⟨x, e1, e2, by omega⟩
theorem good0 {side : List Int} {s : Int} : GoodM side s 0 [(s, (0, 1))] := fun v q e => by
  rw [getM_cons] at e
  by_cases c : s = v
  · rw [if_pos c] at e
    refine ⟨0, (Option.some.inj e).symm, ?_, Int.le_refl _⟩
    rw [c, part_self]
    exact Int.le_refl _
  · rw [if_neg c] at e
    cases e
theorem good_put {side : List Int} {s : Int} {t : Nat} {m : Fm} {j x : Int} (h : GoodM side s t m) (l : part side s j ≤ x) (u : x ≤ ((t + 1 : Nat) : Int)) : GoodM side s (t + 1) (putM m j (up x)) := fun v q e => by
  rw [getM_put] at e
  by_cases c : v = j
  · rw [if_pos c] at e
    exact ⟨x, (Option.some.inj e).symm, by rw [c]; exact l, u⟩
  · rw [if_neg c] at e
    exact good_mono h (Nat.le_succ t) v q e
theorem good_relax {side : List Int} {s : Int} {t : Nat} {m : Fm} {i j : Int} (h : GoodM side s t m) : GoodM side s (t + 1) (relaxM m i j (up (part side i j))) := by
  unfold relaxM
  cases e : getM m i with
  | none => exact good_mono h (Nat.le_succ t)
  | some a =>
    obtain ⟨x, rfl, e2, e3⟩ := h i a e
    have tri := part_tri (side := side) (i := s) (j := i) (k := j)
    have p1 := part01 (side := side) (i := i) (j := j)
    have nw : GoodM side s (t + 1) (putM m j (plusQ (up x) (up (part side i j)))) := by
      rw [plus1]
      exact good_put h (by omega) (by omega)
    cases getM m j with
    | none => exact nw
    | some b =>
      show GoodM side s (t + 1) (if _ then _ else _)
      split
      · exact nw
      · exact good_mono h (Nat.le_succ t)
theorem zip_lens {side : List Int} {ties : List Arc} : ties.zip (lensL side ties) = ties.map fun a => (a, up (part side a.1 a.2.1)) := by
  unfold lensL
  have h := List.zip_map' (f := fun a : Arc => a) (g := fun a : Arc => up (part side a.1 a.2.1)) (l := ties)
  rw [show (fun a : Arc => a) = id from rfl, List.map_id] at h
  exact h
theorem farOk {side : List Int} {ties : List Arc} {s : Int} {n : Nat} (hn : n ≤ 10) (hl : ties.length ≤ 10) : FarOk (ties.zip (lensL side ties)) s n := by
  have len : (ties.zip (lensL side ties)).length = ties.length := by rw [zip_lens, List.length_map]
  have lm : n * ties.length ≤ 100 := Nat.mul_le_mul hn hl
  refine ⟨⟨GoodM side s, good0, fun t m z hz ht g i j hij => ?_⟩, by rw [len]; omega⟩
  rw [len] at ht
  rw [zip_lens] at hz
  obtain ⟨a, _, rfl⟩ := List.mem_map.mp hz
  have ep : part side a.1 a.2.1 = part side i j := by
    rcases hij with ⟨e1, e2⟩ | ⟨e1, e2⟩
    · rw [e1, e2]
    · rw [e1, e2, part_sym]
  have sm1 : ∀ {x : Int} {v : Int}, part side s v ≤ x → x ≤ (t : Int) → x.natAbs ≤ 1000 := fun {x v} h1 h2 => by
    have := part01 (side := side) (i := s) (j := v)
    omega
  have p1 := part01 (side := side) (i := i) (j := j)
  show GoodM side s (t + 1) (relaxM m i j (up (part side a.1 a.2.1))) ∧ qs (up (part side a.1 a.2.1)) ∧ (∀ b, getM m i = some b → qs b ∧ qs (plusQ b (up (part side a.1 a.2.1)))) ∧ _
  rw [ep]
  refine ⟨good_relax g, qs_up (by omega), fun b hb => ?_, fun b hb => ?_⟩
  · obtain ⟨x, rfl, e2, e3⟩ := g i b hb
    have := sm1 e2 e3
    rw [plus1]
    exact ⟨qs_up (by omega), qs_up (by omega)⟩
  · obtain ⟨x, rfl, e2, e3⟩ := g j b hb
    have := sm1 e2 e3
    exact qs_up (by omega)
theorem good_round {side : List Int} {s : Int} : ∀ {zs : List Arc} {t : Nat} {m : Fm}, GoodM side s t m → GoodM side s (t + 2 * zs.length) (roundM (zs.map fun a => (a, up (part side a.1 a.2.1))) m)
  | [], t, m, h => h
  | a :: zs, t, m, h => by
    have h1 : GoodM side s (t + 1) (relaxM m a.1 a.2.1 (up (part side a.1 a.2.1))) := good_relax h
    have h2 : GoodM side s (t + 1 + 1) (relaxM (relaxM m a.1 a.2.1 (up (part side a.1 a.2.1))) a.2.1 a.1 (up (part side a.1 a.2.1))) := by
      have := good_relax (i := a.2.1) (j := a.1) h1
      rw [part_sym (i := a.2.1)] at this
      exact this
    have h3 := good_round (zs := zs) h2
    rw [List.length_cons]
    exact good_mono h3 (by omega)
theorem good_far {side : List Int} {s : Int} {ties : List Arc} : ∀ k, GoodM side s (k * (2 * ties.length)) (farM (ties.zip (lensL side ties)) s k)
  | 0 => good_mono good0 (Nat.zero_le _)
  | k + 1 => by
    have h := good_round (zs := ties) (good_far (side := side) (s := s) (ties := ties) k)
    rw [← zip_lens] at h
    rw [Nat.succ_mul]
    exact h
def wantI (side : List Int) (orders : List Arc) : Int := ((orders.filter fun o => decide (o.1 ∈ side) != decide (o.2.1 ∈ side)).map (·.2.2)).sum
theorem want_sum {side : List Int} {orders : List Arc} : wantI side orders = (orders.map fun o => o.2.2 * part side o.1 o.2.1).sum := by
  unfold wantI
  rw [sum_filter]
  rfl
section
variable {side : List Int} {ties orders : List Arc} {n : Nat}
theorem prodsO1 : prodsO (ties.zip (lensL side ties)) = (ties.map fun a => a.2.2 * part side a.1 a.2.1).map up := by
  unfold prodsO
  rw [zip_lens, List.map_map, List.map_map]
  apply List.map_congr_left
  intro a _
  show timesQ (up a.2.2) (up (part side a.1 a.2.1)) = up (a.2.2 * part side a.1 a.2.1)
  rw [times1]
theorem totO : totalQ (prodsO (ties.zip (lensL side ties))) = up (wantI side ties) := by
  rw [prodsO1, total1, want_sum]
theorem far_at {o : Arc} {q : Q2} (hn : n ≤ 10) (hl : ties.length ≤ 10) (h : getM (farM (ties.zip (lensL side ties)) o.1 n) o.2.1 = some q) : ∃ x, q = up x ∧ part side o.1 o.2.1 ≤ x ∧ 0 ≤ x ∧ x ≤ 200 := by
  obtain ⟨x, e1, e2, e3⟩ := good_far n _ _ h
  have := part01 (side := side) (i := o.1) (j := o.2.1)
  have lm : n * (2 * ties.length) ≤ 10 * (2 * 10) := Nat.mul_le_mul hn (by omega)
  exact ⟨x, e1, e2, by omega, by omega⟩
theorem loop_ok (hn : n ≤ 10) (hl : ties.length ≤ 10) : ∀ (os : List Arc) (f : Int), (∀ o ∈ os, 0 ≤ o.2.2 ∧ o.2.2 ≤ 100) → f < wantI side os → ordLoop (ties.zip (lensL side ties)) n os (up f) = true
  | [], f, _, h => by
    show decide (f < 0) = true
    rw [decide_eq_true_eq]
    exact h
  | o :: r, f, hs, h => by
    unfold ordLoop
    cases e : getM (farM (ties.zip (lensL side ties)) o.1 n) o.2.1 with
    | none => rfl
    | some q =>
      obtain ⟨x, rfl, e2, e3, e4⟩ := far_at hn hl e
      show ordLoop _ n r (minusQ (up f) (timesQ (up o.2.2) (up x))) = true
      rw [times1, minus1]
      refine loop_ok hn hl r _ (fun p hp => hs p (List.mem_cons_of_mem _ hp)) ?_
      obtain ⟨d0, d1⟩ := hs o (List.mem_cons_self ..)
      have h2 : wantI side (o :: r) = o.2.2 * part side o.1 o.2.1 + wantI side r := by
        rw [want_sum, want_sum, List.map_cons, List.sum_cons]
      have h3 : o.2.2 * part side o.1 o.2.1 ≤ o.2.2 * x := Int.mul_le_mul_of_nonneg_left e2 d0
      omega
theorem run_ok (hn : n ≤ 10) (hl : ties.length ≤ 10) : ∀ (os : List Arc) (f : Int), (∀ o ∈ os, 0 ≤ o.2.2 ∧ o.2.2 ≤ 100) → f.natAbs + os.length * 20000 ≤ 10 ^ 9 → RunOk (ties.zip (lensL side ties)) n os (up f)
  | [], f, _, h => trivial
  | o :: r, f, hs, h => by
    unfold RunOk
    cases e : getM (farM (ties.zip (lensL side ties)) o.1 n) o.2.1 with
    | none => trivial
    | some q =>
      obtain ⟨x, rfl, e2, e3, e4⟩ := far_at hn hl e
      obtain ⟨d0, d1⟩ := hs o (List.mem_cons_self ..)
      rw [List.length_cons, Nat.succ_mul] at h
      have hx : (o.2.2 * x).natAbs ≤ 20000 := by
        rw [Int.natAbs_mul]
        exact Nat.mul_le_mul (show o.2.2.natAbs ≤ 100 by omega) (show x.natAbs ≤ 200 by omega)
      show qs (up f) ∧ sm o.2.2 ∧ qs (up x) ∧ qs (timesQ (up o.2.2) (up x)) ∧ RunOk _ n r (minusQ (up f) (timesQ (up o.2.2) (up x)))
      rw [times1, minus1]
      exact ⟨qs_up (by omega), sm_of (by omega), qs_up (by omega), qs_up (by omega), run_ok hn hl r _ (fun p hp => hs p (List.mem_cons_of_mem _ hp)) (by omega)⟩
theorem ordOk (hn : n ≤ 10) (hl : ties.length ≤ 10) (ho : orders.length ≤ 10) (ht : TiesI n ties) (hos : OrdsI n orders) : OrdOk n ties orders (lensL side ties) := by
  have caps : ∀ a ∈ ties, a.2.2.natAbs ≤ 100 := fun a ha => by
    have := ht.all a ha
    omega
  have prods : ∀ x ∈ ties.map fun a => a.2.2 * part side a.1 a.2.1, x.natAbs ≤ 100 := fun x hx => by
    obtain ⟨a, ha, rfl⟩ := List.mem_map.mp hx
    rw [Int.natAbs_mul]
    have := part01 (side := side) (i := a.1) (j := a.2.1)
    exact Nat.mul_le_mul (caps a ha) (show (part side a.1 a.2.1).natAbs ≤ 1 by omega)
  refine ⟨?_, List.length_map .., ?_, by omega, by omega, ?_, ?_, ?_, ?_, ?_⟩
  · rw [List.all_eq_true]
    intro q hq
    obtain ⟨a, _, rfl⟩ := List.mem_map.mp hq
    exact isQ_up
  · intro q hq
    obtain ⟨a, _, rfl⟩ := List.mem_map.mp hq
    have := part01 (side := side) (i := a.1) (j := a.2.1)
    show 0 ≤ part side a.1 a.2.1
    omega
  · intro z hz
    rw [zip_lens] at hz
    obtain ⟨a, ha, rfl⟩ := List.mem_map.mp hz
    have := part01 (side := side) (i := a.1) (j := a.2.1)
    exact ⟨sm_of (Nat.le_trans (caps a ha) (by decide)), qs_up (by omega)⟩
  · intro i
    rw [prodsO1]
    exact takes prods (by rw [List.length_map]; omega) i
  · intro x hx
    rw [prodsO1] at hx
    obtain ⟨y, hy, rfl⟩ := List.mem_map.mp hx
    exact qs_up (Nat.le_trans (prods y hy) (by decide))
  · intro o hoo
    have := hos.all o hoo
    exact ⟨farOk hn hl, this.2.2.1, this.2.2.2.1⟩
  · rw [totO]
    refine run_ok hn hl orders _ (fun o hoo => ?_) ?_
    · have := hos.all o hoo
      omega
    · rw [want_sum]
      have h1 := sum_le prods
      rw [List.length_map] at h1
      omega
theorem ord_true (hn : n ≤ 10) (hl : ties.length ≤ 10) (hos : OrdsI n orders) (h : wantI side ties < wantI side orders) : ordLoop (ties.zip (lensL side ties)) n orders (totalQ (prodsO (ties.zip (lensL side ties)))) = true := by
  rw [totO]
  refine loop_ok hn hl orders _ (fun o hoo => ?_) h
  have := hos.all o hoo
  omega
end
end Hd


set_option Elab.async false
set_option linter.all false
set_option maxRecDepth 100000
set_option maxHeartbeats 4000000
namespace Hd
open PySem PySem.Spec PyProof.Rows L2 FW
variable {P : Program} {w : World} {K : PySem.W.Frag} {mg : Str → Option Value} {base : Heap} {cs : List (Addr × Addr)}
theorem lo_script : L2.Loc (defScope s_law) "script" := by unfold L2.Loc; decide +kernel
theorem vi_script : Vis (defScope s_law) "script" := by unfold Vis; decide +kernel
theorem lo_pool : L2.Loc (defScope s_law) "pool" := by unfold L2.Loc; decide +kernel
theorem vi_pool : Vis (defScope s_law) "pool" := by unfold Vis; decide +kernel
theorem lo_net : L2.Loc (defScope s_law) "net" := by unfold L2.Loc; decide +kernel
theorem vi_net : Vis (defScope s_law) "net" := by unfold Vis; decide +kernel
theorem lo_n : L2.Loc (defScope s_law) "n" := by unfold L2.Loc; decide +kernel
theorem vi_n : Vis (defScope s_law) "n" := by unfold Vis; decide +kernel
theorem lo_arcs : L2.Loc (defScope s_law) "arcs" := by unfold L2.Loc; decide +kernel
theorem vi_arcs : Vis (defScope s_law) "arcs" := by unfold Vis; decide +kernel
theorem lo_s : L2.Loc (defScope s_law) "s" := by unfold L2.Loc; decide +kernel
theorem vi_s : Vis (defScope s_law) "s" := by unfold Vis; decide +kernel
theorem lo_t : L2.Loc (defScope s_law) "t" := by unfold L2.Loc; decide +kernel
theorem vi_t : Vis (defScope s_law) "t" := by unfold Vis; decide +kernel
theorem lo_k : L2.Loc (defScope s_law) "k" := by unfold L2.Loc; decide +kernel
theorem vi_k : Vis (defScope s_law) "k" := by unfold Vis; decide +kernel
theorem lo_needs : L2.Loc (defScope s_law) "needs" := by unfold L2.Loc; decide +kernel
theorem vi_needs : Vis (defScope s_law) "needs" := by unfold Vis; decide +kernel
theorem lo_bounded : L2.Loc (defScope s_law) "bounded" := by unfold L2.Loc; decide +kernel
theorem vi_bounded : Vis (defScope s_law) "bounded" := by unfold Vis; decide +kernel
theorem lo_task : L2.Loc (defScope s_law) "task" := by unfold L2.Loc; decide +kernel
theorem vi_task : Vis (defScope s_law) "task" := by unfold Vis; decide +kernel
theorem lo_rows : L2.Loc (defScope s_law) "rows" := by unfold L2.Loc; decide +kernel
theorem vi_rows : Vis (defScope s_law) "rows" := by unfold Vis; decide +kernel
theorem lo_side : L2.Loc (defScope s_law) "side" := by unfold L2.Loc; decide +kernel
theorem vi_side : Vis (defScope s_law) "side" := by unfold Vis; decide +kernel
theorem lo_outside : L2.Loc (defScope s_law) "outside" := by unfold L2.Loc; decide +kernel
theorem vi_outside : Vis (defScope s_law) "outside" := by unfold Vis; decide +kernel
theorem lo_cut : L2.Loc (defScope s_law) "cut" := by unfold L2.Loc; decide +kernel
theorem vi_cut : Vis (defScope s_law) "cut" := by unfold Vis; decide +kernel
theorem lo_crowd : L2.Loc (defScope s_law) "crowd" := by unfold L2.Loc; decide +kernel
theorem vi_crowd : Vis (defScope s_law) "crowd" := by unfold Vis; decide +kernel
theorem lo_linear : L2.Loc (defScope s_law) "linear" := by unfold L2.Loc; decide +kernel
theorem vi_linear : Vis (defScope s_law) "linear" := by unfold Vis; decide +kernel
theorem lo_weights : L2.Loc (defScope s_law) "weights" := by unfold L2.Loc; decide +kernel
theorem vi_weights : Vis (defScope s_law) "weights" := by unfold Vis; decide +kernel
theorem lo_ties : L2.Loc (defScope s_law) "ties" := by unfold L2.Loc; decide +kernel
theorem vi_ties : Vis (defScope s_law) "ties" := by unfold Vis; decide +kernel
theorem lo_orders : L2.Loc (defScope s_law) "orders" := by unfold L2.Loc; decide +kernel
theorem vi_orders : Vis (defScope s_law) "orders" := by unfold Vis; decide +kernel
theorem lo_lengths : L2.Loc (defScope s_law) "lengths" := by unfold L2.Loc; decide +kernel
theorem vi_lengths : Vis (defScope s_law) "lengths" := by unfold Vis; decide +kernel
theorem lo_wanted : L2.Loc (defScope s_law) "wanted" := by unfold L2.Loc; decide +kernel
theorem vi_wanted : Vis (defScope s_law) "wanted" := by unfold Vis; decide +kernel
theorem lo_crosses : L2.Loc (defScope s_law) "crosses" := by unfold L2.Loc; decide +kernel
theorem vi_crosses : Vis (defScope s_law) "crosses" := by unfold Vis; decide +kernel
theorem gl__law_pool : (defScope s_law).names.lookup ("_law_pool" : Str) = some .globalImplicit := by decide +kernel
theorem gl__law_net : (defScope s_law).names.lookup ("_law_net" : Str) = some .globalImplicit := by decide +kernel
theorem gl__law_ends : (defScope s_law).names.lookup ("_law_ends" : Str) = some .globalImplicit := by decide +kernel
theorem gl__law_draw : (defScope s_law).names.lookup ("_law_draw" : Str) = some .globalImplicit := by decide +kernel
theorem gl__law_subsets : (defScope s_law).names.lookup ("_law_subsets" : Str) = some .globalImplicit := by decide +kernel
theorem gl__law_same : (defScope s_law).names.lookup ("_law_same" : Str) = some .globalImplicit := by decide +kernel
theorem gl__law_orders : (defScope s_law).names.lookup ("_law_orders" : Str) = some .globalImplicit := by decide +kernel
theorem gl_judge : (defScope s_law).names.lookup ("judge" : Str) = some .globalImplicit := by decide +kernel
theorem gl_tuple : (defScope s_law).names.lookup ("tuple" : Str) = some .globalImplicit := by decide +kernel
theorem gl_range : (defScope s_law).names.lookup ("range" : Str) = some .globalImplicit := by decide +kernel
theorem gl_len : (defScope s_law).names.lookup ("len" : Str) = some .globalImplicit := by decide +kernel
theorem gl_sum : (defScope s_law).names.lookup ("sum" : Str) = some .globalImplicit := by decide +kernel

/-- an arc taken apart: i, j, c in their slots -/
theorem gj_arc {X : Cx} {p1 p2 p3 p4 : Pos} {kk i1 i2 i3 : Nat} {x1 x2 x3 : Str} {a b c : Int} (hc : X.calm = true) (h1 : Gj X (.Name x1 p1) (.int a) [i1] [.int a]) (h2 : Gj X (.Name x2 p2) (.int b) [i2] [.int b]) (h3 : Gj X (.Name x3 p3) (.int c) [i3] [.int c])
    (hn : (assignEach [Expr.Name x1 p1, .Name x2 p2, .Name x3 p3] X.env).length = 3 := by rfl) (hst : (assignEach [Expr.Name x1 p1, .Name x2 p2, .Name x3 p3] X.env).findIdx? (·.1) = none := by rfl) : Gj X (.Tuple [.Name x1 p1, .Name x2 p2, .Name x3 p3] kk p4) (encA (a, b, c)) [i1, i2, i3] [.int a, .int b, .int c] :=
  gj_tup hc (gj_cons h1 (gj_cons h2 (gj_cons h3 gj_nil))) hn hst
theorem frz_tup {ds : List PyData} (h : frzs ds = true) : frz (.tuple ds) = true := h
theorem frz_net {n : Int} {arcs : List Arc} : frz (encN n arcs) = true := by
  show frzs [PyData.int n, .tuple (arcs.map encA)] = true
  rw [frzs_iff]
  intro d hd
  rcases List.mem_cons.mp hd with e | hd
  · rw [e]; rfl
  · rw [List.mem_singleton.mp hd]; exact frz_arcs
/-- the law: always true -/
def spLaw (K : PySem.W.Frag) (cs : List (Addr × Addr)) : Sp := fun vs H Q _ => ∃ (a : Addr) (ns : List Int), vs = [.ref a] ∧ SqL K H a (ns.map V.int) ∧ ns.length ≤ 63 ∧ Tabs cs H ∧ ∀ H', Q (.bl true) H'

abbrev N_law : List Str := ["script", "pool", "net", "n", "arcs", "s", "t", "k", "needs", "bounded", "task", "rows", "side", "outside", "cut", "crowd", "linear", "weights", "ties", "orders", "lengths", "wanted", "crosses", "v", "i", "j", "c", "u", "d"]
theorem sc_law : FnScope N_law ["script"] (defScope s_law) := ⟨rfl, rfl, rfl, by decide +kernel, rfl, by decide +kernel, by decide +kernel⟩

def loopBody (i : Nat) : List Stmt := match (defBody s_law)[i]? with
  | some (.For _ _ b _ _) => b
  | _ => []

theorem law_b1 (B : Bi mg) (f_lw_same : Fn P w K mg base cs 1 "_law_same" R_lw_same) (f_judge : Fn P w K mg base cs 9 "judge" R_judge) {A : Around} {outer : List Env} {s : Shared} {H0 : Hp} {E : XK} {f : Addr} {cdv : Value} {H : Hp} {a p : Addr} {v2 v3 v4 w5 w6 v8 v9 v10 v11 v12 : V} {u13 u14 u15 u16 u17 : Option V} {n : Nat} {arcs : List Arc} {ss tt k : Int} {side : List Int}
    (hr : Room 9 (A.deeper (envOfC "law" (defScope s_law) s.heap.objs.size f cdv))) (T : Tabs cs H) (h2 : Dp K H v2 (encN n arcs)) (h3 : Dp K H v3 (.int (n : Int))) (h4 : Dp K H v4 (.tuple (arcs.map encA))) (h5 : Dp K H w5 (.int ss)) (h6 : Dp K H w6 (.int tt)) (h8 : Dp K H v8 (tI (needsL n ss tt k)))
    (h9 : Dp K H v9 (encB n (boundedL arcs))) (h10 : Dp K H v10 (.tuple [.str "task", .int n, .tuple ((taskL arcs).map tI), tI (needsL n ss tt k), .none])) (h11 : Dp K H v11 (.tuple ((rowsL n arcs).map tI))) (h12 : Dp K H v12 (tI side))
    (net : NetI n arcs) (la : arcs.length ≤ 6) (n4 : n ≤ 4) (s0 : 0 ≤ ss) (s1 : ss < n) (t0 : 0 ≤ tt) (t1 : tt < n) (ne : ss ≠ tt) (k0 : 0 ≤ k) (k1 : k ≤ 100) (hpl : isPlaces n (tI side) = true) (sle : side.length ≤ n)
    (D : Ends) (hD : ∀ σ' H', Ext H H' → (∃ u12 u13 u14 u15 u16 u17, σ' = [some (.ref a), some (.ref p), some v2, some v3, some v4, some w5, some w6, some (.int k), some v8, some v9, some v10, some v11, u12, u13, u14, u15, u16, u17, none, none, none, none, none, none, none, none, none, none, none]) → D.nx σ' H') :
    WB (fx P w K mg base N_law "law" (defScope s_law) f cdv A outer s H0 E) (loopBody 9) D [some (.ref a), some (.ref p), some v2, some v3, some v4, some w5, some w6, some (.int k), some v8, some v9, some v10, some v11, some v12, u13, u14, u15, u16, u17, none, none, none, none, none, none, none, none, none, none, none] H := by
  have nd := sc_law.nd
  have hk : ∀ {H' : Hp}, Dp K H' (.int k) (.int k) := .int k
  -- outside
  refine wb_set (hx := lo_outside) (P := fun v H' => Dp K H' v (tI (outL n side))) 13 nd (Wd.is (wd_tupL (hg := gl_tuple) B (Wl.wd (wl_lc (xs := List.range n) (enc := fun v : Nat => PyData.int (v : Int)) [("v", 23)] [23] (fun v => [.int (v : Int)]) (fun v : Nat => !decide ((v : Int) ∈ side)) (fun v : Nat => .int (v : Int)) rfl nd (blkOk_by (N := N_law) (sc := defScope s_law) (by decide +kernel)) (src_range (hg := gl_range) B (wd_var (hv := vi_n) 3 rfl h3) (by omega)) (by decide) (by rw [List.length_range]; omega) (fun _ _ _ => rfl) fun x hx => turn_xi 23 (fun _ => nd) (fun _ => rfl) (fun _ => .inl rfl) (fun _ => .inr rfl) (fun z H' v e hv => ?_) fun hb z H' v e hv => ?_))) ?_) fun v13 H1 x1 h13 => ?_
  · exact wt_cmp cm_ninT (wd_var 23 rfl hv) (wd_var 12 rfl (e.dp h12))
  · exact wd_var 23 rfl hv
  · unfold outL tI
    rw [List.map_map]
    rfl
  replace h2 := x1.dp h2; replace h3 := x1.dp h3; replace h4 := x1.dp h4; replace h5 := x1.dp h5; replace h6 := x1.dp h6; replace h8 := x1.dp h8; replace h9 := x1.dp h9; replace h10 := x1.dp h10; replace h11 := x1.dp h11; replace h12 := x1.dp h12
  have T1 := T.ext x1
  have sle2 : side.length ≤ 100000 := by omega
  have ole : (outL n side).length ≤ n := out_len
  have opl : isPlaces n (tI (outL n side)) = true := places_of out_ok.1 out_ok.2
  have oin : ∀ v ∈ outL n side, 0 ≤ v ∧ v < ((needsL n ss tt k).length : Int) := fun v hv => by
    have e : (needsL n ss tt k).length = n := by unfold needsL; rw [List.length_map, List.length_range]
    rw [e]
    exact out_ok.2 v hv
  -- cut
  refine wb_set (hx := lo_cut) (P := fun v H' => Dp K H' v (.bool (cutOf arcs side ss tt k))) 14 nd (Wd.is (wd_call (hg := gl_judge) f_judge hr (by decide) T1 (wa_cons (wd_tup (wa_cons wd_str (wa_cons (wd_var (hv := vi_net) 2 rfl h2) (wa_cons (wd_var (hv := vi_s) 5 rfl h5) (wa_cons (wd_var (hv := vi_t) 6 rfl h6) (wa_cons (wd_var (hv := vi_k) 7 rfl hk) wa_nil)))))) (wa_cons (wd_tup (wa_cons wd_str (wa_cons (wd_var (hv := vi_side) 12 rfl h12) wa_nil))) wa_nil)) ⟨"flow", _, _, rfl, .inl ⟨rfl, ⟨(n : Int), arcs, ss, tt, k, side⟩, ⟨by omega, sle2⟩, rfl, rfl⟩⟩) ?_) fun v14 H2 x2 h14 => ?_
  · show PyData.bool (isPlaces n (tI side) && (decide (ss ∈ side) && (!decide (tt ∈ side) && decide (crossI arcs side < k)))) = PyData.bool (cutOf arcs side ss tt k)
    rw [hpl, Bool.true_and]
    rfl
  replace h2 := x2.dp h2; replace h3 := x2.dp h3; replace h4 := x2.dp h4; replace h5 := x2.dp h5; replace h6 := x2.dp h6; replace h8 := x2.dp h8; replace h9 := x2.dp h9; replace h10 := x2.dp h10; replace h11 := x2.dp h11; replace h12 := x2.dp h12; replace h13 := x2.dp h13
  have T2 := T1.ext x2
  -- crowd
  refine wb_set (hx := lo_crowd) (P := fun v H' => Dp K H' v (.bool (crowdOf arcs side ss tt k))) 15 nd (Wd.is (wd_call (hg := gl_judge) f_judge hr (by decide) T2 (wa_cons (wd_tup (wa_cons wd_str (wa_cons (wd_var (hv := vi_bounded) 9 rfl h9) (wa_cons (wd_var (hv := vi_needs) 8 rfl h8) wa_nil)))) (wa_cons (wd_tup (wa_cons wd_str (wa_cons (wd_var (hv := vi_outside) 13 rfl h13) wa_nil))) wa_nil)) ⟨"need", _, _, rfl, .inr (.inl ⟨rfl, ⟨(n : Int), boundedL arcs, needsL n ss tt k, outL n side⟩, ⟨?_, oin, ?_, by omega⟩, rfl, rfl⟩)⟩) ?_) fun v15 H3 x3 h15 => ?_
  · intro r hr'
    unfold boundedL at hr'
    obtain ⟨b, _, rfl⟩ := List.mem_map.mp hr'
    exact Nat.le_refl _
  · unfold boundedL
    rw [List.length_map]
    omega
  · show PyData.bool (isPlaces n (tI (outL n side)) && crowdI (boundedL arcs) (needsL n ss tt k) (outL n side)) = PyData.bool (crowdOf arcs side ss tt k)
    rw [opl, Bool.true_and]
    unfold boundedL
    rw [crowd_gen net s0 s1 t0 t1 ne (fun a => [a.1, a.2.1, 0, a.2.2]) (fun _ => rfl) (fun _ => rfl) (fun _ => rfl) (fun _ => rfl)]
  replace h2 := x3.dp h2; replace h3 := x3.dp h3; replace h4 := x3.dp h4; replace h5 := x3.dp h5; replace h6 := x3.dp h6; replace h8 := x3.dp h8; replace h9 := x3.dp h9; replace h10 := x3.dp h10; replace h11 := x3.dp h11; replace h12 := x3.dp h12; replace h13 := x3.dp h13; replace h14 := x3.dp h14
  have T3 := T2.ext x3
  -- the first test
  refine wb_if (k := false) (wt_w (ww_or (k := false) (wt_w (Ww.is (ww_and (wt_cmp cm_inT (wd_var (hv := vi_s) 5 rfl h5) (wd_var (hv := vi_side) 12 rfl h12)) fun _ => ww_and (wt_cmp cm_ninT (wd_var (hv := vi_t) 6 rfl h6) (wd_var (hv := vi_side) 12 rfl h12)) fun _ => ww_and1 (wt_cmp cm_neB (wd_var (hv := vi_cut) 14 rfl h14) (wd_var (hv := vi_crowd) 15 rfl h15))) ?_)) fun _ => ww_or (k := false) (wt_w (Ww.is (ww_and (wt_val (wd_var (hv := vi_cut) 14 rfl h14)) fun _ => ww_and1 (wt_not (wt_val (wd_var (hv := vi_crowd) 15 rfl h15)))) ?_)) fun _ => ww_or1 (Wt.is (wt_not (wt_val (wd_call (hg := gl__law_same) f_lw_same hr (by decide) T3 (wa_cons (Wd.is (wd_call (hg := gl_judge) f_judge hr (by decide) T3 (wa_cons (wd_var (hv := vi_task) 10 rfl h10) (wa_cons (wd_tup (wa_cons wd_str (wa_cons (wd_var (hv := vi_outside) 13 rfl h13) wa_nil))) wa_nil)) ⟨"task", _, _, rfl, .inr (.inr (.inl ⟨rfl, ⟨(n : Int), taskL arcs, needsL n ss tt k, outL n side⟩, ⟨?_, oin, ?_, by omega⟩, rfl, rfl⟩))⟩) ?_) (wa_cons (wd_var (hv := vi_crowd) 15 rfl h15) wa_nil)) ⟨(crowdOf arcs side ss tt k, crowdOf arcs side ss tt k), trivial, rfl, rfl⟩))) ?_))) (fun hk => nomatch hk) fun _ H4 x4 => ?_
  · by_cases c1 : ss ∈ side
    · by_cases c2 : tt ∈ side
      · simp [c2]
      · rw [cut_crowd c1 c2]; simp
    · simp [c1]
  · cases hc : cutOf arcs side ss tt k with
    | false => rfl
    | true => rw [cut_imp hc]; rfl
  · intro r hr'
    unfold taskL at hr'
    obtain ⟨b, _, rfl⟩ := List.mem_map.mp hr'
    show 4 ≤ 5
    omega
  · unfold taskL
    rw [List.length_map]
    omega
  · show PyData.bool (isPlaces n (tI (outL n side)) && crowdI (taskL arcs) (needsL n ss tt k) (outL n side)) = PyData.bool (crowdOf arcs side ss tt k)
    rw [opl, Bool.true_and]
    unfold taskL
    rw [crowd_gen net s0 s1 t0 t1 ne (fun a => [a.1, a.2.1, 0, a.2.2, 0]) (fun _ => rfl) (fun _ => rfl) (fun _ => rfl) (fun _ => rfl)]
  · show (!(crowdOf arcs side ss tt k == crowdOf arcs side ss tt k)) = false
    simp
  replace h2 := x4.dp h2; replace h3 := x4.dp h3; replace h4 := x4.dp h4; replace h5 := x4.dp h5; replace h6 := x4.dp h6; replace h8 := x4.dp h8; replace h9 := x4.dp h9; replace h10 := x4.dp h10; replace h11 := x4.dp h11; replace h12 := x4.dp h12; replace h13 := x4.dp h13; replace h14 := x4.dp h14; replace h15 := x4.dp h15
  have T4 := T3.ext x4
  have x04 := ((x1.trans x2).trans x3).trans x4
  -- the second
  refine wb_nil (wb_if (wt_cmp cm_gt (Wd.is (wd_lenT (hg := gl_len) B (wd_var (hv := vi_arcs) 4 rfl h4)) (by rw [List.length_map])) wd_int) (fun hk5 H5 x5 => ?_) fun _ H5 x5 => wb_nil (wb_nil (hD _ H5 (x04.trans x5) ⟨_, _, _, _, _, _, rfl⟩)))
  have hpos : 0 < arcs.length := by
    have := of_decide_eq_true hk5
    omega
  replace h2 := x5.dp h2; replace h3 := x5.dp h3; replace h4 := x5.dp h4; replace h5 := x5.dp h5; replace h6 := x5.dp h6; replace h8 := x5.dp h8; replace h9 := x5.dp h9; replace h10 := x5.dp h10; replace h11 := x5.dp h11; replace h12 := x5.dp h12; replace h13 := x5.dp h13; replace h14 := x5.dp h14; replace h15 := x5.dp h15
  have T5 := T4.ext x5
  have zeros : ∀ {σ' : L2.St} {pa pb pc pd pe pf : Pos} {jt kt : Nat}, σ'[4]? = some (some v4) → Wd (fx P w K mg base N_law "law" (defScope s_law) f cdv A outer s H0 E) (.BinOp (.Tuple [.Constant (.int 0) jt pa] kt pb) .Mult (.Call (.Name "len" pc) [.Name "arcs" pd] [] pe) pf) σ' H5 (tI (zerosL arcs)) := fun hσ => by
    refine Wd.is (wd_bin (bn_rep (k := (arcs.length : Int)) (by simp) (by omega) (by omega) (by decide)) (wd_tup (wa_cons wd_int wa_nil)) (Wd.is (wd_lenT (hg := gl_len) B (wd_var (hv := vi_arcs) 4 hσ h4)) (by rw [List.length_map]))) ?_
    show PyData.tuple _ = PyData.tuple ((zerosL arcs).map .int)
    congr 1
    rw [show ((arcs.length : Int)).toNat = arcs.length by omega]
    unfold zerosL
    rw [List.map_map]
    clear hσ
    generalize arcs = l
    induction l with
    | nil => rfl
    | cons x l ih => rw [List.length_cons, List.replicate_succ, List.flatten_cons, ih]; rfl
  refine wb_set (hx := lo_linear) (P := fun v H' => Dp K H' v (.tuple [.str "linear", .tuple ((rowsL n arcs).map tI), tI (needsL n ss tt k), tI (zerosL arcs), tI (capsL arcs), tI (zerosL arcs), .none])) 16 nd (Wd.is (wd_tup (wa_cons wd_str (wa_cons (wd_var (hv := vi_rows) 11 rfl h11) (wa_cons (wd_var (hv := vi_needs) 8 rfl h8) (wa_cons (zeros rfl) (wa_cons (wd_tupL (hg := gl_tuple) B (Wl.wd (wl_lc (xs := arcs) (enc := encA) [("i", 24), ("j", 25), ("c", 26)] [24, 25, 26] (fun a => [.int a.1, .int a.2.1, .int a.2.2]) (fun _ => true) (fun a => .int a.2.2) rfl nd (blkOk_by (N := N_law) (sc := defScope s_law) (by decide +kernel)) (src_T keeps_ext (wd_var (hv := vi_arcs) 4 rfl h4)) (by decide) (by omega) (fun _ _ _ => rfl) fun x hx => turn_nil (fun z => gj_arc rfl (gj_nm 24 nd) (gj_nm 25 nd) (gj_nm 26 nd)) fun z H' ws e dw => ?_))) (wa_cons (zeros rfl) (wa_cons wd_non wa_nil)))))))) ?_) fun v16 H6 x6 h16 => ?_
  · obtain ⟨a1, ws, rfl, g1, dw⟩ := dps_cons dw
    obtain ⟨a2, ws, rfl, g2, dw⟩ := dps_cons dw
    obtain ⟨a3, ws, rfl, g3, dw⟩ := dps_cons dw
    obtain rfl := dps_nil dw
    exact wd_var 26 rfl g3
  · rw [flt_all]
    unfold capsL
    show PyData.tuple [_, _, _, _, _, _, _] = PyData.tuple [_, _, _, _, PyData.tuple ((arcs.map fun a => a.2.2).map .int), _, _]
    rw [List.map_map]
    rfl
  replace h2 := x6.dp h2; replace h3 := x6.dp h3; replace h4 := x6.dp h4; replace h5 := x6.dp h5; replace h6 := x6.dp h6; replace h8 := x6.dp h8; replace h9 := x6.dp h9; replace h10 := x6.dp h10; replace h11 := x6.dp h11; replace h12 := x6.dp h12; replace h13 := x6.dp h13; replace h14 := x6.dp h14; replace h15 := x6.dp h15
  have T6 := T5.ext x6
  refine wb_set (hx := lo_weights) (P := fun v H' => Dp K H' v (.tuple ((ptsL n (outL n side)).map encQ))) 17 nd (Wd.is (wd_tupL (hg := gl_tuple) B (Wl.wd (wl_lc (xs := List.range n) (enc := fun v : Nat => PyData.int (v : Int)) [("v", 23)] [23] (fun v => [.int (v : Int)]) (fun _ => true) (fun v : Nat => encQ (bitOf (outL n side) (v : Int), 1)) rfl nd (blkOk_by (N := N_law) (sc := defScope s_law) (by decide +kernel)) (src_range (hg := gl_range) B (wd_var (hv := vi_n) 3 rfl h3) (by omega)) (by decide) (by rw [List.length_range]; omega) (fun _ _ _ => rfl) fun x hx => turn_x 23 (fun _ => nd) (fun _ => rfl) (fun _ => .inl rfl) (fun _ => .inr rfl) fun z H' v e hv => ?_))) ?_) fun v17 H7 x7 h17 => ?_
  · refine wd_tup (wa_cons (wd_if (d := .int (bitOf (outL n side) (x : Int))) (wt_cmp cm_inT (wd_var 23 rfl hv) (wd_var 13 rfl (e.dp h13))) (fun hb => Wd.is wd_int ?_) fun hb => Wd.is wd_int ?_) (wa_cons wd_int wa_nil))
    · unfold bitOf; rw [if_pos (of_decide_eq_true hb)]
    · unfold bitOf; rw [if_neg (of_decide_eq_false hb)]
  · rw [flt_all]
    unfold ptsL
    rw [List.map_map]
    rfl
  replace h2 := x7.dp h2; replace h3 := x7.dp h3; replace h4 := x7.dp h4; replace h5 := x7.dp h5; replace h6 := x7.dp h6; replace h8 := x7.dp h8; replace h9 := x7.dp h9; replace h10 := x7.dp h10; replace h11 := x7.dp h11; replace h12 := x7.dp h12; replace h13 := x7.dp h13; replace h14 := x7.dp h14; replace h15 := x7.dp h15; replace h16 := x7.dp h16
  have T7 := T6.ext x7
  refine wb_if (k := false) (Wt.is (wt_cmp cm_neB (Wd.is (d' := .bool (crowdOf arcs side ss tt k)) (wd_call (hg := gl_judge) f_judge hr (by decide) T7 (wa_cons (wd_var (hv := vi_linear) 16 rfl h16) (wa_cons (wd_tup (wa_cons wd_str (wa_cons (wd_var (hv := vi_weights) 17 rfl h17) (wa_cons (d := encQ (0, 1)) (wd_tup (wa_cons wd_int (wa_cons wd_int wa_nil))) wa_nil)))) wa_nil)) ⟨"linear", _, _, rfl, .inr (.inr (.inr (.inl ⟨rfl, ⟨rowsL n arcs, needsL n ss tt k, zerosL arcs, capsL arcs, zerosL arcs, none, ptsL n (outL n side), (0, 1)⟩, linOk net (by omega) (by omega) k0 k1, rfl, rfl⟩)))⟩) ?_) (wd_var (hv := vi_crowd) 15 rfl h15)) ?_) (fun hk => nomatch hk) fun _ H8 x8 => ?_
  · show PyData.bool _ = PyData.bool (crowdOf arcs side ss tt k)
    congr 1
    exact lin_crowd net s0 s1 t0 t1 ne
  · simp
  exact wb_nil (wb_nil (wb_nil (hD _ H8 ((((x04.trans x5).trans x6).trans x7).trans x8) ⟨_, _, _, _, _, _, rfl⟩)))

theorem law_b2 (B : Bi mg) (f_judge : Fn P w K mg base cs 9 "judge" R_judge) {A : Around} {outer : List Env} {s : Shared} {H0 : Hp} {E : XK} {f : Addr} {cdv : Value} {H : Hp} {a p : Addr} {v2 v3 v12 v18 v19 : V} {u4 u5 u6 u7 u8 u9 u10 u11 u13 u14 u15 u16 u17 u20 u21 u22 : Option V} {n : Nat} {ties orders : List Arc} {side : List Int}
    (hr : Room 9 (A.deeper (envOfC "law" (defScope s_law) s.heap.objs.size f cdv))) (T : Tabs cs H) (h3 : Dp K H v3 (.int (n : Int))) (h18 : Dp K H v18 (.tuple (ties.map encA))) (h19 : Dp K H v19 (.tuple (orders.map encA))) (h12 : Dp K H v12 (tI side))
    (n4 : n ≤ 4) (ht : TiesI n ties) (lt : ties.length ≤ 4) (ho : OrdsI n orders) (lo : orders.length ≤ 3)
    (D : Ends) (hD : ∀ σ' H', Ext H H' → (∃ u12 u20 u21 u22, σ' = [some (.ref a), some (.ref p), some v2, some v3, u4, u5, u6, u7, u8, u9, u10, u11, u12, u13, u14, u15, u16, u17, some v18, some v19, u20, u21, u22, none, none, none, none, none, none]) → D.nx σ' H') :
    WB (fx P w K mg base N_law "law" (defScope s_law) f cdv A outer s H0 E) (loopBody 11) D [some (.ref a), some (.ref p), some v2, some v3, u4, u5, u6, u7, u8, u9, u10, u11, some v12, u13, u14, u15, u16, u17, some v18, some v19, u20, u21, u22, none, none, none, none, none, none] H := by
  have nd := sc_law.nd
  have parted : ∀ (i j : Int), part side i j = if (decide (i ∈ side) != decide (j ∈ side)) = true then 1 else 0 := fun _ _ => rfl
  refine wb_set (hx := lo_lengths) (P := fun v H' => Dp K H' v (.tuple ((lensL side ties).map encQ))) 20 nd (Wd.is (wd_tupL (hg := gl_tuple) B (Wl.wd (wl_lc (xs := ties) (enc := encA) [("i", 24), ("j", 25), ("c", 26)] [24, 25, 26] (fun a => [.int a.1, .int a.2.1, .int a.2.2]) (fun _ => true) (fun a => encQ (up (part side a.1 a.2.1))) rfl nd (blkOk_by (N := N_law) (sc := defScope s_law) (by decide +kernel)) (src_T keeps_ext (wd_var (hv := vi_ties) 18 rfl h18)) (by decide) (by omega) (fun _ _ _ => rfl) fun x hx => turn_nil (fun z => gj_arc rfl (gj_nm 24 nd) (gj_nm 25 nd) (gj_nm 26 nd)) fun z H' ws e dw => ?_))) ?_) fun v20 H1 x1 h20 => ?_
  · obtain ⟨a1, ws, rfl, g1, dw⟩ := dps_cons dw
    obtain ⟨a2, ws, rfl, g2, dw⟩ := dps_cons dw
    obtain ⟨a3, ws, rfl, g3, dw⟩ := dps_cons dw
    obtain rfl := dps_nil dw
    refine wd_if (wt_cmp cm_neB (wd_cmp cm_inT (wd_var 24 rfl g1) (wd_var 12 rfl (e.dp h12))) (wd_cmp cm_inT (wd_var 25 rfl g2) (wd_var 12 rfl (e.dp h12)))) (fun hb => Wd.is (wd_tup (wa_cons wd_int (wa_cons wd_int wa_nil))) ?_) fun hb => Wd.is (wd_tup (wa_cons wd_int (wa_cons wd_int wa_nil))) ?_
    · rw [parted, if_pos hb]; rfl
    · rw [parted, if_neg (by rw [hb]; decide)]; rfl
  · rw [flt_all]
    unfold lensL
    rw [List.map_map]
    rfl
  replace h3 := x1.dp h3; replace h18 := x1.dp h18; replace h19 := x1.dp h19; replace h12 := x1.dp h12
  have T1 := T.ext x1
  refine wb_set (hx := lo_wanted) (P := fun v H' => Dp K H' v (.int (wantI side orders))) 21 nd (Wd.is (wd_sum (hg := gl_sum) (ns := (orders.filter fun o => decide (o.1 ∈ side) != decide (o.2.1 ∈ side)).map (·.2.2)) B rfl (Wd.is (Wl.wd (wl_lc (xs := orders) (enc := encA) [("u", 27), ("v", 23), ("d", 28)] [27, 23, 28] (fun a => [.int a.1, .int a.2.1, .int a.2.2]) (fun o => decide (o.1 ∈ side) != decide (o.2.1 ∈ side)) (fun a => .int a.2.2) rfl nd (blkOk_by (N := N_law) (sc := defScope s_law) (by decide +kernel)) (src_T keeps_ext (wd_var (hv := vi_orders) 19 rfl h19)) (by decide) (by omega) (fun _ _ _ => rfl) fun x hx => turn_one (fun z => gj_arc rfl (gj_nm 27 nd) (gj_nm 23 nd) (gj_nm 28 nd)) (fun z H' ws e dw => ?_) fun hb z H' ws e dw => ?_)) ?_)) rfl) fun v21 H2 x2 h21 => ?_
  · obtain ⟨a1, ws, rfl, g1, dw⟩ := dps_cons dw
    obtain ⟨a2, ws, rfl, g2, dw⟩ := dps_cons dw
    obtain ⟨a3, ws, rfl, g3, dw⟩ := dps_cons dw
    obtain rfl := dps_nil dw
    exact wt_cmp cm_neB (wd_cmp cm_inT (wd_var 27 rfl g1) (wd_var 12 rfl (e.dp h12))) (wd_cmp cm_inT (wd_var 23 rfl g2) (wd_var 12 rfl (e.dp h12)))
  · obtain ⟨a1, ws, rfl, g1, dw⟩ := dps_cons dw
    obtain ⟨a2, ws, rfl, g2, dw⟩ := dps_cons dw
    obtain ⟨a3, ws, rfl, g3, dw⟩ := dps_cons dw
    obtain rfl := dps_nil dw
    exact wd_var 28 rfl g3
  · rw [List.map_map]
    rfl
  replace h3 := x2.dp h3; replace h18 := x2.dp h18; replace h19 := x2.dp h19; replace h12 := x2.dp h12; replace h20 := x2.dp h20
  have T2 := T1.ext x2
  refine wb_set (hx := lo_crosses) (P := fun v H' => Dp K H' v (.int (wantI side ties))) 22 nd (Wd.is (wd_sum (hg := gl_sum) (ns := (ties.filter fun o => decide (o.1 ∈ side) != decide (o.2.1 ∈ side)).map (·.2.2)) B rfl (Wd.is (Wl.wd (wl_lc (xs := ties) (enc := encA) [("i", 24), ("j", 25), ("c", 26)] [24, 25, 26] (fun a => [.int a.1, .int a.2.1, .int a.2.2]) (fun o => decide (o.1 ∈ side) != decide (o.2.1 ∈ side)) (fun a => .int a.2.2) rfl nd (blkOk_by (N := N_law) (sc := defScope s_law) (by decide +kernel)) (src_T keeps_ext (wd_var (hv := vi_ties) 18 rfl h18)) (by decide) (by omega) (fun _ _ _ => rfl) fun x hx => turn_one (fun z => gj_arc rfl (gj_nm 24 nd) (gj_nm 25 nd) (gj_nm 26 nd)) (fun z H' ws e dw => ?_) fun hb z H' ws e dw => ?_)) ?_)) rfl) fun v22 H3 x3 h22 => ?_
  · obtain ⟨a1, ws, rfl, g1, dw⟩ := dps_cons dw
    obtain ⟨a2, ws, rfl, g2, dw⟩ := dps_cons dw
    obtain ⟨a3, ws, rfl, g3, dw⟩ := dps_cons dw
    obtain rfl := dps_nil dw
    exact wt_cmp cm_neB (wd_cmp cm_inT (wd_var 24 rfl g1) (wd_var 12 rfl (e.dp h12))) (wd_cmp cm_inT (wd_var 25 rfl g2) (wd_var 12 rfl (e.dp h12)))
  · obtain ⟨a1, ws, rfl, g1, dw⟩ := dps_cons dw
    obtain ⟨a2, ws, rfl, g2, dw⟩ := dps_cons dw
    obtain ⟨a3, ws, rfl, g3, dw⟩ := dps_cons dw
    obtain rfl := dps_nil dw
    exact wd_var 26 rfl g3
  · rw [List.map_map]
    rfl
  replace h3 := x3.dp h3; replace h18 := x3.dp h18; replace h19 := x3.dp h19; replace h12 := x3.dp h12; replace h20 := x3.dp h20; replace h21 := x3.dp h21
  have T3 := T2.ext x3
  refine wb_if (k := false) (wt_w (Ww.is (ww_and (k' := false) (wt_cmp cm_gt (wd_var (hv := vi_wanted) 21 rfl h21) (wd_var (hv := vi_crosses) 22 rfl h22)) fun hw => ww_and1 (Wt.is (wt_not (wt_val (wd_call (hg := gl_judge) f_judge hr (by decide) T3 (wa_cons (wd_tup (wa_cons wd_str (wa_cons (wd_var (hv := vi_n) 3 rfl h3) (wa_cons (wd_var (hv := vi_ties) 18 rfl h18) (wa_cons (wd_var (hv := vi_orders) 19 rfl h19) wa_nil))))) (wa_cons (wd_tup (wa_cons wd_str (wa_cons (wd_var (hv := vi_lengths) 20 rfl h20) wa_nil))) wa_nil)) ⟨"orders", _, _, rfl, .inr (.inr (.inr (.inr ⟨rfl, ⟨n, ties, orders, lensL side ties⟩, ordOk (by omega) (by omega) (by omega) ht ho, rfl, rfl⟩)))⟩))) ?_)) (Bool.and_false _))) (fun hk => nomatch hk) fun _ H4 x4 => ?_
  · have h := ord_true (side := side) (n := n) (by omega) (by omega) ho (of_decide_eq_true hw)
    rw [h]
    rfl
  exact wb_nil (wb_nil (hD _ H4 (((x1.trans x2).trans x3).trans x4) ⟨_, _, _, _, rfl⟩))
end Hd


set_option Elab.async false
set_option linter.all false
set_option maxRecDepth 100000
set_option maxHeartbeats 4000000
namespace Hd
open PySem PySem.Spec PyProof.Rows L2 FW
variable {P : Program} {w : World} {K : PySem.W.Frag} {mg : Str → Option Value} {base : Heap} {cs : List (Addr × Addr)}
def stOf (i : Nat) : Stmt := (defBody s_law).getD i (.Pass ⟨0, 0, 0, 0⟩)
/-- the scope of the outer comprehension of rows -/
def rowsSc : Scope := match stOf 8 with
  | .Assign _ (.Call _ [.ListComp _ _ sc _] _ _) _ => sc
  | _ => defScope s_law

theorem law_needs (B : Bi mg) {A : Around} {outer : List Env} {s : Shared} {H0 : Hp} {E : XK} {f : Addr} {cdv : Value} {H : Hp} {u0 u1 u2 u8 u9 u10 u11 : Option V} {v3 v4 v5 v6 v8 : V} {n : Nat} {arcs : List Arc} {ss tt k : Int} (h3 : Dp K H v3 (.int (n : Int))) (h5 : Dp K H v5 (.int ss)) (h6 : Dp K H v6 (.int tt)) (nn4 : n ≤ 4)
    (D : Ends) (rest : List Stmt) (q : ∀ v H', Ext H H' → Dp K H' v (tI (needsL n ss tt k)) → WB (fx P w K mg base N_law "law" (defScope s_law) f cdv A outer s H0 E) rest D (([u0, u1, u2, some v3, some v4, some v5, some v6, some (.int k), u8, u9, u10, u11, none, none, none, none, none, none, none, none, none, none, none, none, none, none, none, none, none] : L2.St).set 8 (some v)) H') :
    WB (fx P w K mg base N_law "law" (defScope s_law) f cdv A outer s H0 E) (stOf 5 :: rest) D [u0, u1, u2, some v3, some v4, some v5, some v6, some (.int k), u8, u9, u10, u11, none, none, none, none, none, none, none, none, none, none, none, none, none, none, none, none, none] H := by
  have nd := sc_law.nd
  refine wb_set (hx := lo_needs) (P := fun v H' => Dp K H' v (tI (needsL n ss tt k))) 8 nd (Wd.is (wd_tupL (hg := gl_tuple) B (Wl.wd (wl_lc (xs := List.range n) (enc := fun v : Nat => PyData.int (v : Int)) [("v", 23)] [23] (fun v => [.int (v : Int)]) (fun _ => true) (fun v => .int (needOf ss tt k v)) rfl nd (blkOk_by (N := N_law) (sc := defScope s_law) (by decide +kernel)) (src_range (hg := gl_range) B (wd_var (hv := vi_n) 3 rfl h3) (by omega)) (by decide) (by rw [List.length_range]; omega) (fun _ _ _ => rfl) fun x hx => turn_x 23 (fun _ => nd) (fun _ => rfl) (fun _ => .inl rfl) (fun _ => .inr rfl) fun z H' v e hv => ?_))) ?_) q
  · refine wd_if (wt_cmp cm_eqI (wd_var 23 rfl hv) (wd_var 6 rfl (e.dp h6))) (fun hb => Wd.is (wd_var 7 rfl (.int k)) ?_) fun hb => Wd.is (wd_if (d := .int (if (x : Int) = ss then 0 - k else 0)) (wt_cmp cm_eqI (wd_var 23 rfl hv) (wd_var 5 rfl (e.dp h5))) (fun hb2 => Wd.is (wd_bin bn_sub wd_int (wd_var 7 rfl (.int k))) ?_) fun hb2 => Wd.is wd_int ?_) ?_
    · unfold needOf; rw [if_pos (of_decide_eq_true hb)]
    · rw [if_pos (of_decide_eq_true hb2)]
    · rw [if_neg (of_decide_eq_false hb2)]
    · unfold needOf; rw [if_neg (of_decide_eq_false hb)]
  · rw [flt_all]
    unfold needsL tI
    rw [List.map_map]
    rfl

theorem law_bounded (B : Bi mg) {A : Around} {outer : List Env} {s : Shared} {H0 : Hp} {E : XK} {f : Addr} {cdv : Value} {H : Hp} {u0 u1 u2 u8 u9 u10 u11 : Option V} {v3 v4 v5 v6 v8 : V} {n : Nat} {arcs : List Arc} {ss tt k : Int} (h3 : Dp K H v3 (.int (n : Int))) (h4 : Dp K H v4 (.tuple (arcs.map encA))) (la : arcs.length ≤ 6)
    (D : Ends) (rest : List Stmt) (q : ∀ v H', Ext H H' → Dp K H' v (encB n (boundedL arcs)) → WB (fx P w K mg base N_law "law" (defScope s_law) f cdv A outer s H0 E) rest D (([u0, u1, u2, some v3, some v4, some v5, some v6, some (.int k), u8, u9, u10, u11, none, none, none, none, none, none, none, none, none, none, none, none, none, none, none, none, none] : L2.St).set 9 (some v)) H') :
    WB (fx P w K mg base N_law "law" (defScope s_law) f cdv A outer s H0 E) (stOf 6 :: rest) D [u0, u1, u2, some v3, some v4, some v5, some v6, some (.int k), u8, u9, u10, u11, none, none, none, none, none, none, none, none, none, none, none, none, none, none, none, none, none] H := by
  have nd := sc_law.nd
  refine wb_set (hx := lo_bounded) (P := fun v H' => Dp K H' v (encB n (boundedL arcs))) 9 nd (Wd.is (wd_tup (wa_cons (wd_var (hv := vi_n) 3 rfl h3) (wa_cons (wd_tupL (hg := gl_tuple) B (Wl.wd (wl_lc (xs := arcs) (enc := encA) [("i", 24), ("j", 25), ("c", 26)] [24, 25, 26] (fun a => [.int a.1, .int a.2.1, .int a.2.2]) (fun _ => true) (fun a => tI [a.1, a.2.1, 0, a.2.2]) rfl nd (blkOk_by (N := N_law) (sc := defScope s_law) (by decide +kernel)) (src_T keeps_ext (wd_var (hv := vi_arcs) 4 rfl h4)) (by decide) (by omega) (fun _ _ _ => rfl) fun x hx => turn_nil (fun z => gj_arc rfl (gj_nm 24 nd) (gj_nm 25 nd) (gj_nm 26 nd)) fun z H' ws e dw => ?_))) wa_nil))) ?_) q
  · obtain ⟨a1, ws, rfl, g1, dw⟩ := dps_cons dw
    obtain ⟨a2, ws, rfl, g2, dw⟩ := dps_cons dw
    obtain ⟨a3, ws, rfl, g3, dw⟩ := dps_cons dw
    obtain rfl := dps_nil dw
    exact wd_tup (wa_cons (wd_var 24 rfl g1) (wa_cons (wd_var 25 rfl g2) (wa_cons wd_int (wa_cons (wd_var 26 rfl g3) wa_nil))))
  · rw [flt_all]
    unfold boundedL encB
    rw [List.map_map]
    rfl

theorem law_task (B : Bi mg) {A : Around} {outer : List Env} {s : Shared} {H0 : Hp} {E : XK} {f : Addr} {cdv : Value} {H : Hp} {u0 u1 u2 u8 u9 u10 u11 : Option V} {v3 v4 v5 v6 v8 : V} {n : Nat} {arcs : List Arc} {ss tt k : Int} (h3 : Dp K H v3 (.int (n : Int))) (h4 : Dp K H v4 (.tuple (arcs.map encA))) (h8 : Dp K H v8 (tI (needsL n ss tt k))) (la : arcs.length ≤ 6)
    (D : Ends) (rest : List Stmt) (q : ∀ v H', Ext H H' → Dp K H' v (.tuple [.str "task", .int n, .tuple ((taskL arcs).map tI), tI (needsL n ss tt k), .none]) → WB (fx P w K mg base N_law "law" (defScope s_law) f cdv A outer s H0 E) rest D (([u0, u1, u2, some v3, some v4, some v5, some v6, some (.int k), some v8, u9, u10, u11, none, none, none, none, none, none, none, none, none, none, none, none, none, none, none, none, none] : L2.St).set 10 (some v)) H') :
    WB (fx P w K mg base N_law "law" (defScope s_law) f cdv A outer s H0 E) (stOf 7 :: rest) D [u0, u1, u2, some v3, some v4, some v5, some v6, some (.int k), some v8, u9, u10, u11, none, none, none, none, none, none, none, none, none, none, none, none, none, none, none, none, none] H := by
  have nd := sc_law.nd
  refine wb_set (hx := lo_task) (P := fun v H' => Dp K H' v (.tuple [.str "task", .int n, .tuple ((taskL arcs).map tI), tI (needsL n ss tt k), .none])) 10 nd (Wd.is (wd_tup (wa_cons wd_str (wa_cons (wd_var (hv := vi_n) 3 rfl h3) (wa_cons (wd_tupL (hg := gl_tuple) B (Wl.wd (wl_lc (xs := arcs) (enc := encA) [("i", 24), ("j", 25), ("c", 26)] [24, 25, 26] (fun a => [.int a.1, .int a.2.1, .int a.2.2]) (fun _ => true) (fun a => tI [a.1, a.2.1, 0, a.2.2, 0]) rfl nd (blkOk_by (N := N_law) (sc := defScope s_law) (by decide +kernel)) (src_T keeps_ext (wd_var (hv := vi_arcs) 4 rfl h4)) (by decide) (by omega) (fun _ _ _ => rfl) fun x hx => turn_nil (fun z => gj_arc rfl (gj_nm 24 nd) (gj_nm 25 nd) (gj_nm 26 nd)) fun z H' ws e dw => ?_))) (wa_cons (wd_var (hv := vi_needs) 8 rfl h8) (wa_cons wd_non wa_nil)))))) ?_) q
  · obtain ⟨a1, ws, rfl, g1, dw⟩ := dps_cons dw
    obtain ⟨a2, ws, rfl, g2, dw⟩ := dps_cons dw
    obtain ⟨a3, ws, rfl, g3, dw⟩ := dps_cons dw
    obtain rfl := dps_nil dw
    exact wd_tup (wa_cons (wd_var 24 rfl g1) (wa_cons (wd_var 25 rfl g2) (wa_cons wd_int (wa_cons (wd_var 26 rfl g3) (wa_cons wd_int wa_nil)))))
  · rw [flt_all]
    unfold taskL
    rw [List.map_map]
    rfl

theorem law_rows (B : Bi mg) {A : Around} {outer : List Env} {s : Shared} {H0 : Hp} {E : XK} {f : Addr} {cdv : Value} {H : Hp} {u0 u1 u2 u8 u9 u10 u11 : Option V} {v3 v4 v5 v6 v8 : V} {n : Nat} {arcs : List Arc} {ss tt k : Int} (h3 : Dp K H v3 (.int (n : Int))) (h4 : Dp K H v4 (.tuple (arcs.map encA))) (la : arcs.length ≤ 6) (nn4 : n ≤ 4)
    (D : Ends) (rest : List Stmt) (q : ∀ v H', Ext H H' → Dp K H' v (.tuple ((rowsL n arcs).map tI)) → WB (fx P w K mg base N_law "law" (defScope s_law) f cdv A outer s H0 E) rest D (([u0, u1, u2, some v3, some v4, some v5, some v6, some (.int k), u8, u9, u10, u11, none, none, none, none, none, none, none, none, none, none, none, none, none, none, none, none, none] : L2.St).set 11 (some v)) H') :
    WB (fx P w K mg base N_law "law" (defScope s_law) f cdv A outer s H0 E) (stOf 8 :: rest) D [u0, u1, u2, some v3, some v4, some v5, some v6, some (.int k), u8, u9, u10, u11, none, none, none, none, none, none, none, none, none, none, none, none, none, none, none, none, none] H := by
  have nd := sc_law.nd
  refine wb_set (hx := lo_rows) (P := fun v H' => Dp K H' v (.tuple ((rowsL n arcs).map tI))) 11 nd (Wd.is (wd_tupL (hg := gl_tuple) B (Wl.wd (wl_lc (xs := List.range n) (enc := fun v : Nat => PyData.int (v : Int)) [("v", 23)] [23] (fun v => [.int (v : Int)]) (fun _ => true) (fun v => tI (arcs.map (rowOf v))) rfl nd (blkOk_by (N := N_law) (sc := defScope s_law) (by decide +kernel)) (src_range (hg := gl_range) B (wd_var (hv := vi_n) 3 rfl h3) (by omega)) (by decide) (by rw [List.length_range]; omega) (fun _ _ _ => frzs_ints) fun x hx => turn_x 23 (fun _ => nd) (fun _ => rfl) (fun _ => .inr rfl) (fun _ => .inl rfl) fun z H' v e hv => ?_))) ?_) q
  · refine Wd.is (wd_tupL B (Wl.wd (wl_lc (xs := arcs) (enc := encA) [("i", 24), ("j", 25), ("c", 26)] [24, 25, 26] (fun a => [.int a.1, .int a.2.1, .int a.2.2]) (fun _ => true) (fun a => .int (rowOf x a)) rfl nd (blkOk_by (N := N_law) (sc := relS rowsSc (defScope s_law)) (by decide +kernel)) (src_T keeps_ext (wd_var 4 rfl (e.dp h4))) (by decide) (by omega) (fun _ _ _ => rfl) fun y hy => turn_nil (fun z => gj_arc rfl (gj_nm 24 nd) (gj_nm 25 nd) (gj_nm 26 nd)) fun z H'' ws e2 dw => ?_))) ?_
    · obtain ⟨a1, ws, rfl, g1, dw⟩ := dps_cons dw
      obtain ⟨a2, ws, rfl, g2, dw⟩ := dps_cons dw
      obtain ⟨a3, ws, rfl, g3, dw⟩ := dps_cons dw
      obtain rfl := dps_nil dw
      refine wd_if (wt_cmp cm_eqI (wd_var 25 rfl g2) (wd_var 23 rfl (e2.dp hv))) (fun hb => Wd.is wd_int ?_) fun hb => Wd.is (wd_if (d := .int (if y.1 = (x : Int) then -1 else 0)) (wt_cmp cm_eqI (wd_var 24 rfl g1) (wd_var 23 rfl (e2.dp hv))) (fun hb2 => Wd.is (wd_neg wd_int) ?_) fun hb2 => Wd.is wd_int ?_) ?_
      · unfold rowOf; rw [if_pos (of_decide_eq_true hb)]
      · rw [if_pos (of_decide_eq_true hb2)]
      · rw [if_neg (of_decide_eq_false hb2)]
      · unfold rowOf; rw [if_neg (of_decide_eq_false hb)]
    · rw [flt_all]
      unfold tI
      rw [List.map_map]
      rfl
  · rw [flt_all]
    unfold rowsL
    rw [List.map_map]
    rfl
end Hd


set_option Elab.async false
set_option linter.all false
set_option maxRecDepth 100000
set_option maxHeartbeats 40000000
namespace Hd
open PySem PySem.Spec PyProof.Rows L2 FW
variable {P : Program} {w : World} {K : PySem.W.Frag} {mg : Str → Option Value} {base : Heap} {cs : List (Addr × Addr)}
theorem f_law {f c : Addr} {fd : FuncData} (h : Stands K mg "law" "law" s_law f fd c) (B : Bi mg) (f_lw_pool : FnS P w K mg base 1 "_law_pool" (spPool K cs)) (f_lw_net : FnS P w K mg base 3 "_law_net" (spNet K cs)) (f_lw_ends : FnS P w K mg base 3 "_law_ends" (spEnds K cs)) (f_lw_draw : FnS P w K mg base 2 "_law_draw" (spDraw K cs)) (f_lw_subsets : Fn P w K mg base cs 1 "_law_subsets" R_lw_subsets) (f_lw_same : Fn P w K mg base cs 1 "_law_same" R_lw_same) (f_lw_orders : FnS P w K mg base 4 "_law_orders" (spOrders K cs)) (f_judge : Fn P w K mg base cs 9 "judge" R_judge) : FnOk P w K mg base CX0 10 f fd ["script"] (spLaw K cs) := by
  refine okC h.fn sc_law (fun vs H Q E ⟨_, _, e, _⟩ => by rw [e]; rfl) (fun A outer s H vs Q E hr hs => ⟨_, PSs.nox w_pb, ?_⟩)
  have nd := sc_law.nd
  obtain ⟨a, ns, ev, hsq, hl, T, hQ⟩ := hs
  subst ev
  refine wb_setW (hx := lo_pool) 1 nd (w_callS (hg := gl__law_pool) f_lw_pool hr (by decide) (pa_cons w_pe pa_nil) ((wr_var (hv := vi_script) 0 rfl).go fun w0 H1 x1 ew => ?_))
  subst ew
  refine ⟨a, ns, rfl, x1.sqL hsq, hl, fun p s0 H2 x2 pl _ => ?_⟩
  have T2 := (T.ext x1).ext x2
  clear x1 x2 T hsq
  refine wb_setW (hx := lo_net) 2 nd (w_callS (hg := gl__law_net) f_lw_net hr (by decide) (pa_cons w_pe (pa_cons w_pe (pa_cons w_pe pa_nil))) ((wr_var (p := p) (hv := vi_pool) 1 rfl).go fun w0 H3 x3 ew => wd_int.go fun w1 H4 x4 d1 => wd_int.go fun w2 H5 x5 d2 => ?_))
  subst ew
  rw [dp_int d1, dp_int d2]
  have x35 := (x3.trans x4).trans x5
  refine ⟨p, 4, 6, s0, ns, 0, rfl, by decide, by decide, by decide, by decide, pl.ext x35, by decide, T2.ext x35, fun v2 H6 n0 arcs e6 pl6 n2 n4 net la dv => ?_⟩
  have T6 : Tabs cs H6 := fun q hq => e6.tab _ ((T2.ext x35) q hq)
  clear e6 x35 x3 x4 x5 pl T2 d1 d2
  obtain ⟨n, rfl⟩ := Int.eq_ofNat_of_zero_le (show 0 ≤ n0 by omega)
  refine wb_asg (wd_var (hv := vi_net) 2 rfl dv) (gj_tup rfl (gj_cons (gj_nm (hx := lo_n) 3 nd) (gj_cons (gj_nm (hx := lo_arcs) 4 nd) gj_nil))) fun us H7 x7 hu => ?_
  obtain ⟨v3, us, rfl, h3, hu⟩ := dps_cons hu
  obtain ⟨v4, us, rfl, h4, hu⟩ := dps_cons hu
  obtain rfl := dps_nil hu
  refine wb_asgW (w_callS (hg := gl__law_ends) f_lw_ends hr (by decide) (pa_cons w_pe (pa_cons w_pe pa_nil)) ((wr_var (p := p) (hv := vi_pool) 1 rfl).go fun w0 H8 x8 ew => (wd_var (hv := vi_n) 3 rfl (x8.dp h3)).go fun w1 H9 x9 d1 => ?_))
  subst ew
  rw [dp_int d1]
  have x := (x7.trans x8).trans x9
  refine ⟨p, (n : Int), s0, ns, _, rfl, n2, by omega, pl6.ext x, by decide, T6.ext x, fun v5 H10 ss tt e10 pl10 a0 a1 b0 b1 ab dv5 => ?_⟩
  have fz10 : Fz H7 H10 := (x8.trans x9).toFz.trans (ExtP.fz e10 (pl6.ext x).lst)
  have h2 := fz10.dp (frz_net) (x7.dp dv)
  replace h3 := fz10.dp rfl h3
  replace h4 := fz10.dp (frz_tup frz_arcs) h4
  have T10 : Tabs cs H10 := fun q hq => e10.tab _ ((T6.ext x) q hq)
  refine (gj_tup (is := [5, 6]) (bs := [.int ss, .int tt]) rfl (gj_cons (gj_nm (hx := lo_s) 5 nd) (gj_cons (gj_nm (hx := lo_t) 6 nd) gj_nil))).go _ H10 v5 dv5 _ fun us hu => ?_
  obtain ⟨w5, us, rfl, h5, hu⟩ := dps_cons hu
  obtain ⟨w6, us, rfl, h6, hu⟩ := dps_cons hu
  obtain rfl := dps_nil hu
  refine wb_setW (hx := lo_k) 7 nd (w_addR wd_int fun H11 x11 => w_draw (hg := gl__law_draw) f_lw_draw hr (by decide) (T10.ext x11) (pl10.ext x11) (by decide) (wr_var (hv := vi_pool) 1 rfl) wd_int (by decide) (by decide) fun kk H12 e12 pl12 k0 k1 => ⟨kk, rfl, ?_⟩)
  have T12 : Tabs cs H12 := fun q hq => e12.tab _ ((T10.ext x11) q hq)
  have fz12 : Fz H10 H12 := x11.toFz.trans (ExtP.fz e12 (pl10.ext x11).lst)
  replace h2 := fz12.dp frz_net h2
  replace h3 := fz12.dp rfl h3
  replace h4 := fz12.dp (frz_tup frz_arcs) h4
  replace h5 := fz12.dp rfl h5
  replace h6 := fz12.dp rfl h6
  clear fz12 fz10 e12 x11 e10 pl10 T10 x x7 x8 x9 dv d1 dv5 pl6 T6
  generalize hk' : 1 + kk = k at *
  have hk0 : 0 ≤ k := by omega
  have hk8 : k ≤ 100 := by omega
  have hk : Dp K H12 (.int k) (.int k) := .int k
  clear hk' k0 k1
  have lar : arcs.length ≤ 6 := by omega
  have nn2 : 2 ≤ n := by omega
  have nn4 : n ≤ 4 := by omega
  -- needs, bounded, task, rows
  refine law_needs (arcs := arcs) (v8 := v2) B h3 h5 h6 nn4 _ _ fun v8 H13 x13 h8 => ?_
  replace h2 := x13.dp h2; replace h3 := x13.dp h3; replace h4 := x13.dp h4; replace h5 := x13.dp h5; replace h6 := x13.dp h6
  refine law_bounded (ss := ss) (tt := tt) (v8 := v2) B h3 h4 lar _ _ fun v9 H14 x14 h9 => ?_
  replace h2 := x14.dp h2; replace h3 := x14.dp h3; replace h4 := x14.dp h4; replace h5 := x14.dp h5; replace h6 := x14.dp h6; replace h8 := x14.dp h8
  refine law_task (u8 := none) B h3 h4 h8 lar _ _ fun v10 H15 x15 h10 => ?_
  replace h2 := x15.dp h2; replace h3 := x15.dp h3; replace h4 := x15.dp h4; replace h5 := x15.dp h5; replace h6 := x15.dp h6; replace h8 := x15.dp h8; replace h9 := x15.dp h9
  refine law_rows (ss := ss) (tt := tt) (v8 := v2) B h3 h4 lar nn4 _ _ fun v11 H16 x16 h11 => ?_
  replace h2 := x16.dp h2; replace h3 := x16.dp h3; replace h4 := x16.dp h4; replace h5 := x16.dp h5; replace h6 := x16.dp h6; replace h8 := x16.dp h8; replace h9 := x16.dp h9; replace h10 := x16.dp h10
  have x36 := ((x13.trans x14).trans x15).trans x16
  have T16 := T12.ext x36
  have pl16 := pl12.ext x36
  clear T12 pl12 x36 x13 x14 x15 x16
  -- the first loop
  refine wb_for (M := Ext) (enc := tI) [12] (fun r => [tI r]) (fun Hb i σ' H' => Ext Hb H' ∧ ∃ u12 u13 u14 u15 u16 u17, σ' = [some (.ref a), some (.ref p), some v2, some v3, some v4, some w5, some w6, some (.int k), some v8, some v9, some v10, some v11, u12, u13, u14, u15, u16, u17, none, none, none, none, none, none, none, none, none, none, none]) (src_L (wd_call (hg := gl__law_subsets) f_lw_subsets hr (by decide) T16 (wa_cons (wd_var (hv := vi_n) 3 rfl h3) wa_nil) ⟨n, by show n ≤ 10; omega, rfl, rfl⟩)) PassesOwn.never rfl (fun x _ => gj_nm (hx := lo_side) 12 nd) ?_ ?_ ?_ ?_
  · intro Hb xb
    exact ⟨Ext.refl _, none, none, none, none, none, none, rfl⟩
  · intro Hb i σ' H' ⟨y, _⟩
    exact y
  · intro Hb i side σ' H' H'' ws xb hi ⟨y1, u12, u13, u14, u15, u16, u17, eσ⟩ y2 hw
    obtain ⟨v12, ws, rfl, h12, hw⟩ := dps_cons hw
    obtain rfl := dps_nil hw
    subst eσ
    have hmem := List.mem_of_getElem? hi
    have X2 := (xb.trans y1).trans y2
    replace h2 := X2.dp h2; replace h3 := X2.dp h3; replace h4 := X2.dp h4; replace h5 := X2.dp h5; replace h6 := X2.dp h6; replace h8 := X2.dp h8; replace h9 := X2.dp h9; replace h10 := X2.dp h10; replace h11 := X2.dp h11
    obtain ⟨sp, sr⟩ := subs_ok n side hmem
    exact law_b1 B f_lw_same f_judge hr (T16.ext X2) h2 h3 h4 h5 h6 h8 h9 h10 h11 h12 net lar nn4 a0 a1 b0 b1 ab hk0 hk8 (places_of sp sr) (subs_each n side hmem) _ fun σ2 H2 x2 z => ⟨(y1.trans y2).trans x2, z⟩
  intro Hb σ' H' xb ⟨y1, u12, u13, u14, u15, u16, u17, eσ⟩
  subst eσ
  have X3 := xb.trans y1
  have T17 := T16.ext X3
  have pl17 := pl16.ext X3
  clear h2 h3 h4 h5 h6 h8 h9 h10 h11 T16 pl16
  refine wb_asgW (w_callS (hg := gl__law_orders) f_lw_orders hr (by decide) (pa_cons w_pe pa_nil) ((wr_var (p := p) (hv := vi_pool) 1 rfl).go fun w0 H8 x8 ew => ?_))
  subst ew
  refine ⟨p, s0, ns, _, rfl, pl17.ext x8, by decide, T17.ext x8, fun vo H9 m0 ties orders e9 pl9 m2 m4 tn tl4 on ol dv => ?_⟩
  have T9 : Tabs cs H9 := fun q hq => e9.tab _ ((T17.ext x8) q hq)
  obtain ⟨m, rfl⟩ := Int.eq_ofNat_of_zero_le (show 0 ≤ m0 by omega)
  have mm4 : m ≤ 4 := by omega
  refine (gj_tup (is := [3, 18, 19]) (bs := [.int (m : Int), .tuple (ties.map encA), .tuple (orders.map encA)]) rfl (gj_cons (gj_nm (hx := lo_n) 3 nd) (gj_cons (gj_nm (hx := lo_ties) 18 nd) (gj_cons (gj_nm (hx := lo_orders) 19 nd) gj_nil)))).go _ H9 vo dv _ fun us hu => ?_
  obtain ⟨w3, us, rfl, g3, hu⟩ := dps_cons hu
  obtain ⟨w18, us, rfl, g18, hu⟩ := dps_cons hu
  obtain ⟨w19, us, rfl, g19, hu⟩ := dps_cons hu
  obtain rfl := dps_nil hu
  refine wb_for (M := Ext) (enc := tI) [12] (fun r => [tI r]) (fun Hb i σ' H' => Ext Hb H' ∧ ∃ q12 u20 u21 u22, σ' = [some (.ref a), some (.ref p), some v2, some w3, some v4, some w5, some w6, some (.int k), some v8, some v9, some v10, some v11, q12, u13, u14, u15, u16, u17, some w18, some w19, u20, u21, u22, none, none, none, none, none, none]) (src_L (wd_call (hg := gl__law_subsets) f_lw_subsets hr (by decide) T9 (wa_cons (wd_var (hv := vi_n) 3 rfl g3) wa_nil) ⟨m, by show m ≤ 10; omega, rfl, rfl⟩)) PassesOwn.never rfl (fun x _ => gj_nm (hx := lo_side) 12 nd) ?_ ?_ ?_ ?_
  · intro Hb xb
    exact ⟨Ext.refl _, _, none, none, none, rfl⟩
  · intro Hb i σ' H' ⟨y, _⟩
    exact y
  · intro Hb i side σ' H' H'' ws xb hi ⟨y1, q12, u20, u21, u22, eσ⟩ y2 hw
    obtain ⟨v12, ws, rfl, h12, hw⟩ := dps_cons hw
    obtain rfl := dps_nil hw
    subst eσ
    have X2 := (xb.trans y1).trans y2
    exact law_b2 B f_judge hr (T9.ext X2) (X2.dp g3) (X2.dp g18) (X2.dp g19) h12 mm4 tn tl4 on ol _ fun σ2 H2 x2 z => ⟨(y1.trans y2).trans x2, z⟩
  · intro Hb σ' H' xb ⟨y1, q12, u20, u21, u22, eσ⟩
    subst eσ
    refine wb_ret wd_bl fun v H'' y dv => ?_
    rw [dp_bl dv]
    exact hQ H''
end Hd


set_option Elab.async false
set_option linter.all false
set_option maxRecDepth 100000
set_option maxHeartbeats 0
namespace Hd
open PySem PySem.Spec PyProof.Rows L2

section
variable {K : PySem.W.Frag} {h : Heap} {mg : Str → Option Value} {base : Heap}
theorem stands_of (c : FW.SaysZ fa fn tf ex h K) {d : He.DefD} (hd : d ∈ fn) (h0 : d.dfl = []) (h1 : d.kwd = []) : ∃ fd, FunD K d.name d.qual d.params d.body d.scope [] [] (He.fAd K d.at_) fd ∧ fd.code = .ref (He.codeOf K d.at_) := by
  obtain ⟨fd, F⟩ := c.d.defs hd
  have e1 : d.dvs K = [] := by unfold He.DefD.dvs; rw [h0]; rfl
  have e2 : d.kws K = [] := by unfold He.DefD.kws; rw [h1]; rfl
  rw [e1, e2] at F
  refine ⟨fd, F, ?_⟩
  obtain ⟨oc, od, dV, kV, doc, pm, an, cdv, ct, osl, ef, lk, hcd, _, _⟩ := F.ex
  obtain ⟨cc, ec⟩ := He.codeIn_ref hcd
  have e3 : fd.code = .ref cc := by rw [ef]; exact ec
  rw [He.codeOf_eq lk e3]
  exact e3
theorem d1 (X : K.In h) (G : h.Ns mainGlobals mg) (c : FW.SaysZ fa fn tf ex h K) (hT : ∀ p ∈ tf.map (He.cT K), LamX.TabB base mg p.1 p.2) {x : Str} {st : Stmt} {gen : Bool} (i j k : Nat) (hi : fn[i]? = some ⟨(x, none), x, x, defArgs st, defBody st, defScope st, [], []⟩) (hj : fa[j]? = some (.glo x)) (ht : gen = true → tf[k]? = some (x, none)) : FW.Def1 K mg base (tf.map (He.cT K)) x st gen := by
  obtain ⟨fd, F, e⟩ := stands_of c (List.mem_of_getElem? hi) rfl rfl
  have m : gen = true → He.cT K (x, none) ∈ tf.map (He.cT K) := fun g => List.mem_map.mpr ⟨_, List.mem_of_getElem? (ht g), rfl⟩
  exact ⟨He.ga K x, fd, _, ⟨F, e⟩, He.glo_ok X G (c.d.facts (List.mem_of_getElem? hj)), fun g => ⟨_, m g, hT _ (m g)⟩⟩
theorem d2 (X : K.In h) (G : h.Ns mainGlobals mg) (c : FW.SaysZ fa fn tf ex h K) (hT : ∀ p ∈ tf.map (He.cT K), LamX.TabB base mg p.1 p.2) {C m qn : Str} {st : Stmt} {gen : Bool} (i j j2 k : Nat) (hi : fn[i]? = some ⟨(C, some m), m, qn, defArgs st, defBody st, defScope st, [], []⟩) (hj : fa[j]? = some (.cls C)) (hj2 : fa[j2]? = some (.meth C m)) (ht : gen = true → tf[k]? = some (C, some m)) : FW.Def2 K mg base (tf.map (He.cT K)) (He.ga K C) m qn st gen := by
  obtain ⟨fd, F, e⟩ := stands_of c (List.mem_of_getElem? hi) rfl rfl
  have mm : gen = true → He.cT K (C, some m) ∈ tf.map (He.cT K) := fun g => List.mem_map.mpr ⟨_, List.mem_of_getElem? (ht g), rfl⟩
  exact ⟨He.ma K (He.ga K C) m, fd, _, ⟨F, e⟩, He.cls_ok (c.d.facts (List.mem_of_getElem? hj)), He.meth_ok (c.d.facts (List.mem_of_getElem? hj2)), fun g => ⟨_, mm g, hT _ (mm g)⟩⟩
theorem lawAt {P : Program} {w : World} {fa0 : Addr} (X : K.In h) (G : h.Ns mainGlobals mg) (c : FW.SaysZ fa fn tf ex h K) (hfa : mg ("law" : Str) = some (.ref fa0)) : ∃ fd : FuncData, (∀ (s : Shared) (u : Value), BindsTo s fd ⟨[u], []⟩ [("script", u)]) ∧
    ∀ base : Heap, K.In base → base.Ns mainGlobals mg → (∀ p ∈ tf.map (He.cT K), LamX.TabB base mg p.1 p.2) → FnOk P w K mg base CX0 10 fa0 fd ["script"] (spLaw K (tf.map (He.cT K))) := by
  have hm : mg ("law" : Str) = some (.ref (He.ga K "law")) := He.glo_ok X G (c.d.facts (List.mem_of_getElem? (i := 32) rfl))
  have ef : fa0 = He.ga K "law" := by rw [hfa] at hm; cases hm; rfl
  subst ef
  obtain ⟨fd, F, e⟩ := stands_of c (d := d_law) (List.mem_of_getElem? (i := 32) rfl) rfl rfl
  have b := FunD.bindsA (ps := ["script"]) F fun _ _ _ _ _ _ us hl => match us, hl with | [_], _ => rfl
  refine ⟨fd, fun s v => b s [v] rfl, fun base hB hN hT => ?_⟩
  have B : FW.Bi mg := ⟨He.free_ok X G (c.d.facts (List.mem_of_getElem? (i := 59) rfl)), He.free_ok X G (c.d.facts (List.mem_of_getElem? (i := 60) rfl)), He.free_ok X G (c.d.facts (List.mem_of_getElem? (i := 61) rfl)), He.free_ok X G (c.d.facts (List.mem_of_getElem? (i := 62) rfl)), He.free_ok X G (c.d.facts (List.mem_of_getElem? (i := 63) rfl)), He.free_ok X G (c.d.facts (List.mem_of_getElem? (i := 64) rfl)), He.free_ok X G (c.d.facts (List.mem_of_getElem? (i := 65) rfl)), He.free_ok X G (c.d.facts (List.mem_of_getElem? (i := 66) rfl)), He.free_ok X G (c.d.facts (List.mem_of_getElem? (i := 67) rfl)), He.free_ok X G (c.d.facts (List.mem_of_getElem? (i := 68) rfl)), He.free_ok X G (c.d.facts (List.mem_of_getElem? (i := 69) rfl)), He.free_ok X G (c.d.facts (List.mem_of_getElem? (i := 70) rfl)), He.free_ok X G (c.d.facts (List.mem_of_getElem? (i := 71) rfl)), He.free_ok X G (c.d.facts (List.mem_of_getElem? (i := 72) rfl)), He.free_ok X G (c.d.facts (List.mem_of_getElem? (i := 73) rfl)), He.free_ok X G (c.d.facts (List.mem_of_getElem? (i := 74) rfl)), He.free_ok X G (c.d.facts (List.mem_of_getElem? (i := 75) rfl))⟩
  obtain ⟨exc, exg⟩ := Bool.and_eq_true_iff.mp c.more
  have hgcd : mg "gcd" = some (.builtin "math.gcd") := PySem.W.mg_of X G (He.eqO_ok exg)
  have mk : ∀ C ∈ c0, FW.Mk0 K (He.ga K C) := fun C hC => by
    have z := List.all_eq_true.mp exc C hC
    obtain ⟨z1, z2⟩ := Bool.and_eq_true_iff.mp z
    obtain ⟨z2, z3⟩ := Bool.and_eq_true_iff.mp z2
    exact ⟨z1, He.eqO_ok z2, z3⟩
  have hk : ∀ q ∈ kcls, mg q.2 = some (.ref (He.ga K q.2)) ∧ FW.Mk0 K (He.ga K q.2) := by
    intro q hq
    refine ⟨?_, mk q.2 (by revert q; decide +kernel)⟩
    have key : ∀ q ∈ kcls, (.glo q.2 : He.Fa) ∈ fa := by
      intro q hq
      simp only [kcls, List.mem_cons, List.not_mem_nil, or_false] at hq
      rcases hq with rfl | rfl | rfl | rfl | rfl | rfl | rfl | rfl | rfl | rfl | rfl | rfl | rfl | rfl | rfl | rfl
      · exact List.mem_of_getElem? (i := 33) rfl
      · exact List.mem_of_getElem? (i := 34) rfl
      · exact List.mem_of_getElem? (i := 38) rfl
      · exact List.mem_of_getElem? (i := 39) rfl
      · exact List.mem_of_getElem? (i := 40) rfl
      · exact List.mem_of_getElem? (i := 41) rfl
      · exact List.mem_of_getElem? (i := 42) rfl
      · exact List.mem_of_getElem? (i := 43) rfl
      · exact List.mem_of_getElem? (i := 44) rfl
      · exact List.mem_of_getElem? (i := 45) rfl
      · exact List.mem_of_getElem? (i := 46) rfl
      · exact List.mem_of_getElem? (i := 47) rfl
      · exact List.mem_of_getElem? (i := 48) rfl
      · exact List.mem_of_getElem? (i := 37) rfl
      · exact List.mem_of_getElem? (i := 35) rfl
      · exact List.mem_of_getElem? (i := 36) rfl
    exact He.glo_ok X G (c.d.facts (key q hq))
  have g_kind_of := f_kind_of (P := P) (w := w) (base := base) (d1 X G c hT 22 22 0 rfl rfl (fun z => nomatch z)) hk
  have g_is_integer := f_is_integer (P := P) (w := w) (d1 X G c hT 0 0 0 rfl rfl (fun z => nomatch z)) B
  have g_is_within := f_is_within (P := P) (w := w) (d1 X G c hT 1 1 0 rfl rfl (fun z => nomatch z)) B g_is_integer
  have g_is_row := f_is_row (P := P) (w := w) (d1 X G c hT 2 2 0 rfl rfl (fun _ => rfl)) B g_is_integer
  have g_is_row_within := f_is_row_within (P := P) (w := w) (d1 X G c hT 3 3 1 rfl rfl (fun _ => rfl)) B g_is_row
  have g_is_worded := f_is_worded (P := P) (w := w) (d1 X G c hT 4 4 0 rfl rfl (fun z => nomatch z)) B
  have g_is_ascending := f_is_ascending (P := P) (w := w) (d1 X G c hT 6 6 3 rfl rfl (fun _ => rfl)) B
  have g_is_places := f_is_places (P := P) (w := w) (d1 X G c hT 5 5 2 rfl rfl (fun _ => rfl)) B g_is_within g_is_ascending
  have g_crossing := f_crossing (P := P) (w := w) (d1 X G c hT 7 7 0 rfl rfl (fun z => nomatch z)) B
  have g_is_cut := f_is_cut (P := P) (w := w) (d1 X G c hT 9 9 0 rfl rfl (fun z => nomatch z)) B g_is_places g_crossing
  have g_is_quotient := f_is_quotient (P := P) (w := w) (d1 X G c hT 10 10 0 rfl rfl (fun z => nomatch z)) B hgcd g_is_row
  have g_quotient := f_quotient (P := P) (w := w) (d1 X G c hT 11 11 0 rfl rfl (fun z => nomatch z)) B hgcd
  have g_plus := f_plus (P := P) (w := w) (d1 X G c hT 12 12 0 rfl rfl (fun z => nomatch z)) B g_quotient
  have g_minus := f_minus (P := P) (w := w) (d1 X G c hT 13 13 0 rfl rfl (fun z => nomatch z)) B g_quotient
  have g_times := f_times (P := P) (w := w) (d1 X G c hT 14 14 0 rfl rfl (fun z => nomatch z)) B g_quotient
  have g_is_less := f_is_less (P := P) (w := w) (d1 X G c hT 15 15 0 rfl rfl (fun z => nomatch z)) B
  have g_total := f_total (P := P) (w := w) (d1 X G c hT 16 16 0 rfl rfl (fun z => nomatch z)) B g_plus
  have g_is_quotient_row := f_is_quotient_row (P := P) (w := w) (d1 X G c hT 17 17 4 rfl rfl (fun _ => rfl)) B g_is_quotient
  have g_is_crowd := f_is_crowd (P := P) (w := w) (d1 X G c hT 18 18 0 rfl rfl (fun z => nomatch z)) B
  have g_least_product := f_least_product (P := P) (w := w) (d1 X G c hT 19 19 0 rfl rfl (fun z => nomatch z)) B g_times g_is_less
  have g_dot := f_dot (P := P) (w := w) (d1 X G c hT 20 20 0 rfl rfl (fun z => nomatch z)) B g_times g_total
  have g_far_from := f_far_from (P := P) (w := w) (d1 X G c hT 21 21 0 rfl rfl (fun z => nomatch z)) B g_plus g_is_less
  have g_lw_same := f_lw_same (P := P) (w := w) (d1 X G c hT 24 24 0 rfl rfl (fun z => nomatch z)) B
  have g_lw_pool := f_lw_pool (P := P) (w := w) (d1 X G c hT 25 25 0 rfl rfl (fun z => nomatch z)) B
  have g_lw_spread := f_lw_spread (P := P) (w := w) (d1 X G c hT 26 26 0 rfl rfl (fun z => nomatch z)) B
  have g_lw_draw := f_lw_draw (P := P) (w := w) (d1 X G c hT 27 27 0 rfl rfl (fun z => nomatch z)) B g_lw_spread
  have g_lw_subsets := f_lw_subsets (P := P) (w := w) (d1 X G c hT 28 28 0 rfl rfl (fun z => nomatch z)) B
  have g_lw_net := f_lw_net (P := P) (w := w) (d1 X G c hT 29 29 0 rfl rfl (fun z => nomatch z)) B g_lw_draw
  have g_lw_ends := f_lw_ends (P := P) (w := w) (d1 X G c hT 30 30 0 rfl rfl (fun z => nomatch z)) B g_lw_draw
  have g_lw_orders := f_lw_orders (P := P) (w := w) (d1 X G c hT 31 31 0 rfl rfl (fun z => nomatch z)) B g_lw_draw g_lw_ends
  have g_Flow__judge := f_Flow__judge (P := P) (w := w) (d2 X G c hT 33 49 54 0 rfl rfl rfl (fun z => nomatch z)) B g_is_worded g_is_cut
  have g_Need__judge := f_Need__judge (P := P) (w := w) (d2 X G c hT 34 51 55 0 rfl rfl rfl (fun z => nomatch z)) B g_is_worded g_is_places g_is_crowd
  have g_Task__judge := f_Task__judge (P := P) (w := w) (d2 X G c hT 35 53 56 5 rfl rfl rfl (fun _ => rfl)) B g_is_worded g_is_places g_is_crowd
  have g_Linear__judge := f_Linear__judge (P := P) (w := w) (d2 X G c hT 36 50 57 0 rfl rfl rfl (fun z => nomatch z)) B g_is_worded g_is_quotient_row g_is_quotient g_dot g_minus g_times g_plus g_least_product g_is_less
  have g_Orders__judge := f_Orders__judge (P := P) (w := w) (d2 X G c hT 37 52 58 6 rfl rfl rfl (fun _ => rfl)) B g_is_worded g_is_quotient_row g_times g_total g_far_from g_minus
  have g_judge := f_judge (P := P) (w := w) (d1 X G c hT 23 23 0 rfl rfl (fun z => nomatch z)) g_kind_of g_Flow__judge g_Need__judge g_Task__judge g_Linear__judge g_Orders__judge
  exact f_law ⟨F, e⟩ B g_lw_pool g_lw_net g_lw_ends g_lw_draw g_lw_subsets g_lw_same g_lw_orders g_judge
end
end Hd


set_option Elab.async false
set_option linter.all false
set_option maxRecDepth 100000
set_option maxHeartbeats 0
namespace Hd
open PySem PySem.Spec PyProof.Rows L2
theorem run (w : World) : HandSHeadRun.RunEqI R qv hk ob 20000 lo w := FW.runEqI_of (FW.looks_of (runA1 w) (runA2 w)) (runB w) (runC w)
end Hd
open PySem PySem.W PySem.Calls PyProof.Rows
theorem PySem.Challenge.cw_flowwright_k57_whole_bars_across_holds : PySem.Challenge.rw_flowwright_k57_whole_bars_across.Holds := by
  refine Hd.early fun said => ?_
  refine HandSHeadRun.head_imp (r := OpenLaw.row PySem.Challenge.rw_flowwright_k57_whole_bars_across) (q := Hd.qv) (H := Hd.hk) (ob := Hd.ob) (M := 20000) (loose := Hd.lo) (d := Hd.dl) (kwd := []) Hd.ob_eq Hd.run
    Hd.k_def Hd.k_the Hd.k_kw (by rfl) said Hd.k_ok Hd.k_bare ?hw ?hc
  case hw => w_witness2
  case hc =>
    refine LamX.walk_ofTsE (l := PySem.Challenge.rw_flowwright_k57_whole_bars_across) (n := 63) (k := 10) (x := "script") (CX := fun _ => L2.CX0) rfl (by decide) Hd.k_dfl ⟨rfl, by decide, by decide⟩ ?F (fun _ _ _ _ _ z => z)
    intro w mg fa h Y G hmg0
    obtain ⟨K, KX, c⟩ := Y
    have hmg : mg ("law" : PySem.Str) = some (.ref fa) := by
      rw [← Hd.k_name]
      exact hmg0
    obtain ⟨fd, hb, hF⟩ := Hd.lawAt (P := (PySem.Challenge.rw_flowwright_k57_whole_bars_across).prog) (w := w) KX G c hmg
    have mem : ∀ p ∈ Hd.tf.map (He.cT K), ∃ q ∈ Hd.tf, He.cT K q = p := fun p hp => List.mem_map.mp hp
    refine ⟨K, KX, fd, Hd.tf.map (He.cT K), Hd.spLaw K (Hd.tf.map (He.cT K)), fun p hp => ?_, fun p hp => ?_, fun p hp => ?_, hb, fun H a ns hl _ hT hS => ⟨a, ns, rfl, hS, hl, fun p hp => ⟨#[], hT p hp, trivial⟩, fun _ => rfl⟩, hF⟩
    · obtain ⟨q, hq, rfl⟩ := mem p hp
      exact c.empty q hq
    · obtain ⟨q, hq, rfl⟩ := mem p hp
      exact c.out q hq
    · obtain ⟨q, hq, rfl⟩ := mem p hp
      exact PySem.W.codeHd_of_K KX (c.hd q hq)


