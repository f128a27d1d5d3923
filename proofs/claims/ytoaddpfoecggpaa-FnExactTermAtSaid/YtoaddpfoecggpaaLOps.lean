import Derived.Test.YtoaddpfoecggpaaPNx0
import Derived.Test.YtoaddpfoecggpaaPNx1
import Derived.Test.YtoaddpfoecggpaaPNx2
import Derived.Test.YtoaddpfoecggpaaPNx3
import Derived.Test.YtoaddpfoecggpaaPNx4
import Derived.Test.YtoaddpfoecggpaaPNx6
import Derived.Test.YtoaddpfoecggpaaPNx7
import Derived.Test.YtoaddpfoecggpaaLBase
import Derived.Test.YtoaddpfoecggpaaLBytes
import Derived.Test.YtoaddpfoecggpaaLKeyok
import Derived.Test.YtoaddpfoecggpaaLSizes
import Derived.Test.YtoaddpfoecggpaaLWithin
namespace Go.Proofs.Ytoaddpfoecggpaa.Pure
open Go.RowKit Go.Proofs.Ytoaddpfoecggpaa.PN Go.Proofs.YtoaddpfoecggpaaW.PrintWords Go.Proofs.YtoaddpfoecggpaaW.PrintLast Go.Proofs.YtoaddpfoecggpaaW.PrintMore
set_option linter.unusedVariables false
set_option linter.unusedSimpArgs false
theorem isValue_eq (l : List Int) : impl_isValue.f l = some (decide (l.length ≤ 20)) := by
  unfold impl_isValue.f
  rw [decide_eq_decide.mpr (show ((l.length : Int) ≤ 20) ↔ l.length ≤ 20 by omega)]
theorem l2val_eq (l : List Int) : spec_l2val.f l = some (decide (l.length ≤ 20)) := by
  unfold spec_l2val.f
  rw [decide_eq_decide.mpr (show ((l.length : Int) ≤ 20) ↔ l.length ≤ 20 by omega)]
theorem l2index_eq (n : Int) : spec_l2index.f n = some (decide (0 ≤ n ∧ n ≤ 1000000)) := by
  unfold spec_l2index.f
  by_cases c : n ≥ 0
  · rw [if_pos c, decide_eq_decide.mpr (show (n ≤ 1000000) ↔ (0 ≤ n ∧ n ≤ 1000000) by omega)]
  · rw [if_neg c, decide_eq_false (by omega)]
/-- A valid operation. -/
def opOkP (k : Int) (key val : List Int) (n : Int) : Bool :=
  decide ((k = 0 ∧ key.length = 0 ∧ val.length = 0 ∧ n = 0) ∨ (k = 1 ∧ keyP key = true ∧ val.length ≤ 20 ∧ n = 0) ∨ (k = 2 ∧ keyP key = true ∧ val.length ≤ 20 ∧ 0 ≤ n ∧ n ≤ 1000000) ∨
    (k = 3 ∧ keyP key = true ∧ val.length = 0 ∧ n = 0) ∨ (k = 4 ∧ key.length = 0 ∧ val.length = 0 ∧ 0 ≤ n ∧ n ≤ 1) ∨ (k = 5 ∧ key.length = 0 ∧ val.length = 0 ∧ 1 ≤ n ∧ n ≤ 1000000) ∨
    (k = 6 ∧ keyP key = true ∧ val.length ≤ 20 ∧ 1 ≤ n ∧ n ≤ 1000000) ∨ (k = 7 ∧ keyP key = true ∧ val.length = 0 ∧ 1 ≤ n ∧ n ≤ 1000000))
theorem specOpOk_ev (kd : Int) (key val : List Int) (n : Int) (hk : key.length ≤ 140737488351232) : Ev (fun k => spec_OpOk.f k kd key val n) (opOkP kd key val n) := by
  unfold spec_OpOk.f
  repeat' (first
    | exact ev_done (by grind [opOkP])
    | refine Ev.step (g := fun k => spec_OpOk.j0 k _ _ _ _ _) (fun k => by rw [spec_OpOk.j0]) ?_ | refine Ev.step (g := fun k => spec_OpOk.j1 k _ _ _ _ _) (fun k => by rw [spec_OpOk.j1]) ?_ | refine Ev.step (g := fun k => spec_OpOk.j2 k _ _ _ _ _) (fun k => by rw [spec_OpOk.j2]) ?_ | refine Ev.step (g := fun k => spec_OpOk.j3 k _ _ _ _ _) (fun k => by rw [spec_OpOk.j3]) ?_ | refine Ev.step (g := fun k => spec_OpOk.j4 k _ _ _ _ _) (fun k => by rw [spec_OpOk.j4]) ?_ | refine Ev.step (g := fun k => spec_OpOk.j5 k _ _ _ _ _ _) (fun k => by rw [spec_OpOk.j5]) ?_
    | refine ev_bind_eq (l2val_eq _) ?_
    | refine ev_bind_eq (l2index_eq _) ?_
    | refine Ev.bind (specKey_ev _ hk) ?_
    | refine ev_if_pos (by first | rfl | assumption | omega) ?_
    | refine ev_if_neg (by first | decide | assumption | omega) ?_
    | refine ev_ite (fun hc => ?_) (fun hc => ?_))
theorem implOpOk_ev (kd : Int) (key val : List Int) (n : Int) (hk : key.length ≤ 140737488351232) : Ev (fun k => impl_OpOk.f k kd key val n) (opOkP kd key val n) := by
  unfold impl_OpOk.f
  repeat' (first
    | exact ev_done (by grind [opOkP])
    | refine ev_bind_eq (within_eq _ _ _) ?_
    | refine ev_bind_eq (isValue_eq _) ?_
    | refine Ev.bind (implKey_ev _ hk) ?_
    | refine ev_if_pos (by first | rfl | assumption | omega) ?_
    | refine ev_if_neg (by first | decide | assumption | omega) ?_
    | refine ev_ite (fun hc => ?_) (fun hc => ?_))
theorem toOp_ev (kd : Int) (key val : List Int) (n : Int) (hk : key.length ≤ 140737488351232) (hv : val.length ≤ 140737488351232) : Ev (fun k => laws_toOp.f k kd key val n) (kd, key, val, n) := by
  unfold laws_toOp.f
  exact Ev.bind (toByteS_ev _ hk) (Ev.bind (toByteS_ev _ hv) (Ev.now _))
theorem eqOp_self (kd : Int) (key val : List Int) (n : Int) (hk : key.length ≤ 140737488351232) (hv : val.length ≤ 140737488351232) : Ev (fun k => laws_eqOp.f k kd key val n kd key val n) true := by
  unfold laws_eqOp.f
  exact ev_if_pos rfl (Ev.bind (eqByteS_self _ hk) (ev_if_pos rfl (Ev.bind (eqByteS_self _ hv) (ev_if_pos rfl (ev_if_pos rfl (Ev.now _))))))
theorem szOp_eq (kd : Int) (key val : List Int) (n left : Int) (h0 : 0 ≤ left) (h1 : left ≤ 1048576) (hk : key.length ≤ maxLen) (hv : val.length ≤ maxLen) :
    ∃ r, laws_szOp.f kd key val n left = some r ∧ (0 ≤ r → r ≤ left ∧ (key.length : Int) ≤ left ∧ (val.length : Int) ≤ left) := by
  unfold laws_szOp.f
  obtain ⟨r, e, hr⟩ := szByteS_eq key left h0 h1 hk
  rw [e, Option.bind_some]
  by_cases c : r < 0
  · rw [if_pos c]
    exact ⟨-1, rfl, fun h => absurd h (by decide)⟩
  · rw [if_neg c]
    obtain ⟨q, e2, hq⟩ := szByteS_eq val r (by omega) (by omega) hv
    rw [e2, Option.bind_some]
    by_cases c2 : q < 0
    · rw [if_pos c2]
      exact ⟨-1, rfl, fun h => absurd h (by decide)⟩
    · rw [if_neg c2]
      exact ⟨q, rfl, fun _ => ⟨by omega, by omega, by omega⟩⟩

end Go.Proofs.Ytoaddpfoecggpaa.Pure
