import Derived.Test.YtoaddpfoecggpaaPNx0
import Derived.Test.YtoaddpfoecggpaaPNx1
import Derived.Test.YtoaddpfoecggpaaPNx2
import Derived.Test.YtoaddpfoecggpaaPNx4
import Derived.Test.YtoaddpfoecggpaaPNx6
import Derived.Test.YtoaddpfoecggpaaPNx7
import Derived.Test.YtoaddpfoecggpaaPNx8
import Derived.Test.YtoaddpfoecggpaaLBase
import Derived.Test.YtoaddpfoecggpaaLBytesequal
import Derived.Test.YtoaddpfoecggpaaLOps
import Derived.Test.YtoaddpfoecggpaaLStrs
import Derived.Test.YtoaddpfoecggpaaLWithin
namespace Go.Proofs.Ytoaddpfoecggpaa.Pure
open Go.RowKit Go.Proofs.Ytoaddpfoecggpaa.PN Go.Proofs.YtoaddpfoecggpaaW.PrintWords Go.Proofs.YtoaddpfoecggpaaW.PrintLast Go.Proofs.YtoaddpfoecggpaaW.PrintMore
set_option linter.unusedVariables false
set_option linter.unusedSimpArgs false
/-- A valid command. -/
def cmdOkP (c r kd : Int) (key val : List Int) (n : Int) : Bool :=
  (decide (c = -1 ∧ r = 0 ∧ kd = 0) && opOkP kd key val n) || (decide (0 ≤ c ∧ c ≤ 3 ∧ 1 ≤ r ∧ r ≤ 1000000) && opOkP kd key val n)
theorem specCmdOk_ev (c r kd : Int) (key val : List Int) (n : Int) (hk : key.length ≤ 140737488351232) : Ev (fun k => spec_CmdOk.f k c r kd key val n) (cmdOkP c r kd key val n) := by
  unfold spec_CmdOk.f
  repeat' (first
    | exact ev_done (by grind [cmdOkP])
    | refine Ev.bind (specOpOk_ev _ _ _ _ hk) ?_
    | refine ev_if_pos (by first | rfl | assumption | omega) ?_
    | refine ev_if_neg (by first | decide | assumption | omega) ?_
    | refine ev_ite (fun hc => ?_) (fun hc => ?_))
theorem cmdSame_eq (c r kd : Int) (key val : List Int) (n : Int) : impl_Cmd_same.f c r kd key val n (-1) 0 0 [] [] 0 = some (decide (c = -1 ∧ r = 0 ∧ kd = 0 ∧ key.length = 0 ∧ val.length = 0 ∧ n = 0)) := by
  unfold impl_Cmd_same.f impl_Op_same.f
  simp only [bytesEqual_eq, str_eq_nil, Option.bind_some]
  repeat' split
  all_goals grind
theorem implCmdOk_ev (c r kd : Int) (key val : List Int) (n : Int) (hk : key.length ≤ 140737488351232) : Ev (fun k => impl_CmdOk.f k c r kd key val n) (cmdOkP c r kd key val n) := by
  unfold impl_CmdOk.f impl_noOp.f
  refine ev_bind_eq rfl ?_
  refine ev_bind_eq (cmdSame_eq _ _ _ _ _ _) ?_
  repeat' (first
    | exact ev_done (by grind [cmdOkP, opOkP])
    | refine ev_bind_eq (within_eq _ _ _) ?_
    | refine Ev.bind (implOpOk_ev _ _ _ _ hk) ?_
    | refine ev_if_pos (by first | rfl | assumption | omega) ?_
    | refine ev_if_neg (by first | decide | assumption | omega) ?_
    | refine ev_ite (fun hc => ?_) (fun hc => ?_))
theorem toCmd_ev (c r kd : Int) (key val : List Int) (n : Int) (hk : key.length ≤ 140737488351232) (hv : val.length ≤ 140737488351232) : Ev (fun k => laws_toCmd.f k c r kd key val n) (c, r, kd, key, val, n) := by
  unfold laws_toCmd.f
  exact Ev.bind (toOp_ev _ _ _ _ hk hv) (Ev.now _)
theorem eqCmd_self (c r kd : Int) (key val : List Int) (n : Int) (hk : key.length ≤ 140737488351232) (hv : val.length ≤ 140737488351232) : Ev (fun k => laws_eqCmd.f k c r kd key val n c r kd key val n) true := by
  unfold laws_eqCmd.f
  exact ev_if_pos rfl (ev_if_pos rfl (Ev.bind (eqOp_self _ _ _ _ hk hv) (ev_if_pos rfl (Ev.now _))))
theorem szCmd_eq (c r kd : Int) (key val : List Int) (n left : Int) (h0 : 0 ≤ left) (h1 : left ≤ 1048576) (hk : key.length ≤ maxLen) (hv : val.length ≤ maxLen) :
    ∃ q, laws_szCmd.f c r kd key val n left = some q ∧ (0 ≤ q → q ≤ left ∧ (key.length : Int) ≤ left ∧ (val.length : Int) ≤ left) := by
  unfold laws_szCmd.f
  obtain ⟨q, e, hq⟩ := szOp_eq kd key val n left h0 h1 hk hv
  rw [e, Option.bind_some]
  by_cases c2 : q < 0
  · rw [if_pos c2]
    exact ⟨-1, rfl, fun h => absurd h (by decide)⟩
  · rw [if_neg c2]
    exact ⟨q, rfl, hq⟩

end Go.Proofs.Ytoaddpfoecggpaa.Pure
