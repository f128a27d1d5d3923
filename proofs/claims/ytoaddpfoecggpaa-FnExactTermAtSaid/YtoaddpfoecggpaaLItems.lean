import Derived.Test.YtoaddpfoecggpaaPNx0
import Derived.Test.YtoaddpfoecggpaaPNx1
import Derived.Test.YtoaddpfoecggpaaPNx2
import Derived.Test.YtoaddpfoecggpaaPNx4
import Derived.Test.YtoaddpfoecggpaaPNx6
import Derived.Test.YtoaddpfoecggpaaPNx8
import Derived.Test.YtoaddpfoecggpaaLBase
import Derived.Test.YtoaddpfoecggpaaLCmds
import Derived.Test.YtoaddpfoecggpaaLWithin
namespace Go.Proofs.Ytoaddpfoecggpaa.Pure
open Go.RowKit Go.Proofs.Ytoaddpfoecggpaa.PN Go.Proofs.YtoaddpfoecggpaaW.PrintWords Go.Proofs.YtoaddpfoecggpaaW.PrintLast Go.Proofs.YtoaddpfoecggpaaW.PrintMore
set_option linter.unusedVariables false
set_option linter.unusedSimpArgs false
/-- A valid item. -/
def itemOkP (t c r kd : Int) (key val : List Int) (n : Int) : Bool := decide (1 ≤ t ∧ t ≤ 100000) && cmdOkP c r kd key val n
theorem specItemOk_ev (t c r kd : Int) (key val : List Int) (n : Int) (hk : key.length ≤ 140737488351232) : Ev (fun k => spec_ItemOk.f k t c r kd key val n) (itemOkP t c r kd key val n) := by
  unfold spec_ItemOk.f
  repeat' (first
    | exact ev_done (by grind [itemOkP])
    | refine Ev.bind (specCmdOk_ev _ _ _ _ _ _ hk) ?_
    | refine ev_ite (fun hc => ?_) (fun hc => ?_))
theorem isTerm_eq (t : Int) : impl_isTerm.f t = some (decide (1 ≤ t ∧ t ≤ 100000)) := by
  unfold impl_isTerm.f
  rw [within_eq]
  rfl
theorem implItemOk_ev (t c r kd : Int) (key val : List Int) (n : Int) (hk : key.length ≤ 140737488351232) : Ev (fun k => impl_ItemOk.f k t c r kd key val n) (itemOkP t c r kd key val n) := by
  unfold impl_ItemOk.f
  refine ev_bind_eq (isTerm_eq t) ?_
  repeat' (first
    | exact ev_done (by grind [itemOkP])
    | refine Ev.bind (implCmdOk_ev _ _ _ _ _ _ hk) ?_
    | refine ev_ite (fun hc => ?_) (fun hc => ?_))
theorem toItem_ev (t c r kd : Int) (key val : List Int) (n : Int) (hk : key.length ≤ 140737488351232) (hv : val.length ≤ 140737488351232) : Ev (fun k => laws_toItem.f k t c r kd key val n) (t, c, r, kd, key, val, n) := by
  unfold laws_toItem.f
  exact Ev.bind (toCmd_ev _ _ _ _ _ _ hk hv) (Ev.now _)
theorem eqItem_self (t c r kd : Int) (key val : List Int) (n : Int) (hk : key.length ≤ 140737488351232) (hv : val.length ≤ 140737488351232) : Ev (fun k => laws_eqItem.f k t c r kd key val n t c r kd key val n) true := by
  unfold laws_eqItem.f
  exact ev_if_pos rfl (Ev.bind (eqCmd_self _ _ _ _ _ _ hk hv) (ev_if_pos rfl (Ev.now _)))
theorem szItem_eq (t c r kd : Int) (key val : List Int) (n left : Int) (h0 : 0 ≤ left) (h1 : left ≤ 1048576) (hk : key.length ≤ maxLen) (hv : val.length ≤ maxLen) :
    ∃ q, laws_szItem.f t c r kd key val n left = some q ∧ (0 ≤ q → q ≤ left ∧ (key.length : Int) ≤ left ∧ (val.length : Int) ≤ left) := by
  unfold laws_szItem.f
  obtain ⟨q, e, hq⟩ := szCmd_eq c r kd key val n left h0 h1 hk hv
  rw [e, Option.bind_some]
  by_cases c2 : q < 0
  · rw [if_pos c2]
    exact ⟨-1, rfl, fun h => absurd h (by decide)⟩
  · rw [if_neg c2]
    exact ⟨q, rfl, hq⟩

end Go.Proofs.Ytoaddpfoecggpaa.Pure
