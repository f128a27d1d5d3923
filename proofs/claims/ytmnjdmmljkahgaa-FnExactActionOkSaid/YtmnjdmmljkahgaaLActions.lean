import Derived.Test.YtmnjdmmljkahgaaPAcx0
import Derived.Test.YtmnjdmmljkahgaaPAcx1
import Derived.Test.YtmnjdmmljkahgaaPAcx3
import Derived.Test.YtmnjdmmljkahgaaPAcx4
import Derived.Test.YtmnjdmmljkahgaaPAcx6
import Derived.Test.YtmnjdmmljkahgaaPAcx7
import Derived.Test.YtmnjdmmljkahgaaLBase
import Derived.Test.YtmnjdmmljkahgaaLBytesequal
import Derived.Test.YtmnjdmmljkahgaaLKeyok
import Derived.Test.YtmnjdmmljkahgaaLOps
import Derived.Test.YtmnjdmmljkahgaaLSizes
import Derived.Test.YtmnjdmmljkahgaaLStrs
import Derived.Test.YtmnjdmmljkahgaaLWithin
namespace Go.Proofs.Ytmnjdmmljkahgaa.Pure
open Go.RowKit Go.Proofs.Ytmnjdmmljkahgaa.PAc Go.Proofs.YtmnjdmmljkahgaaW.PrintWords Go.Proofs.YtmnjdmmljkahgaaW.PrintLast Go.Proofs.YtmnjdmmljkahgaaW.PrintMore
set_option linter.unusedVariables false
set_option linter.unusedSimpArgs false
theorem szAction_eq (kd nd i k2 : Int) (key val : List Int) (n : Int) (k3 : List Int) (left : Int) (h0 : 0 ≤ left) (h1 : left ≤ 1048576) (hk : key.length ≤ maxLen) (hv : val.length ≤ maxLen) (hl : k3.length ≤ maxLen) :
    ∃ q, laws_szAction.f kd nd i k2 key val n k3 left = some q ∧ (0 ≤ q → q ≤ left ∧ (key.length : Int) ≤ left ∧ (val.length : Int) ≤ left ∧ (k3.length : Int) ≤ left) := by
  unfold laws_szAction.f
  obtain ⟨q, e, hq⟩ := szOp_eq k2 key val n left h0 h1 hk hv
  rw [e, Option.bind_some]
  by_cases c2 : q < 0
  · rw [if_pos c2]
    exact ⟨-1, rfl, fun h => absurd h (by decide)⟩
  · rw [if_neg c2]
    obtain ⟨p, e2, hp⟩ := szByteS_eq k3 q (by omega) (by omega) hl
    rw [e2, Option.bind_some]
    by_cases c3 : p < 0
    · rw [if_pos c3]
      exact ⟨-1, rfl, fun h => absurd h (by decide)⟩
    · rw [if_neg c3]
      exact ⟨p, rfl, fun _ => ⟨by omega, by omega, by omega, by omega⟩⟩
/-- A valid action. -/
def actionOkP (kd nd i k2 : Int) (key val : List Int) (n : Int) (k3 : List Int) : Bool :=
  decide (0 ≤ kd ∧ kd ≤ 9 ∧ 0 ≤ nd ∧ nd ≤ 4 ∧ 0 ≤ i ∧ i ≤ 2147483647) && (if kd = 0 then opOkP k2 key val n else decide (k2 = 0 ∧ key.length = 0 ∧ val.length = 0 ∧ n = 0)) && (if 8 ≤ kd then keyP k3 else decide (k3.length = 0))
theorem specSame_eq (k2 : Int) (key val : List Int) (n : Int) : spec_l5sameOp.f k2 key val n 0 [] [] 0 = some (decide (k2 = 0 ∧ key.length = 0 ∧ val.length = 0 ∧ n = 0)) := by
  unfold spec_l5sameOp.f
  have hs : ∀ a : List Int, ((strOfNums a).toList = (strOfNums []).toList) ↔ a.length = 0 := fun a => by
    have := str_eq_nil a
    grind
  simp only [hs]
  repeat' split
  all_goals grind
theorem opSame_eq (k2 : Int) (key val : List Int) (n : Int) : impl_Op_same.f k2 key val n 0 [] [] 0 = some (decide (k2 = 0 ∧ key.length = 0 ∧ val.length = 0 ∧ n = 0)) := by
  unfold impl_Op_same.f
  simp only [bytesEqual_eq, str_eq_nil, Option.bind_some]
  repeat' split
  all_goals grind
theorem specActionOk_ev (kd nd i k2 : Int) (key val : List Int) (n : Int) (k3 : List Int) (hk : key.length ≤ 140737488351232) (hl : k3.length ≤ 140737488351232) : Ev (fun k => spec_ActionOk.f k kd nd i k2 key val n k3) (actionOkP kd nd i k2 key val n k3) := by
  unfold spec_ActionOk.f
  repeat' (first
    | exact ev_done (by grind [actionOkP])
    | refine Ev.step (g := fun k => spec_ActionOk.j0 k _ _ _ _ _ _ _ _ _) (fun k => by rw [spec_ActionOk.j0]) ?_ | refine Ev.step (g := fun k => spec_ActionOk.j1 k _ _ _ _ _ _ _ _ _) (fun k => by rw [spec_ActionOk.j1]) ?_
    | refine Ev.bind (specKey_ev _ hl) ?_
    | refine Ev.bind (specOpOk_ev _ _ _ _ hk) ?_
    | refine ev_bind_eq (specSame_eq _ _ _ _) ?_
    | refine ev_if_pos (by first | rfl | assumption | omega) ?_
    | refine ev_if_neg (by first | decide | assumption | omega) ?_
    | refine ev_ite (fun hc => ?_) (fun hc => ?_))
theorem implActionOk_ev (kd nd i k2 : Int) (key val : List Int) (n : Int) (k3 : List Int) (hk : key.length ≤ 140737488351232) (hl : k3.length ≤ 140737488351232) : Ev (fun k => impl_ActionOk.f k kd nd i k2 key val n k3) (actionOkP kd nd i k2 key val n k3) := by
  unfold impl_ActionOk.f
  repeat' (first
    | exact ev_done (by grind [actionOkP])
    | refine Ev.step (g := fun k => impl_ActionOk.j0 k _ _ _ _ _ _ _ _ _) (fun k => by rw [impl_ActionOk.j0]) ?_
    | refine Ev.bind (implKey_ev _ hl) ?_
    | refine Ev.bind (implOpOk_ev _ _ _ _ hk) ?_
    | refine ev_bind_eq (within_eq _ _ _) ?_
    | refine ev_bind_eq (opSame_eq _ _ _ _) ?_
    | refine ev_if_pos (by first | rfl | assumption | omega) ?_
    | refine ev_if_neg (by first | decide | assumption | omega) ?_
    | refine ev_ite (fun hc => ?_) (fun hc => ?_))

end Go.Proofs.Ytmnjdmmljkahgaa.Pure
