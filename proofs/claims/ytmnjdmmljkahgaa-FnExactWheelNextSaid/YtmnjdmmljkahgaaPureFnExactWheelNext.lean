/- What is proved: the program's WheelNext answers as the reference's, for all arguments, and leaves its argument alone. Conditions: none beyond those of the given statement. -/
import Derived.Test.YtmnjdmmljkahgaaPWx0
import Derived.Test.YtmnjdmmljkahgaaPWx5
import Derived.Test.YtmnjdmmljkahgaaPWx6
import Derived.Test.YtmnjdmmljkahgaaLBase
import Derived.Test.YtmnjdmmljkahgaaLTimers
import Derived.Test.YtmnjdmmljkahgaaLWheelimpl
namespace Go.Proofs.Ytmnjdmmljkahgaa.Pure
open Go.RowKit Go.Proofs.Ytmnjdmmljkahgaa.PW Go.Proofs.YtmnjdmmljkahgaaW.PrintWords Go.Proofs.YtmnjdmmljkahgaaW.PrintLast Go.Proofs.YtmnjdmmljkahgaaW.PrintMore
set_option linter.unusedVariables false
set_option linter.unusedSimpArgs false
theorem FnExactWheelNext : laws_FnExactWheelNext.Pure := by
  intro x0 h0
  refine Ev.rounds ?_
  unfold laws_FnExactWheelNext.f
  obtain ⟨r, e, hr⟩ := szWheel_eq x0.f0 x0.f1 1048576 (by decide) (by decide) h0.2.1
  refine ev_bind_eq e ?_
  by_cases c : r < 0
  · exact ev_if_pos c (Ev.now _)
  have hn := hr (by omega)
  have hm : (x0.f1.map cvTimer).length ≤ 1048576 := by rw [List.length_map]; exact hn
  obtain ⟨b, e1, e2⟩ := wheels_same x0.f0 (x0.f1.map cvTimer) hm
  have same : ∃ p : Int × Bool, Ev (fun k => spec_WheelNext.f k x0.f0 (x0.f1.map cvTimer)) p ∧ Ev (fun k => impl_WheelNext.f k x0.f0 (x0.f1.map cvTimer)) p := by
    unfold spec_WheelNext.f impl_WheelNext.f
    by_cases hb : b = true
    · by_cases z : ((x0.f1.map cvTimer).length : Int) = 0
      · exact ⟨_, Ev.bind e1 (ev_if_pos hb (ev_if_pos z (Ev.now _))), Ev.bind e2 (ev_if_pos hb (ev_if_pos z (Ev.now _)))⟩
      · exact ⟨_, Ev.bind e1 (ev_if_pos hb (ev_if_neg z (ev_if_pos (by omega) (Ev.now _)))), Ev.bind e2 (ev_if_pos hb (ev_if_neg z (ev_if_pos (by omega) (Ev.now _))))⟩
    · exact ⟨_, Ev.bind e1 (ev_if_neg hb (Ev.now _)), Ev.bind e2 (ev_if_neg hb (Ev.now _))⟩
  obtain ⟨p, p1, p2⟩ := same
  refine ev_if_neg c (Ev.bind (toWheel_ev _ _ hn) (Ev.bind p1 (Ev.bind (toWheel_ev _ _ hn) (Ev.bind p2 (ev_if_pos rfl ?_)))))
  rw [show (p.2 != p.2) = false by simp]
  exact Ev.step (fun k => by rw [laws_FnExactWheelNext.j0]) (ev_if_neg (by simp) (Ev.bind (toWheel_ev _ _ hn) (Ev.bind (eqWheel_self _ _ hm) (ev_if_pos rfl (Ev.now _)))))

end Go.Proofs.Ytmnjdmmljkahgaa.Pure
