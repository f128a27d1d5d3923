/- What is proved: the program's WheelLeft answers as the reference's, for all arguments, and leaves its argument alone. Conditions: none beyond those of the given statement. -/
import Derived.Test.YtmnjdmmljkahgaaPWx0
import Derived.Test.YtmnjdmmljkahgaaPWx3
import Derived.Test.YtmnjdmmljkahgaaPWx6
import Derived.Test.YtmnjdmmljkahgaaLBase
import Derived.Test.YtmnjdmmljkahgaaLTimers
import Derived.Test.YtmnjdmmljkahgaaLWheelimpl
import Derived.Test.YtmnjdmmljkahgaaLWheels
namespace Go.Proofs.Ytmnjdmmljkahgaa.Pure
open Go.RowKit Go.Proofs.Ytmnjdmmljkahgaa.PW Go.Proofs.YtmnjdmmljkahgaaW.PrintWords Go.Proofs.YtmnjdmmljkahgaaW.PrintLast Go.Proofs.YtmnjdmmljkahgaaW.PrintMore
set_option linter.unusedVariables false
set_option linter.unusedSimpArgs false
theorem FnExactWheelLeft : laws_FnExactWheelLeft.Pure := by
  intro x0 a1 h0 _
  refine Ev.rounds ?_
  unfold laws_FnExactWheelLeft.f
  obtain ⟨r, e, hr⟩ := szWheel_eq x0.f0 x0.f1 1048576 (by decide) (by decide) h0.2.1
  refine ev_bind_eq e ?_
  by_cases c : r < 0
  · exact ev_if_pos c (Ev.now _)
  have hn := hr (by omega)
  have hm : (x0.f1.map cvTimer).length ≤ 1048576 := by rw [List.length_map]; exact hn
  obtain ⟨b, e1, e2⟩ := wheels_same x0.f0 (x0.f1.map cvTimer) hm
  have same : ∃ p : Int × Bool, Ev (fun k => spec_WheelLeft.f k x0.f0 (x0.f1.map cvTimer) a1) p ∧ Ev (fun k => impl_WheelLeft.f k x0.f0 (x0.f1.map cvTimer) a1) p := by
    unfold spec_WheelLeft.f impl_WheelLeft.f
    have lf := l7find_ev a1 (x0.f1.map cvTimer) hm
    have te := timer_eq x0.f0 (x0.f1.map cvTimer) a1 hm
    have fs := find_spec a1 (x0.f1.map cvTimer) 0 (by omega)
    generalize impl_Wheel_timer.find a1 (x0.f1.map cvTimer) 0 = q at lf te fs
    by_cases hb : b = true
    · by_cases z : q < 0
      · exact ⟨_, Ev.bind e1 (ev_if_pos hb (Ev.bind lf (ev_if_pos z (Ev.now _)))), Ev.bind e2 (ev_if_pos hb (ev_bind_eq te (ev_if_pos z (Ev.now _))))⟩
      · have hq : q < ((x0.f1.map cvTimer).length : Int) := by
          rcases fs with ⟨e, _⟩ | ⟨j, hj, e, _⟩ <;> omega
        exact ⟨_, Ev.bind e1 (ev_if_pos hb (Ev.bind lf (ev_if_neg z (ev_if_pos (by omega) (ev_if_pos hq (Ev.now _)))))), Ev.bind e2 (ev_if_pos hb (ev_bind_eq te (ev_if_neg z (ev_if_pos (by omega) (ev_if_pos hq (Ev.now _))))))⟩
    · exact ⟨_, Ev.bind e1 (ev_if_neg hb (Ev.now _)), Ev.bind e2 (ev_if_neg hb (Ev.now _))⟩
  obtain ⟨p, p1, p2⟩ := same
  refine ev_if_neg c (Ev.bind (toWheel_ev _ _ hn) (Ev.bind p1 (Ev.bind (toWheel_ev _ _ hn) (Ev.bind p2 (ev_if_pos rfl ?_)))))
  rw [show (p.2 != p.2) = false by simp]
  exact Ev.step (fun k => by rw [laws_FnExactWheelLeft.j0]) (ev_if_neg (by simp) (Ev.bind (toWheel_ev _ _ hn) (Ev.bind (eqWheel_self _ _ hm) (ev_if_pos rfl (Ev.now _)))))

end Go.Proofs.Ytmnjdmmljkahgaa.Pure
