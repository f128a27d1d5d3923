/- What is proved: the program's WheelOk answers as the reference's, for all arguments, and leaves its argument alone. Conditions: none beyond those of the given statement. -/
import Derived.Test.YtmnjdmmljkahgaaPWx0
import Derived.Test.YtmnjdmmljkahgaaPWx5
import Derived.Test.YtmnjdmmljkahgaaLBase
import Derived.Test.YtmnjdmmljkahgaaLTimers
import Derived.Test.YtmnjdmmljkahgaaLWheelimpl
namespace Go.Proofs.Ytmnjdmmljkahgaa.Pure
open Go.RowKit Go.Proofs.Ytmnjdmmljkahgaa.PW Go.Proofs.YtmnjdmmljkahgaaW.PrintWords Go.Proofs.YtmnjdmmljkahgaaW.PrintLast Go.Proofs.YtmnjdmmljkahgaaW.PrintMore
set_option linter.unusedVariables false
set_option linter.unusedSimpArgs false
theorem FnExactWheelOk : laws_FnExactWheelOk.Pure := by
  intro x0 h0
  refine Ev.rounds ?_
  unfold laws_FnExactWheelOk.f
  obtain ⟨r, e, hr⟩ := szWheel_eq x0.f0 x0.f1 1048576 (by decide) (by decide) h0.2.1
  refine ev_bind_eq e ?_
  by_cases c : r < 0
  · exact ev_if_pos c (Ev.now _)
  have hn := hr (by omega)
  have hm : (x0.f1.map cvTimer).length ≤ 1048576 := by rw [List.length_map]; exact hn
  obtain ⟨b, e1, e2⟩ := wheels_same x0.f0 (x0.f1.map cvTimer) hm
  refine ev_if_neg c (Ev.bind (toWheel_ev _ _ hn) (Ev.bind e1 (Ev.bind (toWheel_ev _ _ hn) (Ev.bind e2 (ev_if_neg (by simp) (Ev.bind (toWheel_ev _ _ hn) (Ev.bind (eqWheel_self _ _ hm) (ev_if_pos rfl (Ev.now _)))))))))

end Go.Proofs.Ytmnjdmmljkahgaa.Pure
