/- What is proved: the program's StateOk answers as the reference's, for all arguments, and leaves its argument alone. Conditions: none beyond those of the given statement. -/
import Derived.Test.YtdgegnakiljfjaaPAx0
import Derived.Test.YtdgegnakiljfjaaPAx9
import Derived.Test.YtdgegnakiljfjaaLAA
namespace Go.Proofs.Ytdgegnakiljfjaa.Pure
open Go.RowKit Go.Proofs.Ytdgegnakiljfjaa.PA Go.Proofs.YtdgegnakiljfjaaW.PrintWords Go.Proofs.YtdgegnakiljfjaaW.PrintLast Go.Proofs.YtdgegnakiljfjaaW.PrintMore
set_option linter.unusedVariables false
set_option linter.unusedSimpArgs false
theorem FnExactStateOk : laws_FnExactStateOk.Pure := by
  intro x0 h0
  refine Ev.rounds ?_
  unfold laws_FnExactStateOk.f
  obtain ⟨r, e, hr⟩ := szState_ev x0 h0
  refine Ev.bind e ?_
  by_cases c : r < 0
  · exact ev_if_pos c (Ev.now _)
  have ft := hr (by omega)
  obtain ⟨b, e1, e2, _⟩ := states_same x0 h0 ft
  have ts := toState_ev x0 ft
  exact ev_if_neg c (Ev.bind ts (Ev.bind e1 (Ev.bind ts (Ev.bind e2 (ev_if_neg (by simp) (Ev.bind ts (Ev.bind (eqState_self x0 ft) (ev_if_pos rfl (Ev.now _)))))))))

end Go.Proofs.Ytdgegnakiljfjaa.Pure
