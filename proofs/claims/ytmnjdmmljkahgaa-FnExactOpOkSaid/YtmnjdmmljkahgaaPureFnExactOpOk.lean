/- What is proved: the program's OpOk answers as the reference's, for all operations, and leaves its argument alone. Conditions: none beyond those of the given statement. -/
import Derived.Test.YtmnjdmmljkahgaaPAx0
import Derived.Test.YtmnjdmmljkahgaaPAx5
import Derived.Test.YtmnjdmmljkahgaaLBase
import Derived.Test.YtmnjdmmljkahgaaLBytes
import Derived.Test.YtmnjdmmljkahgaaLOps
import Derived.Test.YtmnjdmmljkahgaaLSmall
namespace Go.Proofs.Ytmnjdmmljkahgaa.Pure
open Go.RowKit Go.Proofs.Ytmnjdmmljkahgaa.PA Go.Proofs.YtmnjdmmljkahgaaW.PrintWords Go.Proofs.YtmnjdmmljkahgaaW.PrintLast Go.Proofs.YtmnjdmmljkahgaaW.PrintMore
set_option linter.unusedVariables false
set_option linter.unusedSimpArgs false
theorem FnExactOpOk : laws_FnExactOpOk.Pure := by
  intro x0 ⟨h0, ⟨h1, _⟩, ⟨h2, _⟩, h3⟩
  refine Ev.rounds ?_
  unfold laws_FnExactOpOk.f
  obtain ⟨r, e, hr⟩ := szOp_eq x0.f0 x0.f1 x0.f2 x0.f3 1048576 (by decide) (by decide) h1 h2
  refine ev_bind_eq e ?_
  by_cases c : r < 0
  · exact ev_if_pos c (Ev.now _)
  refine ev_if_neg c ?_
  obtain ⟨hr1, hr2, hr3⟩ := hr (by omega)
  repeat (first | exact Ev.now _ | dsimp only | refine Ev.bind (toByteS_ev _ (by omega)) ?_ | refine Ev.bind (eqByteS_self _ (by omega)) ?_ | refine Ev.bind (toOp_ev _ _ _ _ (by omega) (by omega)) ?_ | refine Ev.bind (specOpOk_ev _ _ _ _ (by omega)) ?_ | refine Ev.bind (implOpOk_ev _ _ _ _ (by omega)) ?_ | refine Ev.bind (eqOp_self _ _ _ _ (by omega) (by omega)) ?_ | refine ev_if_neg (bool_ne_self _) ?_ | refine ev_if_pos rfl ?_ | refine ev_if_neg (by omega) ?_ | refine ev_if_neg (by simp) ?_)

end Go.Proofs.Ytmnjdmmljkahgaa.Pure
