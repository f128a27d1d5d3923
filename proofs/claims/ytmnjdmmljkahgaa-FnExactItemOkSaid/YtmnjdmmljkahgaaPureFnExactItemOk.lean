/- What is proved: the program's ItemOk answers as the reference's, for all arguments, and leaves its argument alone. Conditions: none beyond those of the given statement. -/
import Derived.Test.YtmnjdmmljkahgaaPItx0
import Derived.Test.YtmnjdmmljkahgaaPItx7
import Derived.Test.YtmnjdmmljkahgaaLBase
import Derived.Test.YtmnjdmmljkahgaaLBytes
import Derived.Test.YtmnjdmmljkahgaaLItems
import Derived.Test.YtmnjdmmljkahgaaLSmall
namespace Go.Proofs.Ytmnjdmmljkahgaa.Pure
open Go.RowKit Go.Proofs.Ytmnjdmmljkahgaa.PIt Go.Proofs.YtmnjdmmljkahgaaW.PrintWords Go.Proofs.YtmnjdmmljkahgaaW.PrintLast Go.Proofs.YtmnjdmmljkahgaaW.PrintMore
set_option linter.unusedVariables false
set_option linter.unusedSimpArgs false
theorem FnExactItemOk : laws_FnExactItemOk.Pure := by
  intro x0 ⟨_, _, _, _, ⟨h1, _⟩, ⟨h2, _⟩, _⟩
  refine Ev.rounds ?_
  unfold laws_FnExactItemOk.f
  obtain ⟨r, e, hr⟩ := szItem_eq x0.f0 x0.f1.f0 x0.f1.f1 x0.f1.f2.f0 x0.f1.f2.f1 x0.f1.f2.f2 x0.f1.f2.f3 1048576 (by decide) (by decide) h1 h2
  refine ev_bind_eq e ?_
  by_cases c : r < 0
  · exact ev_if_pos c (Ev.now _)
  refine ev_if_neg c ?_
  obtain ⟨hr1, hr2, hr3⟩ := hr (by omega)
  repeat (first | exact Ev.now _ | dsimp only | refine Ev.bind (toByteS_ev _ (by omega)) ?_ | refine Ev.bind (eqByteS_self _ (by omega)) ?_ | refine Ev.bind (toItem_ev _ _ _ _ _ _ _ (by omega) (by omega)) ?_ | refine Ev.bind (specItemOk_ev _ _ _ _ _ _ _ (by omega)) ?_ | refine Ev.bind (implItemOk_ev _ _ _ _ _ _ _ (by omega)) ?_ | refine Ev.bind (eqItem_self _ _ _ _ _ _ _ (by omega) (by omega)) ?_ | refine ev_if_neg (bool_ne_self _) ?_ | refine ev_if_pos rfl ?_ | refine ev_if_neg (by omega) ?_ | refine ev_if_neg (by simp) ?_)

end Go.Proofs.Ytmnjdmmljkahgaa.Pure
