/- What is proved: the program's ActionOk answers as the reference's, for all arguments, and leaves its argument alone. Conditions: none beyond those of the given statement. -/
import Derived.Test.YtmnjdmmljkahgaaPAcx0
import Derived.Test.YtmnjdmmljkahgaaPAcx5
import Derived.Test.YtmnjdmmljkahgaaPAcx8
import Derived.Test.YtmnjdmmljkahgaaLActions
import Derived.Test.YtmnjdmmljkahgaaLBase
import Derived.Test.YtmnjdmmljkahgaaLBytes
import Derived.Test.YtmnjdmmljkahgaaLOps
import Derived.Test.YtmnjdmmljkahgaaLSmall
namespace Go.Proofs.Ytmnjdmmljkahgaa.Pure
open Go.RowKit Go.Proofs.Ytmnjdmmljkahgaa.PAc Go.Proofs.YtmnjdmmljkahgaaW.PrintWords Go.Proofs.YtmnjdmmljkahgaaW.PrintLast Go.Proofs.YtmnjdmmljkahgaaW.PrintMore
set_option linter.unusedVariables false
set_option linter.unusedSimpArgs false
theorem FnExactActionOk : laws_FnExactActionOk.Pure := by
  intro x0 ⟨_, _, _, ⟨_, ⟨h1, _⟩, ⟨h2, _⟩, _⟩, h3, _⟩
  refine Ev.rounds ?_
  unfold laws_FnExactActionOk.f
  obtain ⟨r, e, hr⟩ := szAction_eq x0.f0 x0.f1 x0.f2 x0.f3.f0 x0.f3.f1 x0.f3.f2 x0.f3.f3 x0.f4 1048576 (by decide) (by decide) h1 h2 h3
  refine ev_bind_eq e ?_
  by_cases c : r < 0
  · exact ev_if_pos c (Ev.now _)
  refine ev_if_neg c ?_
  obtain ⟨hr1, hr2, hr3, hr4⟩ := hr (by omega)
  have ht : Ev (fun k => laws_toAction.f k x0.f0 x0.f1 x0.f2 x0.f3.f0 x0.f3.f1 x0.f3.f2 x0.f3.f3 x0.f4) (x0.f0, x0.f1, x0.f2, x0.f3.f0, x0.f3.f1, x0.f3.f2, x0.f3.f3, x0.f4) := by
    unfold laws_toAction.f
    exact Ev.bind (toOp_ev _ _ _ _ (by omega) (by omega)) (Ev.bind (toByteS_ev _ (by omega)) (Ev.now _))
  have he : Ev (fun k => laws_eqAction.f k x0.f0 x0.f1 x0.f2 x0.f3.f0 x0.f3.f1 x0.f3.f2 x0.f3.f3 x0.f4 x0.f0 x0.f1 x0.f2 x0.f3.f0 x0.f3.f1 x0.f3.f2 x0.f3.f3 x0.f4) true := by
    unfold laws_eqAction.f
    exact ev_if_pos rfl (ev_if_pos rfl (ev_if_pos rfl (Ev.bind (eqOp_self _ _ _ _ (by omega) (by omega)) (ev_if_pos rfl (Ev.bind (eqByteS_self _ (by omega)) (ev_if_pos rfl (Ev.now _)))))))
  repeat (first | exact Ev.now _ | dsimp only | refine Ev.bind (toByteS_ev _ (by omega)) ?_ | refine Ev.bind (eqByteS_self _ (by omega)) ?_ | refine Ev.bind ht ?_ | refine Ev.bind (specActionOk_ev _ _ _ _ _ _ _ _ (by omega) (by omega)) ?_ | refine Ev.bind (implActionOk_ev _ _ _ _ _ _ _ _ (by omega) (by omega)) ?_ | refine Ev.bind he ?_ | refine ev_if_neg (bool_ne_self _) ?_ | refine ev_if_pos rfl ?_ | refine ev_if_neg (by omega) ?_ | refine ev_if_neg (by simp) ?_)

end Go.Proofs.Ytmnjdmmljkahgaa.Pure
