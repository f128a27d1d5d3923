/- What is proved: the program's GetText answers as the reference's, for all arguments; it leaves its arguments alone, and what it answers shares no memory with them. Conditions: none beyond those of the given statement. -/
import Derived.Test.YtjbalmbamdmfpaaPAx0
import Derived.Test.YtjbalmbamdmfpaaPAx7
import Derived.Test.YtjbalmbamdmfpaaLBase
import Derived.Test.YtjbalmbamdmfpaaLBytes
import Derived.Test.YtjbalmbamdmfpaaLGets
namespace Go.Proofs.Ytjbalmbamdmfpaa.Pure
open Go.RowKit Go.Proofs.Ytjbalmbamdmfpaa.PA Go.Proofs.YtjbalmbamdmfpaaW.PrintWords Go.Proofs.YtjbalmbamdmfpaaW.PrintLast Go.Proofs.YtjbalmbamdmfpaaW.PrintMore
set_option linter.unusedVariables false
set_option linter.unusedSimpArgs false
theorem FnExactGetText : laws_FnExactGetText.Pure := by
  intro l0 a1 hm0 h0 w0 ha
  refine Ev.rounds ?_
  unfold laws_FnExactGetText.f
  by_cases c0 : (l0.length : Int) > 1048576
  · exact ev_if_pos c0 (Ev.now _)
  refine ev_if_neg c0 ?_
  have ha := wf_i64 ha
  obtain ⟨r, hs, hi, hr⟩ := getText_eq l0 (by omega) w0 a1 (by omega) (by omega)
  repeat (first | exact Ev.now _ | dsimp only | refine Ev.bind (toByteS_ev _ (by omega)) ?_ | refine Ev.bind (eqByteS_self _ (by omega)) ?_ | refine Ev.bind (markByteS_ev _ _ (by omega) (by omega)) ?_ | refine Ev.bind (heldByteS_ev _ _ (by omega) (by omega)) ?_ | refine Ev.bind hs ?_ | refine Ev.bind hi ?_ | refine Ev.step (g := fun k => laws_FnExactGetText.j0 k _ _ _ _ _ _ _ _) (fun k => by rw [laws_FnExactGetText.j0]) ?_ | refine Ev.step (g := fun k => laws_FnExactGetText.j1 k _ _ _ _ _ _) (fun k => by rw [laws_FnExactGetText.j1]) ?_ | refine Ev.step (g := fun k => laws_FnExactGetText.j2 k _ _ _) (fun k => by rw [laws_FnExactGetText.j2]) ?_ | refine ev_if_pos rfl ?_ | refine ev_if_neg (by omega) ?_ | refine ev_if_neg (by simp) ?_)

end Go.Proofs.Ytjbalmbamdmfpaa.Pure
