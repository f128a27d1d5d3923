/- What is proved: the program's PutText answers as the reference's, for all arguments; it leaves its arguments alone, and what it answers shares no memory with them. Conditions: none beyond those of the given statement. -/
import Derived.Test.YtjbalmbamdmfpaaPAx0
import Derived.Test.YtjbalmbamdmfpaaPAx6
import Derived.Test.YtjbalmbamdmfpaaLBase
import Derived.Test.YtjbalmbamdmfpaaLBytes
import Derived.Test.YtjbalmbamdmfpaaLPuts
namespace Go.Proofs.Ytjbalmbamdmfpaa.Pure
open Go.RowKit Go.Proofs.Ytjbalmbamdmfpaa.PA Go.Proofs.YtjbalmbamdmfpaaW.PrintWords Go.Proofs.YtjbalmbamdmfpaaW.PrintLast Go.Proofs.YtjbalmbamdmfpaaW.PrintMore
set_option linter.unusedVariables false
set_option linter.unusedSimpArgs false
theorem FnExactPutText : laws_FnExactPutText.Pure := by
  intro l0 l1 hm0 h0 w0 hm1 h1 w1
  refine Ev.rounds ?_
  unfold laws_FnExactPutText.f
  by_cases c0 : (l0.length : Int) > 1048576
  · exact ev_if_pos c0 (Ev.now _)
  refine ev_if_neg c0 ?_
  by_cases c1 : (l1.length : Int) > 1048576
  · exact ev_if_pos c1 (Ev.now _)
  refine ev_if_neg c1 ?_
  have hs := specPutText_ev l0 l1 (by omega)
  have hi := implPutTextTop_ev l0 l1 (by omega)
  have hr := putTextP_le l0 l1
  generalize putTextP l0 l1 = r at hs hi hr
  repeat (first | exact Ev.now _ | dsimp only | refine Ev.bind (toByteS_ev _ (by omega)) ?_ | refine Ev.bind (eqByteS_self _ (by omega)) ?_ | refine Ev.bind (markByteS_ev _ _ (by omega) (by omega)) ?_ | refine Ev.bind (heldByteS_ev _ _ (by omega) (by omega)) ?_ | refine Ev.bind hs ?_ | refine Ev.bind hi ?_ | refine Ev.step (fun k => by rw [laws_FnExactPutText.j0]) ?_ | refine ev_if_pos rfl ?_ | refine ev_if_neg (by omega) ?_ | refine ev_if_neg (by simp) ?_)

end Go.Proofs.Ytjbalmbamdmfpaa.Pure
