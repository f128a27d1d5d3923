/- What is proved: the program's Common answers as the reference's, for all byte slices, and leaves its arguments alone. Conditions: none beyond those of the given statement. -/
import Derived.Test.YtjbalmbamdmfpaaPAx0
import Derived.Test.YtjbalmbamdmfpaaPAx2
import Derived.Test.YtjbalmbamdmfpaaLBase
import Derived.Test.YtjbalmbamdmfpaaLBytes
import Derived.Test.YtjbalmbamdmfpaaLCore1
namespace Go.Proofs.Ytjbalmbamdmfpaa.Pure
open Go.RowKit Go.Proofs.Ytjbalmbamdmfpaa.PA Go.Proofs.YtjbalmbamdmfpaaW.PrintWords Go.Proofs.YtjbalmbamdmfpaaW.PrintLast Go.Proofs.YtjbalmbamdmfpaaW.PrintMore
set_option linter.unusedVariables false
set_option linter.unusedSimpArgs false
theorem FnExactCommon : laws_FnExactCommon.Pure := by
  intro l0 l1 hm0 h0 w0 hm1 h1 w1
  refine Ev.rounds ?_
  unfold laws_FnExactCommon.f
  obtain ⟨r, r1, r2⟩ := common_eq l0 l1 (by omega)
  by_cases c0 : (l0.length : Int) > 1048576
  · exact ev_if_pos c0 (Ev.now _)
  refine ev_if_neg c0 ?_
  by_cases c1 : (l1.length : Int) > 1048576
  · exact ev_if_pos c1 (Ev.now _)
  refine ev_if_neg c1 ?_
  refine Ev.bind (toByteS_ev l0 (by omega)) (Ev.bind (toByteS_ev l1 (by omega)) (Ev.bind r1 (Ev.bind (toByteS_ev l0 (by omega)) (Ev.bind (toByteS_ev l1 (by omega)) (Ev.bind r2 ?_)))))
  refine ev_if_pos rfl ?_
  refine Ev.bind (toByteS_ev l0 (by omega)) (Ev.bind (eqByteS_self l0 (by omega)) (ev_if_pos rfl ?_))
  exact Ev.bind (toByteS_ev l1 (by omega)) (Ev.bind (eqByteS_self l1 (by omega)) (ev_if_pos rfl (Ev.now _)))

end Go.Proofs.Ytjbalmbamdmfpaa.Pure
