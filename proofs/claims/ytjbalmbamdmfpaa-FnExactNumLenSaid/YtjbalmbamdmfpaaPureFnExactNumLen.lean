/- What is proved: the program's NumLen answers as the reference's, for all numbers. Conditions: none beyond those of the given statement. -/
import Derived.Test.YtjbalmbamdmfpaaPAx0
import Derived.Test.YtjbalmbamdmfpaaPAx2
import Derived.Test.YtjbalmbamdmfpaaLBase
import Derived.Test.YtjbalmbamdmfpaaLPutnum
import Derived.Test.YtjbalmbamdmfpaaLPuts
namespace Go.Proofs.Ytjbalmbamdmfpaa.Pure
open Go.RowKit Go.Proofs.Ytjbalmbamdmfpaa.PA Go.Proofs.YtjbalmbamdmfpaaW.PrintWords Go.Proofs.YtjbalmbamdmfpaaW.PrintLast Go.Proofs.YtjbalmbamdmfpaaW.PrintMore
set_option linter.unusedVariables false
set_option linter.unusedSimpArgs false
theorem FnExactNumLen : laws_FnExactNumLen.Pure := by
  intro a0 h0
  refine Ev.rounds ?_
  unfold laws_FnExactNumLen.f
  have h1 : Ev (fun k => spec_NumLen.f k a0) ((putNumP [] a0).length : Int) := by
    unfold spec_NumLen.f
    exact Ev.bind (specPutNum_ev [] a0 (by simp)) (Ev.now _)
  have h2 : Ev (fun k => impl_NumLen.f k a0) ((putNumP [] a0).length : Int) := by
    unfold impl_NumLen.f
    exact Ev.bind (implPutNumTop_ev [] a0 (by simp)) (Ev.now _)
  exact Ev.bind h1 (Ev.bind h2 (ev_if_pos rfl (Ev.now _)))

end Go.Proofs.Ytjbalmbamdmfpaa.Pure
