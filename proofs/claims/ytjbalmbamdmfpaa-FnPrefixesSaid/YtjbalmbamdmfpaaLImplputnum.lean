import Derived.Test.YtjbalmbamdmfpaaPQx0
import Derived.Test.YtjbalmbamdmfpaaPQx1
import Derived.Test.YtjbalmbamdmfpaaLBase
import Derived.Test.YtjbalmbamdmfpaaLClone
import Derived.Test.YtjbalmbamdmfpaaLPutnum
import Derived.Test.YtjbalmbamdmfpaaLWithin
namespace Go.Proofs.Ytjbalmbamdmfpaa.Pure
open Go.RowKit Go.Proofs.Ytjbalmbamdmfpaa.PQ Go.Proofs.YtjbalmbamdmfpaaW.PrintWords Go.Proofs.YtjbalmbamdmfpaaW.PrintLast Go.Proofs.YtjbalmbamdmfpaaW.PrintMore
set_option linter.unusedVariables false
set_option linter.unusedSimpArgs false
theorem implPutNumTop_ev (b : List Int) (n : Int) (hb : b.length ≤ 140737488350000) : Ev (fun k => impl_PutNum.f k b n) (putNumP b n) := by
  unfold impl_PutNum.f
  refine ev_bind_eq (clone_eq b (by omega)) (ev_bind_eq (within_eq n 0 2147483647) ?_)
  by_cases c : 0 ≤ n ∧ n ≤ 2147483647
  · refine ev_if_pos (decide_eq_true c) ?_
    obtain ⟨m, rfl⟩ := Int.eq_ofNat_of_zero_le c.1
    have := encNum_le (n := m) (by omega)
    rw [putNumP, if_pos c]
    exact Ev.bind (implPutNum_ev b m (by omega) (by omega)) (Ev.now _)
  · refine ev_if_neg (by rw [decide_eq_false c]; decide) ?_
    rw [putNumP, if_neg c]
    exact Ev.now _

end Go.Proofs.Ytjbalmbamdmfpaa.Pure
