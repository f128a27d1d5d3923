import Derived.Test.YtjbalmbamdmfpaaPBx0
import Derived.Test.YtjbalmbamdmfpaaPBx1
import Derived.Test.YtjbalmbamdmfpaaPBx2
import Derived.Test.YtjbalmbamdmfpaaPBx3
import Derived.Test.YtjbalmbamdmfpaaLBase
import Derived.Test.YtjbalmbamdmfpaaLClone
import Derived.Test.YtjbalmbamdmfpaaLPutnum
import Derived.Test.YtjbalmbamdmfpaaLWithin
namespace Go.Proofs.Ytjbalmbamdmfpaa.Pure
open Go.RowKit Go.Proofs.Ytjbalmbamdmfpaa.PB Go.Proofs.YtjbalmbamdmfpaaW.PrintWords Go.Proofs.YtjbalmbamdmfpaaW.PrintLast Go.Proofs.YtjbalmbamdmfpaaW.PrintMore
set_option linter.unusedVariables false
set_option linter.unusedSimpArgs false
theorem implPutNumTop_ev (b : List Int) (n : Int) (hb : b.length ≤ 140737488350000) : Ev (fun k => impl_PutNum.f k b n) (putNumP b n) := by
  unfold impl_PutNum.f
  refine ev_bind_eq (clone_eq b (by omega)) (ev_bind_eq (within_eq n 0 2147483647) ?_)
  by_cases c : 0 ≤ n ∧ n ≤ 2147483647
  · refine ev_if_pos (decide_eq_true c) ?_
    obtain ⟨m, rfl⟩ := Int.eq_ofNat_of_zero_le c.1
    have := encNum_le (n := m) (by omega)
    rw [putNumP, if_pos c]
    exact Ev.bind (implPutNum_ev b m (by omega) (by omega)) (Ev.now _)
  · refine ev_if_neg (by rw [decide_eq_false c]; decide) ?_
    rw [putNumP, if_neg c]
    exact Ev.now _
/-- PutText, as both have it. -/
def putTextP (b t : List Int) : List Int := if t.length ≤ 20 then b ++ encNum t.length ++ t else b
theorem putTextP_le (b t : List Int) : (putTextP b t).length ≤ b.length + 25 := by
  unfold putTextP
  split
  · have := encNum_le (n := t.length) (by omega)
    rw [List.length_append, List.length_append]
    omega
  · omega
theorem implPutText_ev (b t : List Int) (ht : t.length ≤ 20) (hb : b.length ≤ 140737488350000) : Ev (fun k => impl_putText.f k b t) (b ++ encNum t.length ++ t) := by
  unfold impl_putText.f
  have := encNum_le (n := t.length) (by omega)
  refine Ev.bind (implPutNum_ev b t.length (by omega) (by omega)) (ev_if_pos (by rw [List.length_append]; omega) (Ev.now _))
theorem implPutTextTop_ev (b t : List Int) (hb : b.length ≤ 140737488350000) : Ev (fun k => impl_PutText.f k b t) (putTextP b t) := by
  unfold impl_PutText.f
  refine ev_bind_eq (clone_eq b (by omega)) ?_
  unfold putTextP
  by_cases c : t.length ≤ 20
  · rw [if_pos c]
    exact ev_if_neg (by omega) (Ev.bind (implPutText_ev b t c hb) (Ev.now _))
  · rw [if_neg c]
    exact ev_if_pos (by omega) (Ev.now _)

end Go.Proofs.Ytjbalmbamdmfpaa.Pure
