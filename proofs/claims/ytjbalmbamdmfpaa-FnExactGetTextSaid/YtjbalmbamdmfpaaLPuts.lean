import Derived.Test.YtjbalmbamdmfpaaPAx0
import Derived.Test.YtjbalmbamdmfpaaPAx2
import Derived.Test.YtjbalmbamdmfpaaPAx5
import Derived.Test.YtjbalmbamdmfpaaLBase
import Derived.Test.YtjbalmbamdmfpaaLPutnum
namespace Go.Proofs.Ytjbalmbamdmfpaa.Pure
open Go.RowKit Go.Proofs.Ytjbalmbamdmfpaa.PA Go.Proofs.YtjbalmbamdmfpaaW.PrintWords Go.Proofs.YtjbalmbamdmfpaaW.PrintLast Go.Proofs.YtjbalmbamdmfpaaW.PrintMore
set_option linter.unusedVariables false
set_option linter.unusedSimpArgs false
theorem clone_eq (l : List Int) (h : l.length ≤ 140737488351232) : slices_Clone_byte_byte.f l = some l := by
  unfold slices_Clone_byte_byte.f
  rw [if_pos (by omega)]
theorem within_eq (a b c : Int) : impl_within.f a b c = some (decide (b ≤ a ∧ a ≤ c)) := by
  unfold impl_within.f
  by_cases h : b ≤ a
  · rw [if_pos h]
    by_cases h2 : a ≤ c
    · rw [decide_eq_true h2, decide_eq_true ⟨h, h2⟩]
    · rw [decide_eq_false h2, decide_eq_false (fun z => h2 z.2)]
  · rw [if_neg h, decide_eq_false (fun z => h z.1)]
theorem implPutNumTop_ev (b : List Int) (n : Int) (hb : b.length ≤ 140737488350000) : Ev (fun k => impl_PutNum.f k b n) (putNumP b n) := by
  unfold impl_PutNum.f
  refine ev_bind_eq (clone_eq b (by omega)) (ev_bind_eq (within_eq n 0 2147483647) ?_)
  by_cases c : 0 ≤ n ∧ n ≤ 2147483647
  · refine ev_if_pos (decide_eq_true c) ?_
    obtain ⟨m, rfl⟩ := Int.eq_ofNat_of_zero_le c.1
    have := encNum_le (n := m) (by omega)
    rw [putNumP, if_pos c]
    exact Ev.bind (implPutNum_ev b m (by omega) (by omega)) (Ev.now _)
  · refine ev_if_neg (by rw [decide_eq_false c]; decide) ?_
    rw [putNumP, if_neg c]
    exact Ev.now _
/-- PutText, as both have it. -/
def putTextP (b t : List Int) : List Int := if t.length ≤ 20 then b ++ encNum t.length ++ t else b
theorem putTextP_le (b t : List Int) : (putTextP b t).length ≤ b.length + 25 := by
  unfold putTextP
  split
  · have := encNum_le (n := t.length) (by omega)
    rw [List.length_append, List.length_append]
    omega
  · omega
theorem implPutText_ev (b t : List Int) (ht : t.length ≤ 20) (hb : b.length ≤ 140737488350000) : Ev (fun k => impl_putText.f k b t) (b ++ encNum t.length ++ t) := by
  unfold impl_putText.f
  have := encNum_le (n := t.length) (by omega)
  refine Ev.bind (implPutNum_ev b t.length (by omega) (by omega)) (ev_if_pos (by rw [List.length_append]; omega) (Ev.now _))
theorem implPutTextTop_ev (b t : List Int) (hb : b.length ≤ 140737488350000) : Ev (fun k => impl_PutText.f k b t) (putTextP b t) := by
  unfold impl_PutText.f
  refine ev_bind_eq (clone_eq b (by omega)) ?_
  unfold putTextP
  by_cases c : t.length ≤ 20
  · rw [if_pos c]
    exact ev_if_neg (by omega) (Ev.bind (implPutText_ev b t c hb) (Ev.now _))
  · rw [if_neg c]
    exact ev_if_pos (by omega) (Ev.now _)
theorem specPutText_ev (b t : List Int) (hb : b.length ≤ 140737488350000) : Ev (fun k => spec_PutText.f k b t) (putTextP b t) := by
  unfold spec_PutText.f putTextP
  by_cases c : t.length ≤ 20
  · rw [if_pos c]
    have := encNum_le (n := t.length) (by omega)
    have hp := specPutNum_ev b t.length hb
    rw [putNumP, if_pos (by omega), Int.toNat_natCast] at hp
    exact ev_if_neg (by omega) (Ev.bind hp (ev_if_pos (by rw [List.length_append]; omega) (Ev.now _)))
  · rw [if_neg c]
    exact ev_if_pos (by omega) (ev_bind_eq rfl (ev_if_pos (by simp; omega) (Ev.now _)))

end Go.Proofs.Ytjbalmbamdmfpaa.Pure
