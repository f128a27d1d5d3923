/- What is proved: numbers and byte strings are recovered from their encodings, and whatever bytes are read as a number are just the bytes of it, for all codes. Conditions: none beyond those of the given statement. -/
import Derived.Test.YtjbalmbamdmfpaaPBx0
import Derived.Test.YtjbalmbamdmfpaaPBx2
import Derived.Test.YtjbalmbamdmfpaaPBx3
import Derived.Test.YtjbalmbamdmfpaaPBx4
import Derived.Test.YtjbalmbamdmfpaaPBx5
import Derived.Test.YtjbalmbamdmfpaaLBase
import Derived.Test.YtjbalmbamdmfpaaLClone
import Derived.Test.YtjbalmbamdmfpaaLCodec
import Derived.Test.YtjbalmbamdmfpaaLDrawnums
import Derived.Test.YtjbalmbamdmfpaaLDraws
import Derived.Test.YtjbalmbamdmfpaaLPutnum
import Derived.Test.YtjbalmbamdmfpaaLPuts
import Derived.Test.YtjbalmbamdmfpaaLStrs
namespace Go.Proofs.Ytjbalmbamdmfpaa.Pure
open Go.RowKit Go.Proofs.Ytjbalmbamdmfpaa.PB Go.Proofs.YtjbalmbamdmfpaaW.PrintWords Go.Proofs.YtjbalmbamdmfpaaW.PrintLast Go.Proofs.YtjbalmbamdmfpaaW.PrintMore
set_option linter.unusedVariables false
set_option linter.unusedSimpArgs false
theorem putNumP_bytes (b : List Int) (n : Int) (hb : Bytes b) : Bytes (putNumP b n) := by
  unfold putNumP
  split
  · exact bytes_append hb (encNum_bytes _)
  · exact hb
theorem implGetText_ex (l : List Int) (hn : l.length ≤ 1048576) (hw : Bytes l) (a : Int) (h0 : -9223372036854775808 ≤ a) (h1 : a ≤ 9223372036854775807) : ∃ r, Ev (fun k => impl_GetText.f k l a) r := by
  obtain ⟨r, r2, hr⟩ := getNum_dec l hn hw a h0 h1
  unfold impl_GetText.f
  by_cases c0 : r.2 < 0
  · exact ⟨_, Ev.bind r2 (ev_if_pos c0 (Ev.now _))⟩
  by_cases c1 : r.1 > 20
  · exact ⟨_, Ev.bind r2 (ev_if_neg c0 (ev_if_pos c1 (Ev.now _)))⟩
  obtain ⟨m, m1, m2, m3, m4, m5, m6⟩ := hr (by omega)
  clear m6
  have e1 : Aside0 (wrap64 ((l.length : Int) - r.2) = (l.length : Int) - r.2) := ⟨w64 (by omega) (by omega)⟩
  have e2 : Aside0 (wrap64 (r.2 + r.1) = r.2 + r.1) := ⟨w64 (by omega) (by omega)⟩
  by_cases c2 : r.1 > (l.length : Int) - r.2
  · exact ⟨_, Ev.bind r2 (ev_if_neg c0 (ev_if_neg c1 (ev_if_pos (by rw [e1.out]; exact c2) (Ev.now _))))⟩
  have hl : ((l.take (r.2 + r.1).toNat).drop r.2.toNat).length ≤ 1048576 := by rw [List.length_drop, List.length_take]; omega
  refine ⟨((l.take (r.2 + r.1).toNat).drop r.2.toNat, r.2 + r.1), Ev.bind r2 (ev_if_neg c0 (ev_if_neg c1 (ev_if_neg (by rw [e1.out]; exact c2) ?_)))⟩
  · rw [e2.out]
    exact ev_if_pos (by omega) (ev_if_pos (by omega) (ev_if_pos (by omega) (ev_bind_eq (clone_eq _ (by omega)) (Ev.now _))))
theorem implGetText_put (c t : List Int) (hc : c.length ≤ 100000) (ht : t.length ≤ 20) : Ev (fun k => impl_GetText.f k (c ++ encNum t.length ++ t) (c.length : Int)) (t, ((c ++ encNum t.length ++ t).length : Int)) := by
  have he := encNum_le (n := t.length) (by omega)
  have hl : (c ++ encNum t.length ++ t).length = c.length + (encNum t.length).length + t.length := by simp; omega
  have hp : (c ++ encNum t.length).length = c.length + (encNum t.length).length := by simp
  have h := getNum_enc c t.length t (by omega) (by omega)
  unfold impl_GetText.f
  refine Ev.bind h ?_
  dsimp only
  rw [hp, hl]
  refine ev_if_neg (by omega) (ev_if_neg (by omega) (ev_if_neg (by rw [w64 (by omega) (by omega)]; omega) ?_))
  rw [w64 (by omega) (by omega)]
  refine ev_if_pos (by omega) (ev_if_pos (by omega) (ev_if_pos (by omega) ?_))
  have e : (((c ++ encNum t.length ++ t).take ((((c.length + (encNum t.length).length : Nat) : Int) + (t.length : Int)) : Int).toNat).drop (((c.length + (encNum t.length).length : Nat) : Int)).toNat) = t := by
    rw [List.take_of_length_le (by omega), Int.toNat_natCast, ← hp, List.drop_left]
  rw [e]
  refine ev_bind_eq (clone_eq t (by omega)) (ev_done ?_)
  congr 1
theorem sameBytes_self (a : List Int) : laws_sameBytes.f a a = some true := by
  unfold laws_sameBytes.f
  rw [str_self]
theorem drawPutNum_ev (l : List Int) (hl : l.length ≤ 140737488351232) : ∃ b n, Ev (fun k => spec_DrawPutNum.f k l) (b, n) ∧ b.length ≤ 4 ∧ Bytes b ∧ -9223372036854775808 ≤ n ∧ n ≤ 9223372036854775807 := by
  unfold spec_DrawPutNum.f
  obtain ⟨h, h1, hc⟩ := l1New_ev l hl
  obtain ⟨b, i1, g1, e1, hc1, b1, b2⟩ := l1some_ev l 0 h 4 (by decide) (by decide) hc
  obtain ⟨n, i2, g2, e2, hc2, n0, n1⟩ := l1num_eq l i1 g1 hc1
  exact ⟨b, n, Ev.bind h1 (Ev.bind e1 (ev_bind_eq e2 (Ev.now _))), by omega, b2, n0, n1⟩
theorem drawPutText_ev (l : List Int) (hl : l.length ≤ 140737488351232) : ∃ b t, Ev (fun k => spec_DrawPutText.f k l) (b, t) ∧ b.length ≤ 3 ∧ Bytes b ∧ t.length ≤ 100 ∧ Bytes t := by
  unfold spec_DrawPutText.f
  obtain ⟨h, h1, hc⟩ := l1New_ev l hl
  obtain ⟨b, i1, g1, e1, hc1, b1, b2⟩ := l1some_ev l 0 h 3 (by decide) (by decide) hc
  obtain ⟨t, i2, g2, e2, hc2, t1, t2⟩ := l1some_ev l i1 g1 6 (by decide) (by decide) hc1
  obtain ⟨o, i3, g3, e3, hc3⟩ := l1Once_eq l i2 g2 6 hc2
  by_cases c : o = true
  · obtain ⟨m, i4, g4, e4, hc4, m0, m1, _⟩ := l1Below_eq l i3 g3 2 hc3
    have := m1 (by decide)
    refine ⟨b, List.replicate (20 + m).toNat 0, Ev.bind h1 (Ev.bind e1 (Ev.bind e2 (ev_bind_eq e3 (ev_if_pos c (ev_bind_eq e4 ?_))))), by omega, b2, by rw [List.length_replicate]; omega, bytes_rep _⟩
    dsimp only
    rw [w64 (by omega) (by omega)]
    exact ev_if_pos (by omega) (ev_if_pos (by omega) (Ev.now _))
  · exact ⟨b, t, Ev.bind h1 (Ev.bind e1 (Ev.bind e2 (ev_bind_eq e3 (ev_if_neg c (Ev.now _))))), by omega, b2, by omega, t2⟩
theorem drawGetNum_ev (l : List Int) (hl : l.length ≤ 140737488351232) : ∃ b n, Ev (fun k => spec_DrawGetNum.f k l) (b, n) ∧ b.length ≤ 100 ∧ Bytes b ∧ -9223372036854775808 ≤ n ∧ n ≤ 9223372036854775807 := by
  have tail : ∀ (b : List Int) (f i h : Int), Cur l i → b.length ≤ 100 → Bytes b → 0 ≤ f → f ≤ 100 → ∃ b' n, Ev (fun k => spec_DrawGetNum.j0 k b f l i h) (b', n) ∧ b'.length ≤ 100 ∧ Bytes b' ∧ -9223372036854775808 ≤ n ∧ n ≤ 9223372036854775807 := by
    intro b f i h hc hb hw hf0 hf1
    obtain ⟨o, i1, g1, e1, hc1⟩ := l1Once_eq l i h 6 hc
    by_cases c : o = true
    · obtain ⟨n, i2, g2, e2, hc2, hn⟩ := l1Pick_eq l i1 g1 [-1, 0, (b.length : Int), (b.length : Int) + 1, 9223372036854775807, -9223372036854775808] (by simp) hc1
      simp at hn
      refine ⟨b, n, Ev.step (fun k => by rw [spec_DrawGetNum.j0]) ?_, hb, hw, by omega, by omega⟩
      refine ev_bind_eq e1 (ev_if_pos c ?_)
      rw [w64 (by omega) (by omega)]
      exact ev_bind_eq e2 (Ev.now _)
    · refine ⟨b, f, Ev.step (fun k => by rw [spec_DrawGetNum.j0]) ?_, hb, hw, by omega, by omega⟩
      exact ev_bind_eq e1 (ev_if_neg c (Ev.now _))
  unfold spec_DrawGetNum.f
  obtain ⟨h, h1, hc⟩ := l1New_ev l hl
  obtain ⟨b, i1, g1, e1, hc1, b1, b2⟩ := l1some_ev l 0 h 3 (by decide) (by decide) hc
  obtain ⟨n, i2, g2, e2, hc2, n0, n1⟩ := l1num_eq l i1 g1 hc1
  have hp := specPutNum_ev b n (by omega)
  have hpl := putNumP_le b n
  have hpb := putNumP_bytes b n b2
  obtain ⟨t, i3, g3, e3, hc3, t1, t2⟩ := l1some_ev l i2 g2 3 (by decide) (by decide) hc2
  obtain ⟨o, i4, g4, e4, hc4⟩ := l1Once_eq l i3 g3 3 hc3
  have hal : (putNumP b n ++ t).length ≤ 20 := by rw [List.length_append]; omega
  by_cases c : o = true
  · obtain ⟨y, i5, g5, e5, hc5, y1, y2⟩ := l1spoil_eq l i4 g4 (putNumP b n ++ t) (by omega) (bytes_append hpb t2) hc4
    obtain ⟨b', n', e6, r1, r2, r3⟩ := tail y (b.length : Int) i5 g5 hc5 (by omega) y2 (by omega) (by omega)
    exact ⟨b', n', Ev.bind h1 (Ev.bind e1 (ev_bind_eq e2 (Ev.bind hp (Ev.bind e3 (ev_if_pos (by dsimp only; omega) (ev_bind_eq rfl (ev_bind_eq e4 (ev_if_pos c (ev_bind_eq e5 e6))))))))), r1, r2, r3⟩
  · obtain ⟨b', n', e6, r1, r2, r3⟩ := tail (putNumP b n ++ t) (b.length : Int) i4 g4 hc4 (by omega) (bytes_append hpb t2) (by omega) (by omega)
    exact ⟨b', n', Ev.bind h1 (Ev.bind e1 (ev_bind_eq e2 (Ev.bind hp (Ev.bind e3 (ev_if_pos (by dsimp only; omega) (ev_bind_eq rfl (ev_bind_eq e4 (ev_if_neg c e6)))))))), r1, r2, r3⟩
theorem numbers_three (l : List Int) (hl : l.length ≤ 140737488351232) : Ev (fun k => laws_FnNumbers.j1 k l false) true := by
  obtain ⟨b, n, e1, h1, h2, h3, h4⟩ := drawGetNum_ev l hl
  obtain ⟨r, e2, hr⟩ := getNum_dec b (by omega) h2 n h3 h4
  refine Ev.step (fun k => by rw [laws_FnNumbers.j1]) ?_
  refine ev_if_neg (by decide) (Ev.bind e1 (Ev.bind e2 ?_))
  by_cases c : r.2 < 0
  · exact ev_if_pos c (Ev.now _)
  obtain ⟨m, m1, m2, m3, m4, m5, m6⟩ := hr (by omega)
  refine ev_if_neg c (ev_if_pos m3 (ev_if_pos (by dsimp only; omega) ?_))
  have hp := implPutNumTop_ev (b.take n.toNat) r.1 (by rw [List.length_take]; omega)
  rw [putNumP, if_pos (by omega), show r.1.toNat = m by omega, ← m6] at hp
  refine Ev.bind hp (ev_if_pos (by omega) (ev_if_pos (by dsimp only; omega) ?_))
  exact ev_bind_eq (sameBytes_self _) (Ev.now _)
theorem numbers_two (l : List Int) (hl : l.length ≤ 140737488351232) : Ev (fun k => laws_FnNumbers.j0 k l false) true := by
  obtain ⟨c, t, e1, h1, h2, h3, h4⟩ := drawPutText_ev l hl
  have hp := implPutTextTop_ev c t (by omega)
  refine Ev.step (fun k => by rw [laws_FnNumbers.j0]) ?_
  refine ev_if_neg (by decide) (Ev.bind e1 (Ev.bind hp ?_))
  dsimp only
  by_cases ht : t.length ≤ 20
  · have hg := implGetText_put c t (by omega) ht
    rw [putTextP, if_pos ht]
    refine Ev.bind hg (ev_if_pos (by omega) (ev_bind_eq (sameBytes_self _) (ev_if_pos rfl ?_)))
    dsimp only
    rw [bne_self_eq_false]
    exact numbers_three l hl
  · rw [putTextP, if_neg ht]
    obtain ⟨r, hg⟩ := implGetText_ex c (by omega) h2 (c.length : Int) (by omega) (by omega)
    exact Ev.bind hg (ev_if_neg (by omega) (numbers_three l hl))
theorem FnNumbers : laws_FnNumbers.Pure := by
  intro l hm hl hw
  refine Ev.rounds ?_
  unfold laws_FnNumbers.f
  obtain ⟨b, n, e1, h1, h2, h3, h4⟩ := drawPutNum_ev l (by omega)
  have hp := implPutNumTop_ev b n (by omega)
  have hpl := putNumP_le b n
  refine Ev.bind e1 (Ev.bind hp (ev_if_pos (by omega) ?_))
  dsimp only
  by_cases c : 0 ≤ n ∧ n ≤ 2147483647
  · obtain ⟨m, rfl⟩ := Int.eq_ofNat_of_zero_le c.1
    rw [putNumP, if_pos c, Int.toNat_natCast] at hpl ⊢
    have hg := getNum_enc b m [7] (by omega) (by rw [List.length_append]; simp at hpl ⊢; omega)
    refine Ev.bind hg (ev_if_pos c.1 (ev_if_pos c.2 (ev_if_pos rfl ?_)))
    dsimp only
    rw [bne_self_eq_false]
    exact numbers_two l (by omega)
  · rw [putNumP, if_neg c]
    obtain ⟨r, hg, _⟩ := getNum_dec (b ++ [7]) (by simp; omega) (bytes_append h2 (bytes_one (by decide) (by decide))) (b.length : Int) (by omega) (by omega)
    refine Ev.bind hg ?_
    by_cases c0 : n ≥ 0
    · exact ev_if_pos c0 (ev_if_neg (by omega) (numbers_two l (by omega)))
    · exact ev_if_neg c0 (numbers_two l (by omega))

end Go.Proofs.Ytjbalmbamdmfpaa.Pure
