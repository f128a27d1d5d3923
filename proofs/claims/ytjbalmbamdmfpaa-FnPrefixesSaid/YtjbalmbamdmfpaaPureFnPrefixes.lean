/- What is proved: common prefixes have the stated length, and numbers have the stated number of bytes, for all codes. Conditions: none beyond those of the given statement. -/
import Derived.Test.YtjbalmbamdmfpaaPQx0
import Derived.Test.YtjbalmbamdmfpaaPQx1
import Derived.Test.YtjbalmbamdmfpaaPQx2
import Derived.Test.YtjbalmbamdmfpaaPQx3
import Derived.Test.YtjbalmbamdmfpaaLBase
import Derived.Test.YtjbalmbamdmfpaaLBytesp
import Derived.Test.YtjbalmbamdmfpaaLDrawnums
import Derived.Test.YtjbalmbamdmfpaaLDraws
import Derived.Test.YtjbalmbamdmfpaaLHasprefix
import Derived.Test.YtjbalmbamdmfpaaLImplputnum
import Derived.Test.YtjbalmbamdmfpaaLLcp
import Derived.Test.YtjbalmbamdmfpaaLPutnum
import Derived.Test.YtjbalmbamdmfpaaLStrs
namespace Go.Proofs.Ytjbalmbamdmfpaa.Pure
open Go.RowKit Go.Proofs.Ytjbalmbamdmfpaa.PQ Go.Proofs.YtjbalmbamdmfpaaW.PrintWords Go.Proofs.YtjbalmbamdmfpaaW.PrintLast Go.Proofs.YtjbalmbamdmfpaaW.PrintMore
set_option linter.unusedVariables false
set_option linter.unusedSimpArgs false
theorem implNumLen_ev (n : Int) : Ev (fun k => impl_NumLen.f k n) ((putNumP [] n).length : Int) := by
  unfold impl_NumLen.f
  exact Ev.bind (implPutNumTop_ev [] n (by simp)) (Ev.now _)
theorem numLen_200 : (putNumP [] 200).length = 2 := by
  rw [putNumP, if_pos (by decide), show (200 : Int).toNat = 200 from rfl, encNum_big (by decide), encNum_small (by decide)]
  rfl
theorem drawCommon_ev (l : List Int) (hl : l.length ≤ 140737488351232) : ∃ a b, Ev (fun k => spec_DrawCommon.f k l) (a, b) ∧ a.length ≤ 6 ∧ b.length ≤ 9 ∧ Bytes a ∧ Bytes b := by
  unfold spec_DrawCommon.f
  obtain ⟨h, h1, hc⟩ := l1New_ev l hl
  obtain ⟨a, i1, g1, e1, hc1, a1, a2⟩ := l1some_ev l 0 h 6 (by decide) (by decide) hc
  obtain ⟨m, i2, g2, e2, hc2, m0, m1, _⟩ := l1Below_eq l i1 g1 ((a.length : Int) + 1) hc1
  have := m1 (by omega)
  obtain ⟨t, i3, g3, e3, hc3, t1, t2⟩ := l1some_ev l i2 g2 3 (by decide) (by decide) hc2
  refine ⟨a, a.take m.toNat ++ t, Ev.bind h1 (Ev.bind e1 (ev_bind_eq rfl ?_)), by omega, by rw [List.length_append, List.length_take]; omega, a2, bytes_append (bytes_take _ a2) t2⟩
  dsimp only
  rw [w64 (by omega) (by omega)]
  refine ev_bind_eq e2 (ev_if_pos m0 (ev_if_pos (by dsimp only; omega) (ev_bind_eq rfl ?_)))
  refine ev_if_pos (by rw [List.length_nil, List.length_take]; omega) (ev_bind_eq rfl (Ev.bind e3 ?_))
  refine ev_if_pos (by rw [List.nil_append, List.length_take]; dsimp only; omega) (ev_done ?_)
  rw [List.nil_append]
theorem drawHasPrefix_ev (l : List Int) (hl : l.length ≤ 140737488351232) : ∃ a b, Ev (fun k => spec_DrawHasPrefix.f k l) (a, b) ∧ a.length ≤ 6 ∧ b.length ≤ 9 ∧ Bytes a ∧ Bytes b := by
  unfold spec_DrawHasPrefix.f
  obtain ⟨h, h1, hc⟩ := l1New_ev l hl
  obtain ⟨a, i1, g1, e1, hc1, a1, a2⟩ := l1some_ev l 0 h 6 (by decide) (by decide) hc
  obtain ⟨o, i2, g2, e2, hc2⟩ := l1Once_eq l i1 g1 2 hc1
  by_cases c : o = true
  · obtain ⟨m, i3, g3, e3, hc3, m0, m1, _⟩ := l1Below_eq l i2 g2 ((a.length : Int) + 1) hc2
    have := m1 (by omega)
    refine ⟨a, a.take m.toNat, Ev.bind h1 (Ev.bind e1 (ev_bind_eq e2 (ev_if_pos c (ev_bind_eq rfl ?_)))), by omega, by rw [List.length_take]; omega, a2, bytes_take _ a2⟩
    dsimp only
    rw [w64 (by omega) (by omega)]
    refine ev_bind_eq e3 (ev_if_pos m0 (ev_if_pos (by dsimp only; omega) (ev_bind_eq rfl ?_)))
    refine ev_if_pos (by rw [List.length_nil, List.length_take]; omega) (ev_done ?_)
    rw [List.nil_append]
  · obtain ⟨t, i3, g3, e3, hc3, t1, t2⟩ := l1some_ev l i2 g2 4 (by decide) (by decide) hc2
    exact ⟨a, t, Ev.bind h1 (Ev.bind e1 (ev_bind_eq e2 (ev_if_neg c (Ev.bind e3 (Ev.now _))))), by omega, by omega, a2, t2⟩
theorem drawNumLen_ev (l : List Int) (hl : l.length ≤ 140737488351232) : ∃ n, Ev (fun k => spec_DrawNumLen.f k l) n := by
  unfold spec_DrawNumLen.f
  obtain ⟨h, h1, hc⟩ := l1New_ev l hl
  obtain ⟨n, i2, g2, e2, hc2, n0, n1⟩ := l1num_eq l 0 h hc
  exact ⟨n, Ev.bind h1 (ev_bind_eq e2 (Ev.now _))⟩
theorem prefixes_end (a b c p : List Int) (x : Int) (ha : Bytes a) (hb : Bytes b) (hc : Bytes c) (hp : Bytes p) (hcl : c.length ≤ 100) : Ev (fun k => laws_FnPrefixes.j0 k a b (lcp a b : Int) c p x false) true := by
  have hl := lcp_le a b
  have ht : hasP a (b.take (lcp a b)) = true := by
    unfold hasP
    rw [List.length_take, Nat.min_eq_left hl.2, lcp_take]
    exact decide_eq_true ⟨hl.1, rfl⟩
  have he : (hasP c p == ((lcp c p : Int) == (p.length : Int))) = true := by
    have := lcp_prefix c p
    unfold hasP
    grind
  refine Ev.step (fun k => by rw [laws_FnPrefixes.j0]) ?_
  refine ev_if_neg (by decide) (ev_if_pos (by omega) (ev_if_pos (by omega) ?_))
  rw [Int.toNat_natCast]
  refine ev_bind_eq (implHasPrefix_eq a _ ha (bytes_take _ hb)) ?_
  refine ev_if_pos ht (ev_bind_eq (implHasPrefix_eq c p hc hp) (Ev.bind (implCommon_ev c p (by omega)) ?_))
  refine ev_if_pos he (Ev.bind (implNumLen_ev x) (Ev.bind (implPutNumTop_ev [] x (by simp)) (ev_if_pos rfl (Ev.bind (implNumLen_ev 200) (ev_done ?_)))))
  rw [numLen_200]
  rfl
theorem FnPrefixes : laws_FnPrefixes.Pure := by
  intro l hm hl hw
  refine Ev.rounds ?_
  unfold laws_FnPrefixes.f
  obtain ⟨a, b, e1, a1, b1, a2, b2⟩ := drawCommon_ev l (by omega)
  obtain ⟨c, p, e2, c1, p1, c2, p2⟩ := drawHasPrefix_ev l (by omega)
  obtain ⟨x, e3⟩ := drawNumLen_ev l (by omega)
  have hn := lcp_le a b
  have hne := lcp_ne a b
  have hend := prefixes_end a b c p x a2 b2 c2 p2 (by omega)
  refine Ev.bind e1 (Ev.bind (implCommon_ev a b (by omega)) (Ev.bind e2 (Ev.bind e3 ?_)))
  dsimp only
  refine ev_if_neg (by omega) (ev_if_neg (by omega) (ev_if_pos (by omega) (ev_if_pos (by omega) (ev_if_pos (by omega) ?_))))
  have hs : laws_sameBytes.f (a.take (lcp a b : Int).toNat) (b.take (lcp a b : Int).toNat) = some true := by
    unfold laws_sameBytes.f
    rw [Int.toNat_natCast, lcp_take, str_self]
  have hr : Ev (fun k => impl_Common.f k b a) (lcp a b : Int) := by
    rw [lcp_comm a b]
    exact implCommon_ev b a (by omega)
  refine ev_bind_eq hs (ev_if_pos rfl ?_)
  have hq : ((lcp a b : Int) != (lcp a b : Int)) = false := bne_self_eq_false _
  by_cases h1 : (lcp a b : Int) < (a.length : Int)
  · refine ev_if_pos h1 ?_
    by_cases h2 : (lcp a b : Int) < (b.length : Int)
    · refine ev_if_pos h2 (ev_if_neg (by rw [rd_nat, rd_nat]; exact hne (by omega) (by omega)) (Ev.bind hr ?_))
      rw [hq]
      exact hend
    · refine ev_if_neg h2 (Ev.bind hr ?_)
      rw [hq]
      exact hend
  · refine ev_if_neg h1 (Ev.bind hr ?_)
    rw [hq]
    exact hend

end Go.Proofs.Ytjbalmbamdmfpaa.Pure
