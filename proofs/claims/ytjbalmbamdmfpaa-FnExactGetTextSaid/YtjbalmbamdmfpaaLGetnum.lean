import Derived.Test.YtjbalmbamdmfpaaPAx0
import Derived.Test.YtjbalmbamdmfpaaPAx4
import Derived.Test.YtjbalmbamdmfpaaLBase
namespace Go.Proofs.Ytjbalmbamdmfpaa.Pure
open Go.RowKit Go.Proofs.Ytjbalmbamdmfpaa.PA Go.Proofs.YtjbalmbamdmfpaaW.PrintWords Go.Proofs.YtjbalmbamdmfpaaW.PrintLast Go.Proofs.YtjbalmbamdmfpaaW.PrintMore
set_option linter.unusedVariables false
set_option linter.unusedSimpArgs false
theorem rd_byte (l : List Int) (hw : ∀ x ∈ l, (Lit.int .u8 x).wf = true) (i : Nat) (h : i < l.length) : 0 ≤ rd l (i : Int) ∧ rd l (i : Int) ≤ 255 := by
  rw [rd_get l i h]
  have hx := hw l[i] (List.getElem_mem h)
  exact wf_u8 hx
theorem specGet_step (k : Nat) (l : List Int) (a n u i b n' : Int) (h0 : 0 ≤ a + i) (h1 : a + i < (l.length : Int)) (hw : wrap64 (a + i) = a + i) (hb : rd l (a + i) = b) (hW : wrap64 b = b) (hN : wrap64 (n + wrap64 (Int.tmod b 128 * u)) = n') :
    spec_GetNum.j1 (k + 1) l a n u i true = if b < 128 then (if (b = 0 ∧ 0 < i) ∨ 2147483647 < n' then some (0, -1) else some (n', wrap64 (a + i + 1))) else spec_GetNum.l0 k l a n' (wrap64 (u * 128)) (wrap64 (i + 1)) := by
  rw [spec_GetNum.j1, if_pos rfl, hw, hb, hW, hN, if_pos h0, if_pos h1]
  by_cases c1 : b < 128
  · rw [if_pos c1, if_pos c1]
    by_cases c2 : b = 0
    · rw [if_pos c2]
      by_cases c3 : 0 < i
      · rw [if_pos c3, if_pos (.inl ⟨c2, c3⟩)]
      · rw [if_neg c3]
        by_cases c4 : 2147483647 < n'
        · rw [if_pos c4, if_pos (.inr c4)]
        · rw [if_neg c4, if_neg (fun h => h.elim (fun h => c3 h.2) c4)]
    · rw [if_neg c2]
      by_cases c4 : 2147483647 < n'
      · rw [if_pos c4, if_pos (.inr c4)]
      · rw [if_neg c4, if_neg (fun h => h.elim (fun h => c2 h.1) c4)]
  · rw [if_neg c1, if_neg c1]
theorem implGet_step (k : Nat) (l : List Int) (a n u i b n' : Int) (h0 : 0 ≤ a + i) (h1 : a + i < (l.length : Int)) (hb : rd l (a + i) = b) (hN : wrap64 (n + wrap64 (wrap64 (Int.tmod b 128) * u)) = n') :
    impl_GetNum.j1 (k + 1) l a n u (a + i) true = if b < 128 then (if (b = 0 ∧ 0 < i) ∨ 2147483647 < n' then some (0, -1) else some (n', wrap64 (a + i + 1))) else impl_GetNum.l0 k l a n' (wrap64 (u * 128)) (wrap64 (a + i + 1)) := by
  rw [impl_GetNum.j1, if_pos rfl, hb, hN, if_pos h0, if_pos h1]
  by_cases c1 : b < 128
  · rw [if_neg (show ¬ b ≥ 128 by omega), if_pos c1]
    by_cases c3 : 0 < i
    · rw [if_pos (show a + i > a by omega)]
      by_cases c2 : b = 0
      · rw [if_pos c2, if_pos (.inl ⟨c2, c3⟩)]
      · rw [if_neg c2]
        by_cases c4 : 2147483647 < n'
        · rw [if_pos c4, if_pos (.inr c4)]
        · rw [if_neg c4, if_neg (fun h => h.elim (fun h => c2 h.1) c4)]
    · rw [if_neg (show ¬ a + i > a by omega)]
      by_cases c4 : 2147483647 < n'
      · rw [if_pos c4, if_pos (.inr c4)]
      · rw [if_neg c4, if_neg (fun h => h.elim (fun h => c3 h.2) c4)]
  · rw [if_pos (show b ≥ 128 by omega), if_neg c1]
/-- One digit more, in bounds. -/
theorem digit_fits (b n u : Int) (b0 : 0 ≤ b) (b1 : b ≤ 255) (h0 : 0 ≤ n) (h1 : n < u) (hu : u ≤ 268435456) : wrap64 (n + wrap64 (b % 128 * u)) = n + b % 128 * u ∧ 0 ≤ n + b % 128 * u ∧ n + b % 128 * u < u * 128 := by
  have m0 : 0 ≤ b % 128 * u := Int.mul_nonneg (by omega) (by omega)
  have m1 : b % 128 * u ≤ 127 * u := Int.mul_le_mul_of_nonneg_right (by omega) (by omega)
  generalize b % 128 * u = m at m0 m1
  have hM : wrap64 m = m := w64 (by omega) (by omega)
  rw [hM]
  exact ⟨w64 (by omega) (by omega), by omega, by omega⟩
theorem getNum_loop (l : List Int) (hn : l.length ≤ 1048576) (hw : ∀ x ∈ l, (Lit.int .u8 x).wf = true) (at_ : Nat) (ha : at_ ≤ 1048576) (d : Nat) : ∀ (i : Nat) (n u : Int), i + d = 5 → 0 ≤ n → n < u → u * 128 ^ d = 34359738368 →
    ∃ r : Int × Int, Ev (fun k => spec_GetNum.l0 k l (at_ : Int) n u (i : Int)) r ∧ Ev (fun k => impl_GetNum.l0 k l (at_ : Int) n u ((at_ : Int) + (i : Int))) r ∧ (0 ≤ r.2 → 0 ≤ r.1 ∧ r.2 ≤ l.length) := by
  induction d with
  | zero =>
    intro i n u hi h0 h1 hu
    clear hu
    refine ⟨(0, -1), Ev.step (fun k => by rw [spec_GetNum.l0]) ?_, Ev.step (fun k => by rw [impl_GetNum.l0]) ?_, fun h => absurd h (by decide)⟩
    · refine ev_if_neg (by omega) (Ev.step (fun k => by rw [spec_GetNum.j1]) (ev_if_neg (by decide) (Ev.now _)))
    · refine ev_if_pos (by omega) ?_
      by_cases c : (at_ : Int) + (i : Int) < (l.length : Int)
      · refine ev_if_pos c (Ev.step (fun k => by rw [impl_GetNum.j1]) (ev_if_neg ?_ (Ev.now _)))
        rw [w64 (by omega) (by omega), decide_eq_false (by omega)]
        decide
      · exact ev_if_neg c (Ev.step (fun k => by rw [impl_GetNum.j1]) (ev_if_neg (by decide) (Ev.now _)))
  | succ d ih =>
    intro i n u hi h0 h1 hu
    have hU : u * 128 * 128 ^ d = 34359738368 := by rw [← hu, Int.pow_succ, Int.mul_assoc, Int.mul_comm 128]
    have hu1 : u ≤ 268435456 := by
      have hp : (1 : Int) ≤ 128 ^ d := by have := Int.pow_pos (n := 128) (m := d) (by decide); omega
      have := Int.mul_le_mul_of_nonneg_left hp (show 0 ≤ u * 128 by omega)
      omega
    clear hu
    by_cases c : (at_ : Int) + (i : Int) < (l.length : Int)
    · have hlt : at_ + i < l.length := by omega
      obtain ⟨b0, b1⟩ := rd_byte l hw (at_ + i) hlt
      rw [Int.natCast_add] at b0 b1
      generalize hb : rd l ((at_ : Int) + (i : Int)) = b at b0 b1
      obtain ⟨hN0, d0, d1⟩ := digit_fits b n u b0 b1 h0 h1 hu1
      have hN := Aside0.mk hN0
      clear hN0
      obtain ⟨r, r1, r2, r3⟩ := ih (i + 1) (n + b % 128 * u) (u * 128) (by omega) d0 d1 hU
      clear ih hU d1
      rw [Int.natCast_add, Int.natCast_one] at r1 r2
      have hT : Aside0 (Int.tmod b 128 = b % 128) := ⟨Int.tmod_eq_emod_of_nonneg b0⟩
      have hB : Aside0 (wrap64 (b % 128) = b % 128) := ⟨w64 (by omega) (by omega)⟩
      have hW : Aside0 (wrap64 b = b) := ⟨w64 (by omega) (by omega)⟩
      have hS : Aside0 (wrap64 (u * 128) = u * 128) := ⟨w64 (by omega) (by omega)⟩
      have hI : Aside0 (wrap64 ((i : Int) + 1) = (i : Int) + 1) := ⟨w64 (by omega) (by omega)⟩
      have hA : Aside0 (wrap64 ((at_ : Int) + (i : Int) + 1) = (at_ : Int) + ((i : Int) + 1)) := ⟨by rw [Int.add_assoc]; exact w64 (by omega) (by omega)⟩
      have hC : Aside0 (wrap64 ((at_ : Int) + (i : Int)) = (at_ : Int) + (i : Int)) := ⟨w64 (by omega) (by omega)⟩
      have e1 : Aside0 (decide ((i : Int) < wrap64 ((l.length : Int) - (at_ : Int))) = true) := ⟨by rw [w64 (by omega) (by omega)]; exact decide_eq_true (by omega)⟩
      have e2 : Aside0 (decide ((at_ : Int) + (i : Int) < wrap64 ((at_ : Int) + 5)) = true) := ⟨by rw [w64 (by omega) (by omega)]; exact decide_eq_true (by omega)⟩
      have g0 : 0 ≤ (at_ : Int) + (i : Int) := by omega
      have g1 : (i : Int) < 5 := by omega
      have s1 := fun k => specGet_step k l (at_ : Int) n u (i : Int) b (n + b % 128 * u) g0 c hC.out hb hW.out (by rw [hT.out]; exact hN.out)
      have s2 := fun k => implGet_step k l (at_ : Int) n u (i : Int) b (n + b % 128 * u) g0 c hb (by rw [hT.out, hB.out]; exact hN.out)
      rw [hS.out, hI.out, hA.out] at s1
      rw [hS.out, hA.out] at s2
      have g2 : (at_ : Int) + ((i : Int) + 1) ≤ (l.length : Int) := by omega
      have key : ∃ r : Int × Int, Ev (fun k => spec_GetNum.j1 k l (at_ : Int) n u (i : Int) true) r ∧ Ev (fun k => impl_GetNum.j1 k l (at_ : Int) n u ((at_ : Int) + (i : Int)) true) r ∧ (0 ≤ r.2 → 0 ≤ r.1 ∧ r.2 ≤ l.length) := by
        by_cases c1 : b < 128
        · by_cases c2 : (b = 0 ∧ 0 < (i : Int)) ∨ 2147483647 < n + b % 128 * u
          · exact ⟨_, Ev.step s1 (ev_if_pos c1 (ev_if_pos c2 (Ev.now _))), Ev.step s2 (ev_if_pos c1 (ev_if_pos c2 (Ev.now _))), fun h => absurd h (by decide)⟩
          · exact ⟨_, Ev.step s1 (ev_if_pos c1 (ev_if_neg c2 (Ev.now _))), Ev.step s2 (ev_if_pos c1 (ev_if_neg c2 (Ev.now _))), fun _ => ⟨d0, g2⟩⟩
        · exact ⟨r, Ev.step s1 (ev_if_neg c1 r1), Ev.step s2 (ev_if_neg c1 r2), r3⟩
      obtain ⟨r, r1, r2, r3⟩ := key
      refine ⟨r, Ev.step (fun k => by rw [spec_GetNum.l0, e1.out]) ?_, Ev.step (fun k => by rw [impl_GetNum.l0, e2.out]) ?_, r3⟩
      · exact ev_if_pos g1 r1
      · exact ev_if_pos g0 (ev_if_pos c r2)
    · clear ih hU
      have e1 : decide ((i : Int) < wrap64 ((l.length : Int) - (at_ : Int))) = false := by rw [w64 (by omega) (by omega)]; exact decide_eq_false (by omega)
      refine ⟨(0, -1), Ev.step (fun k => by rw [spec_GetNum.l0, e1]) ?_, Ev.step (fun k => by rw [impl_GetNum.l0]) ?_, fun h => absurd h (by decide)⟩
      · exact ev_if_pos (by omega) (Ev.step (fun k => by rw [spec_GetNum.j1]) (ev_if_neg (by decide) (Ev.now _)))
      · exact ev_if_pos (by omega) (ev_if_neg c (Ev.step (fun k => by rw [impl_GetNum.j1]) (ev_if_neg (by decide) (Ev.now _))))
theorem getNum_range (l : List Int) (hn : l.length ≤ 1048576) (hw : ∀ x ∈ l, (Lit.int .u8 x).wf = true) (a : Int) (h0 : -9223372036854775808 ≤ a) (h1 : a ≤ 9223372036854775807) :
    ∃ r : Int × Int, Ev (fun k => spec_GetNum.f k l a) r ∧ Ev (fun k => impl_GetNum.f k l a) r ∧ (0 ≤ r.2 → 0 ≤ r.1 ∧ r.2 ≤ l.length) := by
  unfold spec_GetNum.f impl_GetNum.f
  by_cases c0 : a < 0
  · refine ⟨(0, -1), ev_if_pos c0 (Ev.now _), Ev.step (fun k => by rw [impl_GetNum.l0]) ?_, fun h => absurd h (by decide)⟩
    exact ev_if_neg (by omega) (Ev.step (fun k => by rw [impl_GetNum.j1]) (ev_if_neg (by decide) (Ev.now _)))
  · obtain ⟨m, rfl⟩ := Int.eq_ofNat_of_zero_le (show 0 ≤ a by omega)
    by_cases c1 : m ≤ 1048576
    · obtain ⟨r, r1, r2, r3⟩ := getNum_loop l hn hw m c1 5 0 0 1 rfl (by decide) (by decide) (by decide)
      refine ⟨r, ev_if_neg c0 r1, ?_, r3⟩
      simp only [Int.natCast_zero, Int.add_zero] at r2
      exact r2
    · refine ⟨(0, -1), ev_if_neg c0 (Ev.step (fun k => by rw [spec_GetNum.l0]) ?_), Ev.step (fun k => by rw [impl_GetNum.l0]) ?_, fun h => absurd h (by decide)⟩
      · refine ev_if_pos (by omega) (Ev.step (fun k => by rw [spec_GetNum.j1]) (ev_if_neg ?_ (Ev.now _)))
        rw [w64 (by omega) (by omega), decide_eq_false (by omega)]
        decide
      · refine ev_if_pos (by omega) (ev_if_neg (by omega) (Ev.step (fun k => by rw [impl_GetNum.j1]) (ev_if_neg (by decide) (Ev.now _))))
theorem getNum_eq (l : List Int) (hn : l.length ≤ 1048576) (hw : ∀ x ∈ l, (Lit.int .u8 x).wf = true) (a : Int) (h0 : -9223372036854775808 ≤ a) (h1 : a ≤ 9223372036854775807) :
    ∃ r, Ev (fun k => spec_GetNum.f k l a) r ∧ Ev (fun k => impl_GetNum.f k l a) r := by
  obtain ⟨r, r1, r2, _⟩ := getNum_range l hn hw a h0 h1
  exact ⟨r, r1, r2⟩

end Go.Proofs.Ytjbalmbamdmfpaa.Pure
