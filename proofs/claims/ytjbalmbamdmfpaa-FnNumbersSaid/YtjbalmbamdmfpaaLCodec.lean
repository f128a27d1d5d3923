import Derived.Test.YtjbalmbamdmfpaaPBx0
import Derived.Test.YtjbalmbamdmfpaaPBx2
import Derived.Test.YtjbalmbamdmfpaaLBase
import Derived.Test.YtjbalmbamdmfpaaLDraws
import Derived.Test.YtjbalmbamdmfpaaLGetstep
import Derived.Test.YtjbalmbamdmfpaaLPutnum
namespace Go.Proofs.Ytjbalmbamdmfpaa.Pure
open Go.RowKit Go.Proofs.Ytjbalmbamdmfpaa.PB Go.Proofs.YtjbalmbamdmfpaaW.PrintWords Go.Proofs.YtjbalmbamdmfpaaW.PrintLast Go.Proofs.YtjbalmbamdmfpaaW.PrintMore
set_option linter.unusedVariables false
set_option linter.unusedSimpArgs false
theorem encNum_bytes (n : Nat) : Bytes (encNum n) := by
  induction n using Nat.strongRecOn with
  | _ n ih =>
    by_cases c : n < 128
    · rw [encNum_small c]
      exact bytes_one (by omega) (by omega)
    · rw [encNum_big c, ← List.singleton_append]
      exact bytes_append (bytes_one (by omega) (by omega)) (ih _ (by omega))
/-- Written, then read. -/
theorem getEnc_loop (l : List Int) (hn : l.length ≤ 1048576) (at_ : Nat) (ha : at_ ≤ 1048576) (d : Nat) : ∀ (i q : Nat) (n u : Int) (rest : List Int), i + d = 5 → 0 ≤ n → n < u → u * 128 ^ d = 34359738368 → n + u * q ≤ 2147483647 → (q = 0 → i = 0) → l.drop (at_ + i) = encNum q ++ rest → at_ + i + (encNum q).length + rest.length = l.length →
    Ev (fun k => impl_GetNum.l0 k l (at_ : Int) n u ((at_ : Int) + (i : Int))) (n + u * q, (at_ : Int) + (i : Int) + ((encNum q).length : Int)) := by
  induction d with
  | zero =>
    intro i q n u rest hi h0 h1 hu hq hz hl hlen
    rw [Int.pow_zero, Int.mul_one] at hu
    subst hu
    have := hz (by omega)
    omega
  | succ d ih =>
    intro i q n u rest hi h0 h1 hu hq hz hl hlen
    have hU : u * 128 * 128 ^ d = 34359738368 := by rw [← hu, Int.pow_succ, Int.mul_assoc, Int.mul_comm 128]
    have hu1 : u ≤ 268435456 := by
      have hp : (1 : Int) ≤ 128 ^ d := by have := Int.pow_pos (n := 128) (m := d) (by decide); omega
      have := Int.mul_le_mul_of_nonneg_left hp (show 0 ≤ u * 128 by omega)
      omega
    clear hu
    have step : ∀ (b : Int), rd l ((at_ : Int) + (i : Int)) = b → 0 ≤ b → b ≤ 255 → at_ + i < l.length → ∀ r, Ev (fun k => if b < 128 then (if (b = 0 ∧ 0 < (i : Int)) ∨ 2147483647 < n + b % 128 * u then some (0, -1) else some (n + b % 128 * u, (at_ : Int) + ((i : Int) + 1))) else impl_GetNum.l0 k l (at_ : Int) (n + b % 128 * u) (u * 128) ((at_ : Int) + ((i : Int) + 1))) r →
        Ev (fun k => impl_GetNum.l0 k l (at_ : Int) n u ((at_ : Int) + (i : Int))) r := by
      intro b hb b0 b1 hlt r hr
      obtain ⟨hN0, _, _⟩ := digit_fits b n u b0 b1 h0 h1 hu1
      have hN := Aside0.mk hN0
      clear hN0
      have hT : Aside0 (Int.tmod b 128 = b % 128) := ⟨Int.tmod_eq_emod_of_nonneg b0⟩
      have hB : Aside0 (wrap64 (b % 128) = b % 128) := ⟨w64 (by omega) (by omega)⟩
      have hS : Aside0 (wrap64 (u * 128) = u * 128) := ⟨w64 (by omega) (by omega)⟩
      have hA : Aside0 (wrap64 ((at_ : Int) + (i : Int) + 1) = (at_ : Int) + ((i : Int) + 1)) := ⟨by rw [Int.add_assoc]; exact w64 (by omega) (by omega)⟩
      have e2 : Aside0 (decide ((at_ : Int) + (i : Int) < wrap64 ((at_ : Int) + 5)) = true) := ⟨by rw [w64 (by omega) (by omega)]; exact decide_eq_true (by omega)⟩
      have g0 : 0 ≤ (at_ : Int) + (i : Int) := by omega
      have g1 : (at_ : Int) + (i : Int) < (l.length : Int) := by omega
      have s2 := fun k => implGet_step k l (at_ : Int) n u (i : Int) b (n + b % 128 * u) g0 g1 hb (by rw [hT.out, hB.out]; exact hN.out)
      rw [hS.out, hA.out] at s2
      refine Ev.step (fun k => by rw [impl_GetNum.l0, e2.out]) ?_
      exact ev_if_pos g0 (ev_if_pos g1 (Ev.step s2 hr))
    by_cases c : q < 128
    · rw [encNum_small c] at hl hlen ⊢
      have hlt : at_ + i < l.length := by simp at hlen; omega
      have hb : rd l ((at_ : Int) + (i : Int)) = (q : Int) := by
        rw [← Int.natCast_add, rd_get l (at_ + i) hlt]
        have := congrArg (fun z => z[0]?) hl
        simpa [List.getElem?_eq_getElem hlt] using this
      refine step q hb (by omega) (by omega) hlt _ (ev_if_pos (by omega) ?_)
      rw [show (q : Int) % 128 = q by omega, Int.mul_comm (q : Int) u]
      refine ev_if_neg (by omega) (ev_done ?_)
      rw [List.length_singleton, Int.add_assoc]
      rfl
    · rw [encNum_big c] at hl hlen ⊢
      have hlt : at_ + i < l.length := by simp at hlen; omega
      have hb : rd l ((at_ : Int) + (i : Int)) = ((q % 128 + 128 : Nat) : Int) := by
        rw [← Int.natCast_add, rd_get l (at_ + i) hlt]
        have := congrArg (fun z => z[0]?) hl
        simpa [List.getElem?_eq_getElem hlt] using this
      refine step _ hb (by omega) (by omega) hlt _ (ev_if_neg (by omega) ?_)
      have hm : ((q % 128 + 128 : Nat) : Int) % 128 = ((q % 128 : Nat) : Int) := by omega
      rw [hm]
      have hqe : u * 128 * ((q / 128 : Nat) : Int) = u * (q : Int) - ((q % 128 : Nat) : Int) * u := by
        rw [Int.mul_assoc, show (128 : Int) * ((q / 128 : Nat) : Int) = (q : Int) - ((q % 128 : Nat) : Int) by omega, Int.mul_sub, Int.mul_comm ((q % 128 : Nat) : Int) u]
      have m0 : 0 ≤ ((q % 128 : Nat) : Int) * u := Int.mul_nonneg (by omega) (by omega)
      have m1 : ((q % 128 : Nat) : Int) * u ≤ 127 * u := Int.mul_le_mul_of_nonneg_right (by omega) (by omega)
      have h := ih (i + 1) (q / 128) (n + ((q % 128 : Nat) : Int) * u) (u * 128) rest (by omega) (by omega) (by omega) hU (by rw [hqe]; omega) (by omega) (by
        rw [← Nat.add_assoc, ← List.drop_drop, hl]
        rfl) (by simp at hlen; omega)
      rw [hqe, Int.natCast_add, Int.natCast_one] at h
      refine ev_of h ?_
      rw [List.length_cons]
      congr 1
      · omega
      · omega
/-- Read: just what is written. -/
theorem getDec_loop (l : List Int) (hn : l.length ≤ 1048576) (hw : ∀ x ∈ l, (Lit.int .u8 x).wf = true) (at_ : Nat) (ha : at_ ≤ 1048576) (d : Nat) : ∀ (i : Nat) (n u : Int), i + d = 5 → 0 ≤ n → n < u → u * 128 ^ d = 34359738368 →
    ∃ r : Int × Int, Ev (fun k => impl_GetNum.l0 k l (at_ : Int) n u ((at_ : Int) + (i : Int))) r ∧ (0 ≤ r.2 → ∃ q : Nat, r.1 = n + u * q ∧ r.1 ≤ 2147483647 ∧ (q = 0 → i = 0) ∧ r.2 ≤ l.length ∧ (at_ : Int) + i ≤ r.2 ∧ l.take r.2.toNat = l.take (at_ + i) ++ encNum q) := by
  induction d with
  | zero =>
    intro i n u hi h0 h1 hu
    clear hu
    refine ⟨(0, -1), Ev.step (fun k => by rw [impl_GetNum.l0]) ?_, fun h => absurd h (by decide)⟩
    refine ev_if_pos (by omega) ?_
    by_cases c : (at_ : Int) + (i : Int) < (l.length : Int)
    · refine ev_if_pos c (Ev.step (fun k => by rw [impl_GetNum.j1]) (ev_if_neg ?_ (Ev.now _)))
      rw [w64 (by omega) (by omega), decide_eq_false (by omega)]
      decide
    · exact ev_if_neg c (Ev.step (fun k => by rw [impl_GetNum.j1]) (ev_if_neg (by decide) (Ev.now _)))
  | succ d ih =>
    intro i n u hi h0 h1 hu
    have hU : u * 128 * 128 ^ d = 34359738368 := by rw [← hu, Int.pow_succ, Int.mul_assoc, Int.mul_comm 128]
    have hu1 : u ≤ 268435456 := by
      have hp : (1 : Int) ≤ 128 ^ d := by have := Int.pow_pos (n := 128) (m := d) (by decide); omega
      have := Int.mul_le_mul_of_nonneg_left hp (show 0 ≤ u * 128 by omega)
      omega
    clear hu
    by_cases c : (at_ : Int) + (i : Int) < (l.length : Int)
    · have hlt : at_ + i < l.length := by omega
      obtain ⟨b0, b1⟩ := rd_byte l hw (at_ + i) hlt
      have hbg := rd_get l (at_ + i) hlt
      rw [Int.natCast_add] at b0 b1 hbg
      generalize hb : rd l ((at_ : Int) + (i : Int)) = b at b0 b1 hbg
      have ht : l.take (at_ + i + 1) = l.take (at_ + i) ++ [b] := by rw [List.take_succ_eq_append_getElem hlt, hbg]
      obtain ⟨hN0, d0, d1⟩ := digit_fits b n u b0 b1 h0 h1 hu1
      have hN := Aside0.mk hN0
      clear hN0
      obtain ⟨r, r2, r3⟩ := ih (i + 1) (n + b % 128 * u) (u * 128) (by omega) d0 d1 hU
      clear ih hU d1
      rw [Int.natCast_add, Int.natCast_one] at r2
      have hT : Aside0 (Int.tmod b 128 = b % 128) := ⟨Int.tmod_eq_emod_of_nonneg b0⟩
      have hB : Aside0 (wrap64 (b % 128) = b % 128) := ⟨w64 (by omega) (by omega)⟩
      have hS : Aside0 (wrap64 (u * 128) = u * 128) := ⟨w64 (by omega) (by omega)⟩
      have hA : Aside0 (wrap64 ((at_ : Int) + (i : Int) + 1) = (at_ : Int) + ((i : Int) + 1)) := ⟨by rw [Int.add_assoc]; exact w64 (by omega) (by omega)⟩
      have e2 : Aside0 (decide ((at_ : Int) + (i : Int) < wrap64 ((at_ : Int) + 5)) = true) := ⟨by rw [w64 (by omega) (by omega)]; exact decide_eq_true (by omega)⟩
      have g0 : 0 ≤ (at_ : Int) + (i : Int) := by omega
      have s2 := fun k => implGet_step k l (at_ : Int) n u (i : Int) b (n + b % 128 * u) g0 c hb (by rw [hT.out, hB.out]; exact hN.out)
      rw [hS.out, hA.out] at s2
      have key : ∃ r : Int × Int, Ev (fun k => impl_GetNum.j1 k l (at_ : Int) n u ((at_ : Int) + (i : Int)) true) r ∧ (0 ≤ r.2 → ∃ q : Nat, r.1 = n + u * q ∧ r.1 ≤ 2147483647 ∧ (q = 0 → i = 0) ∧ r.2 ≤ l.length ∧ (at_ : Int) + i ≤ r.2 ∧ l.take r.2.toNat = l.take (at_ + i) ++ encNum q) := by
        by_cases c1 : b < 128
        · by_cases c2 : (b = 0 ∧ 0 < (i : Int)) ∨ 2147483647 < n + b % 128 * u
          · exact ⟨_, Ev.step s2 (ev_if_pos c1 (ev_if_pos c2 (Ev.now _))), fun h => absurd h (by decide)⟩
          · refine ⟨_, Ev.step s2 (ev_if_pos c1 (ev_if_neg c2 (Ev.now _))), fun _ => ⟨b.toNat, ?_, by omega, by omega, by omega, by omega, ?_⟩⟩
            · show n + b % 128 * u = n + u * (b.toNat : Int)
              rw [show b % 128 = b by omega, show (b.toNat : Int) = b by omega, Int.mul_comm]
            · rw [encNum_small (by omega), show (b.toNat : Int) = b by omega, ← ht]
              rfl
        · refine ⟨r, Ev.step s2 (ev_if_neg c1 r2), fun h => ?_⟩
          obtain ⟨q, q1, q2, q3, q4, q5, q6⟩ := r3 h
          have hqz : 1 ≤ q := by
            rcases Nat.eq_zero_or_pos q with z | z
            · exact absurd (q3 z) (by omega)
            · exact z
          clear q3
          refine ⟨b.toNat - 128 + 128 * q, ?_, q2, by omega, q4, by omega, ?_⟩
          · rw [q1, show ((b.toNat - 128 + 128 * q : Nat) : Int) = b % 128 + 128 * (q : Int) by omega, Int.mul_add, Int.mul_assoc, Int.mul_comm u (b % 128), Int.add_assoc]
          · rw [q6, encNum_big (n := b.toNat - 128 + 128 * q) (by omega), show (b.toNat - 128 + 128 * q) / 128 = q by omega, show (((b.toNat - 128 + 128 * q) % 128 + 128 : Nat) : Int) = b by omega, ← Nat.add_assoc, ht, List.append_assoc, List.singleton_append]
      obtain ⟨r, r2, r3⟩ := key
      refine ⟨r, Ev.step (fun k => by rw [impl_GetNum.l0, e2.out]) ?_, r3⟩
      exact ev_if_pos g0 (ev_if_pos c r2)
    · clear ih hU
      refine ⟨(0, -1), Ev.step (fun k => by rw [impl_GetNum.l0]) ?_, fun h => absurd h (by decide)⟩
      exact ev_if_pos (by omega) (ev_if_neg c (Ev.step (fun k => by rw [impl_GetNum.j1]) (ev_if_neg (by decide) (Ev.now _))))
theorem getNum_enc (p : List Int) (m : Nat) (rest : List Int) (hm : m ≤ 2147483647) (hn : (p ++ encNum m ++ rest).length ≤ 1048576) : Ev (fun k => impl_GetNum.f k (p ++ encNum m ++ rest) (p.length : Int)) ((m : Int), ((p ++ encNum m).length : Int)) := by
  have hlen : p.length + (encNum m).length + rest.length = (p ++ encNum m ++ rest).length := by simp; omega
  have h := getEnc_loop (p ++ encNum m ++ rest) hn p.length (by omega) 5 0 m 0 1 rest rfl (by decide) (by decide) (by decide) (by omega) (fun _ => rfl) (by rw [Nat.add_zero, List.append_assoc, List.drop_left]) (by omega)
  unfold impl_GetNum.f
  simp only [Int.natCast_zero, Int.add_zero, Int.zero_add, Int.one_mul] at h
  refine ev_of h ?_
  rw [List.length_append]
  congr 1
theorem getNum_dec (l : List Int) (hn : l.length ≤ 1048576) (hw : ∀ x ∈ l, (Lit.int .u8 x).wf = true) (a : Int) (h0 : -9223372036854775808 ≤ a) (h1 : a ≤ 9223372036854775807) :
    ∃ r : Int × Int, Ev (fun k => impl_GetNum.f k l a) r ∧ (0 ≤ r.2 → ∃ m : Nat, r.1 = m ∧ m ≤ 2147483647 ∧ 0 ≤ a ∧ a ≤ r.2 ∧ r.2 ≤ l.length ∧ l.take r.2.toNat = l.take a.toNat ++ encNum m) := by
  unfold impl_GetNum.f
  by_cases c0 : a < 0
  · refine ⟨(0, -1), Ev.step (fun k => by rw [impl_GetNum.l0]) ?_, fun h => absurd h (by decide)⟩
    exact ev_if_neg (by omega) (Ev.step (fun k => by rw [impl_GetNum.j1]) (ev_if_neg (by decide) (Ev.now _)))
  · obtain ⟨m, rfl⟩ := Int.eq_ofNat_of_zero_le (show 0 ≤ a by omega)
    by_cases c1 : m ≤ 1048576
    · obtain ⟨r, r2, r3⟩ := getDec_loop l hn hw m c1 5 0 0 1 rfl (by decide) (by decide) (by decide)
      simp only [Int.natCast_zero, Int.add_zero] at r2
      refine ⟨r, r2, fun h => ?_⟩
      obtain ⟨q, q1, q2, _, q4, q5, q6⟩ := r3 h
      exact ⟨q, by omega, by omega, by omega, by omega, q4, by simpa using q6⟩
    · refine ⟨(0, -1), Ev.step (fun k => by rw [impl_GetNum.l0]) ?_, fun h => absurd h (by decide)⟩
      exact ev_if_pos (by omega) (ev_if_neg (by omega) (Ev.step (fun k => by rw [impl_GetNum.j1]) (ev_if_neg (by decide) (Ev.now _))))

end Go.Proofs.Ytjbalmbamdmfpaa.Pure
