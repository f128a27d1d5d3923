import Derived.Test.YtjbalmbamdmfpaaPQx0
import Derived.Test.YtjbalmbamdmfpaaPQx1
import Derived.Test.YtjbalmbamdmfpaaPQx2
import Derived.Test.YtjbalmbamdmfpaaLBase
import Derived.Test.YtjbalmbamdmfpaaLBytesp
import Derived.Laws.BitsLemmas
namespace Go.Proofs.Ytjbalmbamdmfpaa.Pure
open Go.RowKit Go.Proofs.Ytjbalmbamdmfpaa.PQ Go.Proofs.YtjbalmbamdmfpaaW.PrintWords Go.Proofs.YtjbalmbamdmfpaaW.PrintLast Go.Proofs.YtjbalmbamdmfpaaW.PrintMore
set_option linter.unusedVariables false
set_option linter.unusedSimpArgs false
theorem and255 (n : Int) : Go.bits .and .i64 n 255 = n % 256 := by
  have h : (BitVec.ofInt 64 255).toNat = 2 ^ 8 - 1 := by decide
  have key : (BitVec.ofInt 64 n &&& BitVec.ofInt 64 255).toNat = (n % ((2 ^ 64 : Nat) : Int)).toNat % 2 ^ 8 := by
    rw [BitVec.toNat_and, BitVec.toNat_ofInt, h, Nat.and_two_pow_sub_one_eq_mod]
  show IntKind.i64.wrap ((BitVec.ofInt 64 n &&& BitVec.ofInt 64 255).toNat : Nat) = n % 256
  rw [key, IntKind.wrap_i64]
  omega
/-- A cursor that lies in its code. -/
def Cur (b : List Int) (i : Int) : Prop := 0 ≤ i ∧ i ≤ (b.length : Int) ∧ b.length ≤ 140737488351232
theorem l1Byte_eq (b : List Int) (i h : Int) (hc : Cur b i) : ∃ r i' h', spec_l1Byte.f b i h = some (r, i', h') ∧ Cur b i' ∧ 0 ≤ r ∧ r ≤ 255 := by
  obtain ⟨h0, h1, h2⟩ := hc
  unfold spec_l1Byte.f
  simp only [and255]
  by_cases c : i < (b.length : Int)
  · rw [if_pos c, if_pos h0]
    exact ⟨_, _, _, rfl, ⟨by rw [w64 (by omega) (by omega)]; omega, by rw [w64 (by omega) (by omega)]; omega, h2⟩, by omega, by omega⟩
  · rw [if_neg c]
    exact ⟨_, _, _, rfl, ⟨h0, h1, h2⟩, by omega, by omega⟩
theorem tmod_range (x n : Int) (hx : 0 ≤ x) (hn : 0 < n) : 0 ≤ Int.tmod x n ∧ Int.tmod x n < n := by
  rw [Int.tmod_eq_emod_of_nonneg hx]
  exact ⟨Int.emod_nonneg _ (by omega), Int.emod_lt_of_pos _ hn⟩
theorem l1Below_eq (b : List Int) (i h n : Int) (hc : Cur b i) : ∃ r i' h', spec_l1Below.f b i h n = some (r, i', h') ∧ Cur b i' ∧ 0 ≤ r ∧ (0 < n → r < n) ∧ (n ≤ 0 → r = 0) := by
  unfold spec_l1Below.f
  by_cases c : n ≤ 0
  · rw [if_pos c]
    exact ⟨0, i, h, rfl, hc, by decide, fun z => z, fun _ => rfl⟩
  · rw [if_neg c]
    by_cases c2 : n ≤ 256
    · rw [if_pos c2]
      obtain ⟨r, i1, h1, e, hc1, r0, r1⟩ := l1Byte_eq b i h hc
      rw [e, Option.bind_some, if_neg (show ¬ n = 0 by omega)]
      have := tmod_range r n r0 (by omega)
      exact ⟨_, _, _, rfl, hc1, this.1, fun _ => this.2, fun z => absurd z c⟩
    · rw [if_neg c2]
      obtain ⟨r1, i1, h1, e1, hc1, a0, a1⟩ := l1Byte_eq b i h hc
      obtain ⟨r2, i2, h2, e2, hc2, b0, b1⟩ := l1Byte_eq b i1 h1 hc1
      obtain ⟨r3, i3, h3, e3, hc3, c0, c1⟩ := l1Byte_eq b i2 h2 hc2
      obtain ⟨r4, i4, h4, e4, hc4, d0, d1⟩ := l1Byte_eq b i3 h3 hc3
      rw [e1, Option.bind_some, e2, Option.bind_some, e3, Option.bind_some, e4, Option.bind_some, if_neg (show ¬ n = 0 by omega)]
      have hw : wrap64 (wrap64 (wrap64 (wrap64 (r1 * 16777216) + wrap64 (r2 * 65536)) + wrap64 (r3 * 256)) + r4) = r1 * 16777216 + r2 * 65536 + r3 * 256 + r4 := by
        unfold wrap64
        omega
      dsimp only
      rw [hw]
      have := tmod_range (r1 * 16777216 + r2 * 65536 + r3 * 256 + r4) n (by omega) (by omega)
      exact ⟨_, _, _, rfl, hc4, this.1, fun _ => this.2, fun z => absurd z c⟩
theorem l1some_loop (b : List Int) (n : Nat) (hn : n ≤ 1048576) (d : Nat) : ∀ (j : Nat) (l : List Int) (i h : Int), n - j = d → j ≤ n → l.length = j → Bytes l → Cur b i →
    ∃ r i' h', Ev (fun k => spec_l1some.l0 k l (n : Int) (j : Int) b i h) (r, i', h') ∧ Cur b i' ∧ r.length = n ∧ Bytes r := by
  induction d with
  | zero =>
    intro j l i h hd hj hl hb hc
    exact ⟨l, i, h, Ev.step (fun k => by rw [spec_l1some.l0]) (ev_if_neg (by omega) (Ev.now _)), hc, by omega, hb⟩
  | succ d ih =>
    intro j l i h hd hj hl hb hc
    obtain ⟨x, i1, h1, e, hc1, x0, x1⟩ := l1Byte_eq b i h hc
    obtain ⟨r, i2, h2, hr, hc2, hl2, hb2⟩ := ih (j + 1) (l ++ [x % 256]) i1 h1 (by omega) (by omega) (by simp; omega) (bytes_append hb (bytes_one (by omega) (by omega))) hc1
    rw [Int.natCast_add, Int.natCast_one] at hr
    refine ⟨r, i2, h2, Ev.step (fun k => by rw [spec_l1some.l0]) ?_, hc2, hl2, hb2⟩
    refine ev_if_pos (by omega) (ev_bind_eq e ?_)
    refine ev_if_pos (by omega) ?_
    rw [w64 (by omega) (by omega)]
    exact hr
theorem l1some_ev (b : List Int) (i h : Int) (m : Int) (hm0 : 0 ≤ m) (hm : m ≤ 1000000) (hc : Cur b i) : ∃ r i' h', Ev (fun k => spec_l1some.f k b i h m) (r, i', h') ∧ Cur b i' ∧ (r.length : Int) ≤ m ∧ Bytes r := by
  unfold spec_l1some.f
  rw [w64 (by omega) (by omega)]
  obtain ⟨n, i1, h1, e, hc1, n0, n1, _⟩ := l1Below_eq b i h (m + 1) hc
  have := n1 (by omega)
  obtain ⟨n, rfl⟩ := Int.eq_ofNat_of_zero_le n0
  obtain ⟨r, i2, h2, hr, hc2, hl, hb⟩ := l1some_loop b n (by omega) n 0 [] i1 h1 (by omega) (by omega) rfl bytes_nil hc1
  exact ⟨r, i2, h2, ev_bind_eq e hr, hc2, by omega, hb⟩
theorem l1New_loop (b : List Int) (hb : b.length ≤ 140737488351232) (d : Nat) : ∀ (j : Nat) (x : Int), b.length - j = d → j ≤ b.length → ∃ h, Ev (fun k => spec_l1New.l0 k b x (j : Int)) (b, 0, h) := by
  induction d with
  | zero =>
    intro j x hd hj
    exact ⟨x, Ev.step (fun k => by rw [spec_l1New.l0]) (ev_if_neg (by omega) (Ev.now _))⟩
  | succ d ih =>
    intro j x hd hj
    by_cases c : (j : Int) < 4000
    · obtain ⟨h, hr⟩ := ih (j + 1) (Go.bits .and .i64 (wrap64 ((wrap64 ((wrap64 (x * 131)) + (wrap64 (rd b (j : Int))))) + 7)) 1073741823) (by omega) (by omega)
      rw [Int.natCast_add, Int.natCast_one] at hr
      refine ⟨h, Ev.step (fun k => by rw [spec_l1New.l0]) (ev_if_pos (by omega) (ev_if_pos c (ev_if_pos (by omega) ?_)))⟩
      rw [w64 (x := (j : Int) + 1) (by omega) (by omega)]
      exact hr
    · exact ⟨x, Ev.step (fun k => by rw [spec_l1New.l0]) (ev_if_pos (by omega) (ev_if_neg c (Ev.now _)))⟩
theorem l1New_ev (b : List Int) (hb : b.length ≤ 140737488351232) : ∃ h, Ev (fun k => spec_l1New.f k b) (b, 0, h) ∧ Cur b 0 := by
  unfold spec_l1New.f
  obtain ⟨h, hr⟩ := l1New_loop b hb b.length 0 (wrap64 (36565 + (b.length : Int))) (by omega) (by omega)
  exact ⟨h, hr, by unfold Cur; omega⟩
theorem l1Once_eq (b : List Int) (i h n : Int) (hc : Cur b i) : ∃ r i' h', spec_l1Once.f b i h n = some (r, i', h') ∧ Cur b i' := by
  unfold spec_l1Once.f
  obtain ⟨r, i1, h1, e, hc1, _⟩ := l1Below_eq b i h n hc
  rw [e]
  exact ⟨_, _, _, rfl, hc1⟩
theorem l1Pick_eq (b : List Int) (i h : Int) (l : List Int) (hl : 0 < l.length) (hc : Cur b i) : ∃ r i' h', spec_l1PickInt.f b i h l = some (r, i', h') ∧ Cur b i' ∧ r ∈ l := by
  unfold spec_l1PickInt.f
  obtain ⟨r, i1, h1, e, hc1, r0, r1, _⟩ := l1Below_eq b i h (l.length : Int) hc
  have := r1 (by omega)
  obtain ⟨m, rfl⟩ := Int.eq_ofNat_of_zero_le r0
  rw [e, Option.bind_some, if_pos (by omega), if_pos (by omega)]
  refine ⟨_, _, _, rfl, hc1, ?_⟩
  dsimp only
  rw [rd_get l m (by omega)]
  exact List.getElem_mem _

end Go.Proofs.Ytjbalmbamdmfpaa.Pure
