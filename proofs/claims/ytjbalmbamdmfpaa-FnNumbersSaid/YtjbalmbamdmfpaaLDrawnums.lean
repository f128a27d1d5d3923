import Derived.Test.YtjbalmbamdmfpaaPBx0
import Derived.Test.YtjbalmbamdmfpaaPBx2
import Derived.Test.YtjbalmbamdmfpaaPBx4
import Derived.Test.YtjbalmbamdmfpaaLBase
import Derived.Test.YtjbalmbamdmfpaaLDraws
namespace Go.Proofs.Ytjbalmbamdmfpaa.Pure
open Go.RowKit Go.Proofs.Ytjbalmbamdmfpaa.PB Go.Proofs.YtjbalmbamdmfpaaW.PrintWords Go.Proofs.YtjbalmbamdmfpaaW.PrintLast Go.Proofs.YtjbalmbamdmfpaaW.PrintMore
set_option linter.unusedVariables false
set_option linter.unusedSimpArgs false
theorem l1num_eq (b : List Int) (i h : Int) (hc : Cur b i) : ∃ r i' h', spec_l1num.f b i h = some (r, i', h') ∧ Cur b i' ∧ -9223372036854775808 ≤ r ∧ r ≤ 9223372036854775807 := by
  unfold spec_l1num.f
  obtain ⟨m, i1, h1, e, hc1, _⟩ := l1Below_eq b i h 6 hc
  rw [e, Option.bind_some]
  dsimp only
  by_cases c0 : m = 0
  · rw [if_pos c0]
    obtain ⟨r, i2, h2, e2, hc2, hr⟩ := l1Pick_eq b i1 h1 [0, 1, 127, 128, 16383, 16384, 2147483647, 2147483646] (by decide) hc1
    rw [e2, Option.bind_some]
    refine ⟨r, i2, h2, rfl, hc2, ?_⟩
    simp at hr
    omega
  · rw [if_neg c0]
    by_cases c1 : m = 1
    · rw [if_pos c1]
      obtain ⟨r, i2, h2, e2, hc2, hr⟩ := l1Pick_eq b i1 h1 [-1, 2147483648, 4611686018427387904, -9223372036854775808, 9223372036854775807] (by decide) hc1
      rw [e2, Option.bind_some]
      refine ⟨r, i2, h2, rfl, hc2, ?_⟩
      simp at hr
      omega
    · rw [if_neg c1]
      obtain ⟨r, i2, h2, e2, hc2, r0, r1, _⟩ := l1Below_eq b i1 h1 40000 hc1
      rw [e2, Option.bind_some]
      exact ⟨r, i2, h2, rfl, hc2, by omega, by have := r1 (by decide); omega⟩
theorem xor_byte (x y : Int) : 0 ≤ Go.bits .xor .u8 x y ∧ Go.bits .xor .u8 x y ≤ 255 := by
  have h : ∀ v : Int, 0 ≤ IntKind.u8.wrap v ∧ IntKind.u8.wrap v ≤ 255 := fun v => by
    rw [IntKind.wrap_u8]
    omega
  exact h _
theorem l1spoil_eq (b : List Int) (i h : Int) (l : List Int) (hl : l.length ≤ 1000000) (hb : Bytes l) (hc : Cur b i) : ∃ r i' h', spec_l1spoil.f b i h l = some (r, i', h') ∧ Cur b i' ∧ r.length ≤ l.length + 1 ∧ Bytes r := by
  unfold spec_l1spoil.f
  rw [Option.bind_some, if_pos (by rw [List.length_nil]; omega), Option.bind_some, List.nil_append]
  by_cases c0 : (l.length : Int) = 0
  · rw [if_pos c0]
    obtain ⟨x, i1, h1, e, hc1, x0, x1⟩ := l1Byte_eq b i h hc
    rw [e, Option.bind_some, if_pos (by omega)]
    exact ⟨_, _, _, rfl, hc1, by simp, bytes_append hb (bytes_one (by omega) (by omega))⟩
  rw [if_neg c0]
  obtain ⟨m, i1, h1, e1, hc1, m0, m1, _⟩ := l1Below_eq b i h (l.length : Int) hc
  have hm := m1 (by omega)
  obtain ⟨m, rfl⟩ := Int.eq_ofNat_of_zero_le m0
  obtain ⟨q, i2, h2, e2, hc2, _⟩ := l1Below_eq b i1 h1 5 hc1
  rw [e1, Option.bind_some]
  dsimp only
  rw [e2, Option.bind_some]
  dsimp only
  by_cases q0 : q = 0
  · rw [if_pos q0, if_pos (by omega), if_pos (by omega)]
    exact ⟨_, _, _, rfl, hc2, by rw [List.length_take]; omega, bytes_take _ hb⟩
  rw [if_neg q0]
  by_cases q1 : q = 1
  · rw [if_pos q1]
    obtain ⟨x, i3, h3, e3, hc3, x0, x1⟩ := l1Byte_eq b i2 h2 hc2
    rw [e3, Option.bind_some, if_pos (by omega)]
    exact ⟨_, _, _, rfl, hc3, by simp, bytes_append hb (bytes_one (by omega) (by omega))⟩
  rw [if_neg q1]
  by_cases q2 : q = 2
  · rw [if_pos q2]
    obtain ⟨x, i3, h3, e3, hc3, x0, x1⟩ := l1Byte_eq b i2 h2 hc2
    rw [e3, Option.bind_some, if_pos (by omega), if_pos (by omega)]
    exact ⟨_, _, _, rfl, hc3, by simp, bytes_set _ hb (by omega) (by omega)⟩
  rw [if_neg q2]
  by_cases q3 : q = 3
  · rw [if_pos q3, Option.bind_some, if_pos (by omega), if_pos (by omega), Option.bind_some, if_pos (by rw [List.length_nil, List.length_take]; omega), Option.bind_some, w64 (by omega) (by omega), if_pos (by omega), if_pos (by omega), Option.bind_some,
      if_pos (by rw [List.nil_append, List.length_take, List.length_drop]; omega)]
    exact ⟨_, _, _, rfl, hc2, by rw [List.nil_append, List.length_append, List.length_take, List.length_drop]; omega, bytes_append (bytes_append bytes_nil (bytes_take _ hb)) (bytes_drop _ hb)⟩
  rw [if_neg q3, if_pos (by omega), if_pos (by omega)]
  obtain ⟨z, i3, h3, e3, hc3, z0, _⟩ := l1Below_eq b i2 h2 8 hc2
  rw [e3, Option.bind_some, if_pos z0]
  have := xor_byte (rd l (m : Int)) (shl .u8 1 z)
  exact ⟨_, _, _, rfl, hc3, by simp, bytes_set _ hb this.1 this.2⟩

end Go.Proofs.Ytjbalmbamdmfpaa.Pure
