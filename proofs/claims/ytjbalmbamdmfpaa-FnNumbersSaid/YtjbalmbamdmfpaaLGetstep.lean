import Derived.Test.YtjbalmbamdmfpaaPBx0
import Derived.Test.YtjbalmbamdmfpaaPBx2
import Derived.Test.YtjbalmbamdmfpaaLBase
namespace Go.Proofs.Ytjbalmbamdmfpaa.Pure
open Go.RowKit Go.Proofs.Ytjbalmbamdmfpaa.PB Go.Proofs.YtjbalmbamdmfpaaW.PrintWords Go.Proofs.YtjbalmbamdmfpaaW.PrintLast Go.Proofs.YtjbalmbamdmfpaaW.PrintMore
set_option linter.unusedVariables false
set_option linter.unusedSimpArgs false
theorem rd_byte (l : List Int) (hw : ∀ x ∈ l, (Lit.int .u8 x).wf = true) (i : Nat) (h : i < l.length) : 0 ≤ rd l (i : Int) ∧ rd l (i : Int) ≤ 255 := by
  rw [rd_get l i h]
  have hx := hw l[i] (List.getElem_mem h)
  exact wf_u8 hx
theorem implGet_step (k : Nat) (l : List Int) (a n u i b n' : Int) (h0 : 0 ≤ a + i) (h1 : a + i < (l.length : Int)) (hb : rd l (a + i) = b) (hN : wrap64 (n + wrap64 (wrap64 (Int.tmod b 128) * u)) = n') :
    impl_GetNum.j1 (k + 1) l a n u (a + i) true = if b < 128 then (if (b = 0 ∧ 0 < i) ∨ 2147483647 < n' then some (0, -1) else some (n', wrap64 (a + i + 1))) else impl_GetNum.l0 k l a n' (wrap64 (u * 128)) (wrap64 (a + i + 1)) := by
  rw [impl_GetNum.j1, if_pos rfl, hb, hN, if_pos h0, if_pos h1]
  by_cases c1 : b < 128
  · rw [if_neg (show ¬ b ≥ 128 by omega), if_pos c1]
    by_cases c3 : 0 < i
    · rw [if_pos (show a + i > a by omega)]
      by_cases c2 : b = 0
      · rw [if_pos c2, if_pos (.inl ⟨c2, c3⟩)]
      · rw [if_neg c2]
        by_cases c4 : 2147483647 < n'
        · rw [if_pos c4, if_pos (.inr c4)]
        · rw [if_neg c4, if_neg (fun h => h.elim (fun h => c2 h.1) c4)]
    · rw [if_neg (show ¬ a + i > a by omega)]
      by_cases c4 : 2147483647 < n'
      · rw [if_pos c4, if_pos (.inr c4)]
      · rw [if_neg c4, if_neg (fun h => h.elim (fun h => c3 h.2) c4)]
  · rw [if_pos (show b ≥ 128 by omega), if_neg c1]
/-- One digit more, in bounds. -/
theorem digit_fits (b n u : Int) (b0 : 0 ≤ b) (b1 : b ≤ 255) (h0 : 0 ≤ n) (h1 : n < u) (hu : u ≤ 268435456) : wrap64 (n + wrap64 (b % 128 * u)) = n + b % 128 * u ∧ 0 ≤ n + b % 128 * u ∧ n + b % 128 * u < u * 128 := by
  have m0 : 0 ≤ b % 128 * u := Int.mul_nonneg (by omega) (by omega)
  have m1 : b % 128 * u ≤ 127 * u := Int.mul_le_mul_of_nonneg_right (by omega) (by omega)
  generalize b % 128 * u = m at m0 m1
  have hM : wrap64 m = m := w64 (by omega) (by omega)
  rw [hM]
  exact ⟨w64 (by omega) (by omega), by omega, by omega⟩

end Go.Proofs.Ytjbalmbamdmfpaa.Pure
