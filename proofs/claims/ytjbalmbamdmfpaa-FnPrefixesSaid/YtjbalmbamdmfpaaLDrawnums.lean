import Derived.Test.YtjbalmbamdmfpaaPQx0
import Derived.Test.YtjbalmbamdmfpaaPQx2
import Derived.Test.YtjbalmbamdmfpaaLDraws
namespace Go.Proofs.Ytjbalmbamdmfpaa.Pure
open Go.RowKit Go.Proofs.Ytjbalmbamdmfpaa.PQ Go.Proofs.YtjbalmbamdmfpaaW.PrintWords Go.Proofs.YtjbalmbamdmfpaaW.PrintLast Go.Proofs.YtjbalmbamdmfpaaW.PrintMore
set_option linter.unusedVariables false
set_option linter.unusedSimpArgs false
theorem l1num_eq (b : List Int) (i h : Int) (hc : Cur b i) : ∃ r i' h', spec_l1num.f b i h = some (r, i', h') ∧ Cur b i' ∧ -9223372036854775808 ≤ r ∧ r ≤ 9223372036854775807 := by
  unfold spec_l1num.f
  obtain ⟨m, i1, h1, e, hc1, _⟩ := l1Below_eq b i h 6 hc
  rw [e, Option.bind_some]
  dsimp only
  by_cases c0 : m = 0
  · rw [if_pos c0]
    obtain ⟨r, i2, h2, e2, hc2, hr⟩ := l1Pick_eq b i1 h1 [0, 1, 127, 128, 16383, 16384, 2147483647, 2147483646] (by decide) hc1
    rw [e2, Option.bind_some]
    refine ⟨r, i2, h2, rfl, hc2, ?_⟩
    simp at hr
    omega
  · rw [if_neg c0]
    by_cases c1 : m = 1
    · rw [if_pos c1]
      obtain ⟨r, i2, h2, e2, hc2, hr⟩ := l1Pick_eq b i1 h1 [-1, 2147483648, 4611686018427387904, -9223372036854775808, 9223372036854775807] (by decide) hc1
      rw [e2, Option.bind_some]
      refine ⟨r, i2, h2, rfl, hc2, ?_⟩
      simp at hr
      omega
    · rw [if_neg c1]
      obtain ⟨r, i2, h2, e2, hc2, r0, r1, _⟩ := l1Below_eq b i1 h1 40000 hc1
      rw [e2, Option.bind_some]
      exact ⟨r, i2, h2, rfl, hc2, by omega, by have := r1 (by decide); omega⟩

end Go.Proofs.Ytjbalmbamdmfpaa.Pure
