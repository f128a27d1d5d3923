import Derived.Test.YtjbalmbamdmfpaaPQx0
import Derived.Test.YtjbalmbamdmfpaaPQx1
import Derived.Test.YtjbalmbamdmfpaaLBase
namespace Go.Proofs.Ytjbalmbamdmfpaa.Pure
open Go.RowKit Go.Proofs.Ytjbalmbamdmfpaa.PQ Go.Proofs.YtjbalmbamdmfpaaW.PrintWords Go.Proofs.YtjbalmbamdmfpaaW.PrintLast Go.Proofs.YtjbalmbamdmfpaaW.PrintMore
set_option linter.unusedVariables false
set_option linter.unusedSimpArgs false
def lcp : List Int → List Int → Nat
  | x :: a, y :: b => if x = y then lcp a b + 1 else 0
  | _, _ => 0
theorem lcp_le : ∀ a b : List Int, lcp a b ≤ a.length ∧ lcp a b ≤ b.length
  | [], b => by simp [lcp]
  | _ :: _, [] => by simp [lcp]
  | x :: a, y :: b => by
    have := lcp_le a b
    unfold lcp
    split
    · simp; omega
    · simp
theorem lcp_comm : ∀ a b : List Int, lcp a b = lcp b a
  | [], [] => rfl
  | [], _ :: _ => rfl
  | _ :: _, [] => rfl
  | x :: a, y :: b => by
    have := lcp_comm a b
    unfold lcp
    by_cases h : x = y
    · rw [if_pos h, if_pos h.symm, this]
    · rw [if_neg h, if_neg (fun z => h z.symm)]
theorem lcp_take : ∀ a b : List Int, a.take (lcp a b) = b.take (lcp a b)
  | [], b => by simp [lcp]
  | _ :: _, [] => by simp [lcp]
  | x :: a, y :: b => by
    have := lcp_take a b
    unfold lcp
    by_cases h : x = y
    · rw [if_pos h, List.take_succ_cons, List.take_succ_cons, this, h]
    · rw [if_neg h]
      simp
theorem lcp_ne : ∀ a b : List Int, lcp a b < a.length → lcp a b < b.length → a.getD (lcp a b) 0 ≠ b.getD (lcp a b) 0
  | [], b => by simp
  | _ :: _, [] => by simp
  | x :: a, y :: b => by
    have ih := lcp_ne a b
    unfold lcp
    by_cases h : x = y
    · rw [if_pos h]
      intro h1 h2
      simp only [List.length_cons] at h1 h2
      simpa using ih (by omega) (by omega)
    · rw [if_neg h]
      intro _ _
      simpa using h
theorem lcp_prefix : ∀ c p : List Int, (lcp c p = p.length) ↔ (p.length ≤ c.length ∧ c.take p.length = p)
  | [], [] => by simp [lcp]
  | [], y :: p => by simp [lcp]
  | x :: c, [] => by simp [lcp]
  | x :: c, y :: p => by
    have ih := lcp_prefix c p
    unfold lcp
    by_cases h : x = y
    · rw [if_pos h, List.length_cons, List.length_cons, List.take_succ_cons, h]
      constructor
      · intro z
        obtain ⟨z1, z2⟩ := ih.1 (by omega)
        exact ⟨by omega, by rw [z2]⟩
      · intro ⟨z1, z2⟩
        have := ih.2 ⟨by omega, by simpa using z2⟩
        omega
    · rw [if_neg h]
      constructor
      · intro z
        simp at z
      · intro ⟨z1, z2⟩
        rw [List.length_cons, List.take_succ_cons] at z2
        simp at z2
        exact absurd z2.1 h
theorem lcp_drop (a b : List Int) (i : Nat) (hi : i < a.length) (hj : i < b.length) (h : a[i] = b[i]) : lcp (a.drop i) (b.drop i) = lcp (a.drop (i + 1)) (b.drop (i + 1)) + 1 := by
  rw [List.drop_eq_getElem_cons hi, List.drop_eq_getElem_cons hj, lcp, if_pos h]
theorem implCommon_loop (a b : List Int) (hn : a.length ≤ 140737488351232) (d : Nat) : ∀ (i : Nat), i ≤ a.length → a.length - i = d → Ev (fun k => impl_Common.l0 k a b (i : Int)) ((i : Int) + (lcp (a.drop i) (b.drop i) : Int)) := by
  induction d with
  | zero =>
    intro i hi hd
    refine Ev.step (fun k => by rw [impl_Common.l0]) ?_
    refine ev_if_neg (by omega) (ev_done ?_)
    rw [List.drop_of_length_le (by omega)]
    simp [lcp]
  | succ d ih =>
    intro i hi hd
    refine Ev.step (fun k => by rw [impl_Common.l0]) ?_
    refine ev_if_pos (by omega) ?_
    by_cases hb : (i : Int) < (b.length : Int)
    · refine ev_if_pos hb (ev_if_pos (by omega) ?_)
      by_cases e : rd a (i : Int) = rd b (i : Int)
      · refine ev_if_pos e ?_
        have h := ih (i + 1) (by omega) (by omega)
        rw [w64 (by omega) (by omega)]
        rw [rd_get a i (by omega), rd_get b i (by omega)] at e
        rw [lcp_drop a b i (by omega) (by omega) e]
        rw [Int.natCast_add, Int.natCast_one] at h ⊢
        refine ev_of h (by omega)
      · refine ev_if_neg e (ev_done ?_)
        rw [rd_get a i (by omega), rd_get b i (by omega)] at e
        rw [List.drop_eq_getElem_cons (show i < a.length by omega), List.drop_eq_getElem_cons (show i < b.length by omega), lcp, if_neg e]
        simp
    · refine ev_if_neg hb (ev_done ?_)
      rw [List.drop_of_length_le (l := b) (by omega)]
      cases a.drop i <;> simp [lcp]
theorem implCommon_ev (a b : List Int) (hn : a.length ≤ 140737488351232) : Ev (fun k => impl_Common.f k a b) (lcp a b : Int) := by
  have h := implCommon_loop a b hn a.length 0 (by omega) (by omega)
  unfold impl_Common.f
  simp only [Int.natCast_zero, Int.zero_add, List.drop_zero] at h
  exact h

end Go.Proofs.Ytjbalmbamdmfpaa.Pure
