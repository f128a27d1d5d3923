import Derived.Test.YtjbalmbamdmfpaaPQx0
import Derived.Test.YtjbalmbamdmfpaaPQx1
import Derived.Test.YtjbalmbamdmfpaaLBase
namespace Go.Proofs.Ytjbalmbamdmfpaa.Pure
open Go.RowKit Go.Proofs.Ytjbalmbamdmfpaa.PQ Go.Proofs.YtjbalmbamdmfpaaW.PrintWords Go.Proofs.YtjbalmbamdmfpaaW.PrintLast Go.Proofs.YtjbalmbamdmfpaaW.PrintMore
set_option linter.unusedVariables false
set_option linter.unusedSimpArgs false
/-- A number's bytes: seven bits each, the lowest first; all but the last are raised by 128. -/
def encNum (n : Nat) : List Int := if n < 128 then [(n : Int)] else ((n % 128 + 128 : Nat) : Int) :: encNum (n / 128)
  termination_by n
  decreasing_by omega
theorem encNum_small {n : Nat} (h : n < 128) : encNum n = [(n : Int)] := by rw [encNum, if_pos h]
theorem encNum_big {n : Nat} (h : ¬ n < 128) : encNum n = ((n % 128 + 128 : Nat) : Int) :: encNum (n / 128) := by rw [encNum, if_neg h]
theorem encNum_length (d : Nat) : ∀ n : Nat, n < 128 ^ (d + 1) → (encNum n).length ≤ d + 1 := by
  induction d with
  | zero =>
    intro n h
    rw [encNum_small (by simpa using h)]
    simp
  | succ d ih =>
    intro n h
    by_cases c : n < 128
    · rw [encNum_small c]
      simp
    · rw [encNum_big c, List.length_cons]
      have := ih (n / 128) (by rw [Nat.pow_succ] at h; omega)
      omega
theorem encNum_le {n : Nat} (h : n ≤ 2147483647) : (encNum n).length ≤ 5 := encNum_length 4 n (by omega)
theorem implPut_ev (n : Nat) (hn : n ≤ 2147483647) : ∀ (x : List Int), x.length + (encNum n).length < 140737488355328 → Ev (fun k => impl_putNum.l0 k x (n : Int)) (x ++ encNum n) := by
  induction n using Nat.strongRecOn with
  | _ n ih =>
    intro x hx
    refine Ev.step (fun k => by rw [impl_putNum.l0]) ?_
    by_cases c : n < 128
    · rw [encNum_small c] at hx ⊢
      refine ev_if_neg (by omega) (ev_if_pos (by simp at hx; omega) ?_)
      rw [show (n : Int) % 256 = (n : Int) by omega]
      exact Ev.now _
    · rw [encNum_big c] at hx ⊢
      have h := ih (n / 128) (by omega) (by omega) (x ++ [((n % 128 + 128 : Nat) : Int)]) (by simp at hx ⊢; omega)
      refine ev_if_pos (by omega) (ev_if_pos (by simp at hx; omega) ?_)
      rw [show (Int.tmod (n : Int) 128 + 128) % 256 = ((n % 128 + 128 : Nat) : Int) by rw [Int.tmod_eq_emod_of_nonneg (by omega)]; omega]
      rw [show Int.tdiv (n : Int) 128 = ((n / 128 : Nat) : Int) by rw [Int.tdiv_eq_ediv_of_nonneg (by omega)]; omega, w64 (by omega) (by omega)]
      rw [List.append_assoc, List.singleton_append] at h
      exact h
theorem implPutNum_ev (x : List Int) (n : Nat) (hn : n ≤ 2147483647) (hx : x.length + (encNum n).length < 140737488355328) : Ev (fun k => impl_putNum.f k x (n : Int)) (x ++ encNum n) := implPut_ev n hn x hx
/-- PutNum, as both have it. -/
def putNumP (b : List Int) (n : Int) : List Int := if 0 ≤ n ∧ n ≤ 2147483647 then b ++ encNum n.toNat else b
theorem putNumP_le (b : List Int) (n : Int) : (putNumP b n).length ≤ b.length + 5 := by
  unfold putNumP
  split
  · rename_i h
    have := encNum_le (n := n.toNat) (by omega)
    rw [List.length_append]
    omega
  · omega

end Go.Proofs.Ytjbalmbamdmfpaa.Pure
