import Derived.Test.YtoaddpfoecggpaaPGx0
import Derived.Test.YtoaddpfoecggpaaPGx6
import Derived.Test.YtoaddpfoecggpaaLBase
import Derived.Test.YtoaddpfoecggpaaLBytesp
namespace Go.Proofs.Ytoaddpfoecggpaa.Pure
open Go.RowKit Go.Proofs.Ytoaddpfoecggpaa.PG Go.Proofs.YtoaddpfoecggpaaW.PrintWords Go.Proofs.YtoaddpfoecggpaaW.PrintLast Go.Proofs.YtoaddpfoecggpaaW.PrintMore
set_option linter.unusedVariables false
set_option linter.unusedSimpArgs false
theorem cmp_self (a : List Int) : bytes_Compare.cmp a a = 0 := by
  induction a with
  | nil => rfl
  | cons x xs ih => rw [bytes_Compare.cmp, if_neg (by omega), if_neg (by omega), ih]
theorem cmp_zero : ∀ a b : List Int, bytes_Compare.cmp a b = 0 → a = b
  | [], [], _ => rfl
  | [], _ :: _, h => by rw [bytes_Compare.cmp] at h; omega
  | _ :: _, [], h => by rw [bytes_Compare.cmp] at h; omega
  | x :: xs, y :: ys, h => by
    rw [bytes_Compare.cmp] at h
    by_cases c1 : x < y
    · rw [if_pos c1] at h; omega
    by_cases c2 : y < x
    · rw [if_neg c1, if_pos c2] at h; omega
    rw [if_neg c1, if_neg c2] at h
    rw [cmp_zero xs ys h, show x = y by omega]
theorem cmp_trans : ∀ a b c : List Int, bytes_Compare.cmp a b < 0 → bytes_Compare.cmp b c < 0 → bytes_Compare.cmp a c < 0
  | [], [], _, h, _ => by rw [bytes_Compare.cmp] at h; omega
  | _ :: _, [], _, h, _ => by rw [bytes_Compare.cmp] at h; omega
  | [], _ :: _, [], _, h => by rw [bytes_Compare.cmp] at h; omega
  | [], _ :: _, _ :: _, _, _ => by rw [bytes_Compare.cmp]; omega
  | _ :: _, _ :: _, [], _, h => by rw [bytes_Compare.cmp] at h; omega
  | x :: xs, y :: ys, z :: zs, h1, h2 => by
    rw [bytes_Compare.cmp] at h1 h2 ⊢
    by_cases c1 : x < y
    · by_cases d1 : y < z
      · rw [if_pos (by omega)]; omega
      · by_cases d2 : z < y
        · rw [if_neg d1, if_pos d2] at h2; omega
        · rw [if_pos (by omega)]; omega
    · by_cases c2 : y < x
      · rw [if_neg c1, if_pos c2] at h1; omega
      · rw [if_neg c1, if_neg c2] at h1
        by_cases d1 : y < z
        · rw [if_pos (by omega)]; omega
        · by_cases d2 : z < y
          · rw [if_neg d1, if_pos d2] at h2; omega
          · rw [if_neg d1, if_neg d2] at h2
            rw [if_neg (by omega), if_neg (by omega)]
            exact cmp_trans xs ys zs h1 h2
theorem cmp_append (p a b : List Int) : bytes_Compare.cmp (p ++ a) (p ++ b) = bytes_Compare.cmp a b := by
  induction p with
  | nil => rfl
  | cons x xs ih => rw [List.cons_append, List.cons_append, bytes_Compare.cmp, if_neg (by omega), if_neg (by omega), ih]
theorem cmp_longer (p s : List Int) (h : 0 < s.length) : bytes_Compare.cmp p (p ++ s) < 0 := by
  have e := cmp_append p [] s
  rw [List.append_nil] at e
  rw [e]
  cases s with
  | nil => simp at h
  | cons x xs => rw [bytes_Compare.cmp]; omega
theorem cmp_heads (p a b s u : List Int) (ha : 0 < a.length) (hb : 0 < b.length) (h : rd a 0 < rd b 0) : bytes_Compare.cmp (p ++ a ++ s) (p ++ b ++ u) < 0 := by
  rw [List.append_assoc, List.append_assoc, cmp_append]
  cases a with
  | nil => simp at ha
  | cons x xs =>
    cases b with
    | nil => simp at hb
    | cons y ys =>
      have h2 : x < y := h
      rw [List.cons_append, List.cons_append, bytes_Compare.cmp, if_pos h2]
      omega
theorem heads_ne (p a b s u : List Int) (ha : 0 < a.length) (hb : 0 < b.length) (h : rd a 0 ≠ rd b 0) : p ++ a ++ s ≠ p ++ b ++ u := by
  intro e
  rw [List.append_assoc, List.append_assoc] at e
  have e := List.append_cancel_left e
  cases a with
  | nil => simp at ha
  | cons x xs =>
    cases b with
    | nil => simp at hb
    | cons y ys =>
      rw [List.cons_append, List.cons_append] at e
      exact h (List.cons.inj e).1
theorem bytesCompare_eq (a b : List Int) (ha : Bytes a) (hb : Bytes b) : bytes_Compare.f a b = some (bytes_Compare.cmp a b) := by
  unfold bytes_Compare.f
  rw [if_pos ⟨fun x hx => wf_u8 (ha x hx), fun x hx => wf_u8 (hb x hx)⟩]

end Go.Proofs.Ytoaddpfoecggpaa.Pure
