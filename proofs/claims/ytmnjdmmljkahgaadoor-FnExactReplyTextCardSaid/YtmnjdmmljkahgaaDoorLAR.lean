import Derived.Test.YtmnjdmmljkahgaaDoorPRx0
import Derived.Test.YtmnjdmmljkahgaaDoorPRx1
import Derived.Test.YtmnjdmmljkahgaaDoorPRx2
namespace Go.Proofs.YtmnjdmmljkahgaaDoor.Pure
open Go.RowKit Go.Proofs.YtmnjdmmljkahgaaDoor.PR Go.Proofs.YtmnjdmmljkahgaaDoorW.PrintWords Go.Proofs.YtmnjdmmljkahgaaDoorW.PrintLast Go.Proofs.YtmnjdmmljkahgaaDoorW.PrintMore
set_option linter.unusedVariables false
set_option linter.unusedSimpArgs false
theorem w64 {x : Int} (h0 : -9223372036854775808 ≤ x) (h1 : x ≤ 9223372036854775807) : wrap64 x = x := by
 unfold wrap64
 omega
theorem ev_if_pos {α : Type} {c : Prop} [Decidable c] {g f : Nat → Option α} {r : α} (h : c) (k : Ev g r) : Ev (fun n => if c then g n else f n) r := by
 simp only [if_pos h]
 exact k
theorem ev_if_neg {α : Type} {c : Prop} [Decidable c] {g f : Nat → Option α} {r : α} (h : ¬ c) (k : Ev f r) : Ev (fun n => if c then g n else f n) r := by
 simp only [if_neg h]
 exact k
theorem ev_bind_eq {α β : Type} {g : Option α} {f : Nat → α → Option β} {a : α} {r : β} (h : g = some a) (k : Ev (fun n => f n a) r) : Ev (fun n => g.bind (f n)) r := by
 subst h
 exact k
theorem rd_nat (l : List Int) (i : Nat) : rd l (i : Int) = l.getD i 0 := by
 unfold rd
 rw [Int.toNat_natCast]
theorem rd_get (l : List Int) (i : Nat) (h : i < l.length) : rd l (i : Int) = l[i] := by
 rw [rd_nat, List.getD_eq_getElem?_getD, List.getElem?_eq_getElem h]
 rfl
theorem take_set_succ {α : Type} (x l : List α) (i : Nat) (v : α) (hx : i < x.length) (hl : i < l.length) (h : x.take i = l.take i) (hv : v = l[i]) : (x.set i v).take (i + 1) = l.take (i + 1) := by
 rw [List.take_succ_eq_append_getElem (by simpa using hx), List.take_succ_eq_append_getElem hl, List.take_set_of_le (Nat.le_refl i), h, List.getElem_set_self, hv]
theorem eq_of_take {α : Type} {x l : List α} {n : Nat} (hx : x.length = n) (hl : l.length = n) (h : x.take n = l.take n) : x = l := by
 rw [List.take_of_length_le (by omega), List.take_of_length_le (by omega)] at h
 exact h
/-- What the marks are: k, k + 1, .. as bytes. -/
def marks (k : Int) (n : Nat) : List Int := (List.range n).map fun (j : Nat) => (k + (j : Int)) % 256
theorem marks_length (k : Int) (n : Nat) : (marks k n).length = n := by simp [marks]
theorem marks_get (k : Int) (n i : Nat) (h : i < (marks k n).length) : (marks k n)[i] = (k + (i : Int)) % 256 := by simp [marks]
theorem ev_done {α : Type} {a b : α} (h : a = b) : Ev (fun _ => some a) b := h ▸ Ev.now a
-- bytes.lean: the law package's helpers on bytes
theorem eqByteS_loop (a b : List Int) (hn : a.length ≤ 140737488351232) (hab : a.length = b.length) (d : Nat) : ∀ (i : Nat), i ≤ a.length → a.length - i = d → a.take i = b.take i → Ev (fun k => laws_eqByteS.l0 k a b (i : Int)) (decide (a = b)) := by
 induction d with
 | zero =>
  intro i hi hd ht
  refine Ev.step (fun k => by rw [laws_eqByteS.l0]) ?_
  refine ev_if_neg (by omega) ?_
  obtain rfl : i = a.length := by omega
  rw [decide_eq_true (eq_of_take rfl hab.symm ht)]
  exact Ev.now _
 | succ d ih =>
  intro i hi hd ht
  refine Ev.step (fun k => by rw [laws_eqByteS.l0]) ?_
  refine ev_if_pos (by omega) (ev_if_pos (by omega) (ev_if_pos (by omega) ?_))
  by_cases e : rd a (i : Int) = rd b (i : Int)
  ·refine ev_if_pos e ?_
   have h := ih (i + 1) (by omega) (by omega) (by
    rw [rd_get a i (by omega), rd_get b i (by omega)] at e
    rw [List.take_succ_eq_append_getElem (by omega), List.take_succ_eq_append_getElem (by omega), ht, e])
   rw [w64 (by omega) (by omega)]
   rw [Int.natCast_add, Int.natCast_one] at h
   exact h
  ·refine ev_if_neg e ?_
   rw [decide_eq_false (fun h => e (by rw [h]))]
   exact Ev.now _
theorem eqByteS_ev (a b : List Int) (hn : a.length ≤ 140737488351232) : Ev (fun k => laws_eqByteS.f k a b) (decide (a = b)) := by
 by_cases hab : a.length = b.length
 ·unfold laws_eqByteS.f
  refine ev_if_pos (by omega) ?_
  exact eqByteS_loop a b hn hab a.length 0 (by omega) (by omega) rfl
 ·unfold laws_eqByteS.f
  refine ev_if_neg (by omega) ?_
  rw [decide_eq_false (fun h => hab (by rw [h]))]
  exact Ev.now _
theorem eqByteS_self (a : List Int) (hn : a.length ≤ 140737488351232) : Ev (fun k => laws_eqByteS.f k a a) true := by
 have h := eqByteS_ev a a hn
 rw [decide_eq_true rfl] at h
 exact h
-- marks.lean: what the laws write into what they are handed, and look for again
theorem markByteS_loop (n : Nat) (k0 : Int) (h0 : 0 ≤ k0) (hk : k0 + n ≤ 4611686018427387904) (d : Nat) : ∀ (x : List Int) (i : Nat), x.length = n → i ≤ n → n - i = d → x.take i = (marks k0 n).take i → Ev (fun k => laws_markByteS.l0 k x (k0 + (i : Int)) (i : Int)) (k0 + (n : Int), marks k0 n) := by
 induction d with
 | zero =>
  intro x i hx hi hd ht
  refine Ev.step (fun k => by rw [laws_markByteS.l0]) ?_
  refine ev_if_neg (by omega) ?_
  obtain rfl : i = n := by omega
  rw [eq_of_take hx (marks_length k0 i) ht]
  exact Ev.now _
 | succ d ih =>
  intro x i hx hi hd ht
  refine Ev.step (fun k => by rw [laws_markByteS.l0]) ?_
  refine ev_if_pos (by omega) (ev_if_pos (by omega) ?_)
  have h := ih (x.set i ((k0 + (i : Int)) % 256)) (i + 1) (by rw [List.length_set]; exact hx) (by omega) (by omega) (take_set_succ x (marks k0 n) i _ (by omega) (by rw [marks_length]; omega) ht (marks_get k0 n i _).symm)
  rw [w64 (by omega) (by omega), w64 (by omega) (by omega), Int.toNat_natCast]
  rw [Int.natCast_add, Int.natCast_one, ← Int.add_assoc] at h
  exact h
theorem markByteS_ev (l : List Int) (k0 : Int) (h0 : 0 ≤ k0) (hk : k0 + l.length ≤ 4611686018427387904) : Ev (fun k => laws_markByteS.f k l k0) (k0 + (l.length : Int), marks k0 l.length) := by
 have h := markByteS_loop l.length k0 h0 hk l.length l 0 rfl (by omega) (by omega) rfl
 simp only [Int.natCast_zero, Int.add_zero] at h
 exact h
theorem heldByteS_loop (n : Nat) (k0 : Int) (h0 : 0 ≤ k0) (hk : k0 + n ≤ 4611686018427387904) (d : Nat) : ∀ (i : Nat), i ≤ n → n - i = d → Ev (fun k => laws_heldByteS.l0 k (marks k0 n) (k0 + (i : Int)) (i : Int)) (k0 + (n : Int)) := by
 induction d with
 | zero =>
  intro i hi hd
  refine Ev.step (fun k => by rw [laws_heldByteS.l0]) ?_
  refine ev_if_neg (by rw [marks_length]; omega) ?_
  obtain rfl : i = n := by omega
  exact Ev.now _
 | succ d ih =>
  intro i hi hd
  refine Ev.step (fun k => by rw [laws_heldByteS.l0]) ?_
  refine ev_if_pos (by rw [marks_length]; omega) (ev_if_pos (by omega) (ev_if_pos (by rw [rd_get _ i (by rw [marks_length]; omega), marks_get]) ?_))
  have h := ih (i + 1) (by omega) (by omega)
  rw [w64 (by omega) (by omega), w64 (by omega) (by omega)]
  rw [Int.natCast_add, Int.natCast_one, ← Int.add_assoc] at h
  exact h
theorem heldByteS_ev (n : Nat) (k0 : Int) (h0 : 0 ≤ k0) (hk : k0 + n ≤ 4611686018427387904) : Ev (fun k => laws_heldByteS.f k (marks k0 n) k0) (k0 + (n : Int)) := by
 have h := heldByteS_loop n k0 h0 hk n 0 (by omega) (by omega)
 simp only [Int.natCast_zero, Int.add_zero] at h
 exact h
-- replytext.lean: numbers in decimal, told by both programs; words with blanks between
/-- A list of bytes as whole numbers. -/
def nums8 (l : List UInt8) : List Int := l.map (fun b => (b.toNat : Int))
theorem nums8_append (a b : List UInt8) : nums8 (a ++ b) = nums8 a ++ nums8 b := List.map_append
theorem nums8_length (a : List UInt8) : (nums8 a).length = a.length := List.length_map ..
theorem nums8_bytes (a : List UInt8) : ∀ z ∈ nums8 a, 0 ≤ z ∧ z < 256 := by
 intro z hz
 obtain ⟨b, _, rfl⟩ := List.mem_map.1 hz
 have := b.toNat_lt
 exact ⟨by omega, by omega⟩
theorem bytesOf_nums8 (a : List UInt8) : Lib.bytesOf (nums8 a) = a := by
 unfold Lib.bytesOf nums8
 rw [List.map_map]
 conv => rhs; rw [← List.map_id a]
 apply List.map_congr_left
 intro b _
 simp
theorem dec_len (n : Nat) : (Lib.decDigits n).length ≤ n + 1 := by
 induction n using Nat.strongRecOn with
 | _ n ih =>
  unfold Lib.decDigits
  by_cases h : n < 10
  ·rw [dif_pos h]
   simp
  ·rw [dif_neg h]
   have := ih (n / 10) (by omega)
   rw [List.length_append]
   simp
   omega
theorem l8digits_ev (n : Nat) (hn : n ≤ 1000000) : Ev (fun k => spec_l8digits.f k (n : Int)) (nums8 (Lib.decDigits n)) := by
 induction n using Nat.strongRecOn with
 | _ n ih =>
  unfold Lib.decDigits
  refine Ev.step (fun k => by rw [spec_l8digits.f]) ?_
  by_cases h : n < 10
  ·rw [dif_pos h]
   refine ev_if_pos (by omega) (ev_done ?_)
   rw [w64 (by omega) (by omega)]
   have : (UInt8.ofNat (48 + n)).toNat = 48 + n := by
    rw [UInt8.toNat_ofNat']
    omega
   simp only [nums8, List.map_cons, List.map_nil, this]
   congr 2
   omega
  ·rw [dif_neg h]
   have hd : Int.tdiv (n : Int) 10 = ((n / 10 : Nat) : Int) := by
    rw [Int.tdiv_eq_ediv_of_nonneg (by omega)]
    omega
   have hm : Int.tmod (n : Int) 10 = ((n % 10 : Nat) : Int) := by
    rw [Int.tmod_eq_emod_of_nonneg (by omega)]
    omega
   have e := ih (n / 10) (by omega) (by omega)
   have hl := dec_len (n / 10)
   rw [hd, hm, w64 (x := ((n / 10 : Nat) : Int)) (by omega) (by omega), w64 (x := 48 + ((n % 10 : Nat) : Int)) (by omega) (by omega)]
   refine ev_if_neg (by omega) (Ev.bind e (ev_if_pos (by rw [nums8_length]; omega) (ev_done ?_)))
   rw [nums8_append]
   have : (UInt8.ofNat (48 + n % 10)).toNat = 48 + n % 10 := by
    rw [UInt8.toNat_ofNat']
    omega
   simp only [nums8, List.map_cons, List.map_nil, this]
   congr 3
   omega
theorem implDecimal_eq (n : Nat) (hn : n ≤ 1000000) : impl_decimal.f (n : Int) = some (nums8 (Lib.decDigits n)) := by
 have hi : Lib.itoa (n : Int) = Lib.decDigits n := by
  unfold Lib.itoa
  rw [if_neg (by omega), Int.toNat_natCast]
 have hl := dec_len n
 unfold impl_decimal.f
 rw [hi]
 by_cases c : n ≤ 900000
 ·rw [if_pos ⟨by omega, by omega, by omega⟩]
  rfl
 ·have hd : (Lib.decDigits n).length ≤ n / 10 + 2 := by
   unfold Lib.decDigits
   rw [dif_neg (by omega), List.length_append]
   have := dec_len (n / 10)
   simp
   omega
  rw [if_pos ⟨by omega, by omega, by omega⟩]
  rfl
theorem implSpaced2_eq (a b : List UInt8) (ha : a.length ≤ 1000) (hb : b.length ≤ 10000000) : impl_spaced.f [nums8 a, nums8 b] = some (nums8 (a ++ 32 :: b)) := by
 have hm : [nums8 a, nums8 b].map Lib.bytesOf = [a, b] := by
  simp only [List.map_cons, List.map_nil, bytesOf_nums8]
 have hj : Lib.join [a, b] [32] = a ++ 32 :: b := by
  simp [Lib.join, List.intercalate, List.intersperse]
 unfold impl_spaced.f
 rw [hm, hj, if_pos]
 ·rfl
 ·refine ⟨by simp, by simp, ?_, by rw [List.length_append, List.length_cons]; omega, ?_⟩
  ·simp [Lib.lens]
   omega
  ·intro l hl
   rcases List.mem_cons.1 hl with rfl | hl
   ·exact nums8_bytes a
   ·rcases List.mem_cons.1 hl with rfl | hl
    ·exact nums8_bytes b
    ·simp at hl
theorem l8word_eq (a b : List UInt8) (ha : 0 < a.length) (ha2 : a.length ≤ 1000) (hb : b.length ≤ 10000000) : spec_l8word.f (nums8 a) (nums8 b) = some (nums8 (a ++ 32 :: b)) := by
 unfold spec_l8word.f
 have h1 := nums8_length a
 have h2 := nums8_length b
 rw [if_pos (by omega), if_pos (by omega)]
 show (if (nums8 a ++ [32]).length + (nums8 b).length < _ then _ else _) = _
 rw [if_pos (by simp; omega)]
 congr 1
 rw [show a ++ 32 :: b = a ++ [32] ++ b by simp, nums8_append, nums8_append]
 rfl
end Go.Proofs.YtmnjdmmljkahgaaDoor.Pure
