import Derived.Test.YtmnjdmmljkahgaaDoorPEx0
import Derived.Test.YtmnjdmmljkahgaaDoorPEx1
import Derived.Test.YtmnjdmmljkahgaaDoorPEx2
import Derived.Test.YtmnjdmmljkahgaaDoorPEx3
import Derived.Test.YtmnjdmmljkahgaaDoorPEx4
import Derived.Test.YtmnjdmmljkahgaaDoorPEx5
import Derived.Test.YtmnjdmmljkahgaaDoorPEx6
namespace Go.Proofs.YtmnjdmmljkahgaaDoor.Pure
open Go.RowKit Go.Proofs.YtmnjdmmljkahgaaDoor.PE Go.Proofs.YtmnjdmmljkahgaaDoorW.PrintWords Go.Proofs.YtmnjdmmljkahgaaDoorW.PrintLast Go.Proofs.YtmnjdmmljkahgaaDoorW.PrintMore
set_option linter.unusedVariables false
set_option linter.unusedSimpArgs false
theorem w64 {x : Int} (h0 : -9223372036854775808 ≤ x) (h1 : x ≤ 9223372036854775807) : wrap64 x = x := by
 unfold wrap64
 omega
theorem ev_if_pos {α : Type} {c : Prop} [Decidable c] {g f : Nat → Option α} {r : α} (h : c) (k : Ev g r) : Ev (fun n => if c then g n else f n) r := by
 simp only [if_pos h]
 exact k
theorem ev_if_neg {α : Type} {c : Prop} [Decidable c] {g f : Nat → Option α} {r : α} (h : ¬ c) (k : Ev f r) : Ev (fun n => if c then g n else f n) r := by
 simp only [if_neg h]
 exact k
theorem ev_bind_eq {α β : Type} {g : Option α} {f : Nat → α → Option β} {a : α} {r : β} (h : g = some a) (k : Ev (fun n => f n a) r) : Ev (fun n => g.bind (f n)) r := by
 subst h
 exact k
theorem rd_nat (l : List Int) (i : Nat) : rd l (i : Int) = l.getD i 0 := by
 unfold rd
 rw [Int.toNat_natCast]
theorem rd_get (l : List Int) (i : Nat) (h : i < l.length) : rd l (i : Int) = l[i] := by
 rw [rd_nat, List.getD_eq_getElem?_getD, List.getElem?_eq_getElem h]
 rfl
theorem take_set_succ {α : Type} (x l : List α) (i : Nat) (v : α) (hx : i < x.length) (hl : i < l.length) (h : x.take i = l.take i) (hv : v = l[i]) : (x.set i v).take (i + 1) = l.take (i + 1) := by
 rw [List.take_succ_eq_append_getElem (by simpa using hx), List.take_succ_eq_append_getElem hl, List.take_set_of_le (Nat.le_refl i), h, List.getElem_set_self, hv]
theorem eq_of_take {α : Type} {x l : List α} {n : Nat} (hx : x.length = n) (hl : l.length = n) (h : x.take n = l.take n) : x = l := by
 rw [List.take_of_length_le (by omega), List.take_of_length_le (by omega)] at h
 exact h
/-- What the marks are: k, k + 1, .. as bytes. -/
def marks (k : Int) (n : Nat) : List Int := (List.range n).map fun (j : Nat) => (k + (j : Int)) % 256
theorem marks_length (k : Int) (n : Nat) : (marks k n).length = n := by simp [marks]
theorem marks_get (k : Int) (n i : Nat) (h : i < (marks k n).length) : (marks k n)[i] = (k + (i : Int)) % 256 := by simp [marks]
theorem ev_ite {α : Type} {c : Prop} [Decidable c] {g f : Nat → Option α} {r : α} (h : c → Ev g r) (h' : ¬ c → Ev f r) : Ev (fun n => if c then g n else f n) r := by
 by_cases hc : c
 ·exact ev_if_pos hc (h hc)
 ·exact ev_if_neg hc (h' hc)
theorem ev_done {α : Type} {a b : α} (h : a = b) : Ev (fun _ => some a) b := h ▸ Ev.now a
theorem ev_of {α : Type} {g : Nat → Option α} {a b : α} (h : Ev g a) (e : a = b) : Ev g b := e ▸ h
-- bytes.lean: the law package's helpers on bytes
theorem toByteS_loop (l : List Int) (hn : l.length ≤ 140737488351232) (d : Nat) : ∀ (x : List Int) (i : Nat), x.length = l.length → i ≤ l.length → l.length - i = d → x.take i = l.take i → Ev (fun k => laws_toByteS.l0 k l x (i : Int)) l := by
 induction d with
 | zero =>
  intro x i hx hi hd ht
  refine Ev.step (fun k => by rw [laws_toByteS.l0]) ?_
  refine ev_if_neg (by omega) ?_
  obtain rfl : i = l.length := by omega
  rw [eq_of_take hx rfl ht]
  exact Ev.now _
 | succ d ih =>
  intro x i hx hi hd ht
  refine Ev.step (fun k => by rw [laws_toByteS.l0]) ?_
  refine ev_if_pos (by omega) (ev_if_pos (by omega) (ev_if_pos (by omega) ?_))
  have h := ih (x.set i (rd l (i : Int))) (i + 1) (by rw [List.length_set]; exact hx) (by omega) (by omega) (take_set_succ x l i _ (by omega) (by omega) ht (rd_get l i (by omega)))
  rw [w64 (by omega) (by omega), Int.toNat_natCast]
  rw [Int.natCast_add, Int.natCast_one] at h
  exact h
theorem toByteS_ev (l : List Int) (hn : l.length ≤ 140737488351232) : Ev (fun k => laws_toByteS.f k l) l := by
 unfold laws_toByteS.f
 refine ev_if_pos (by omega) (ev_if_pos (by omega) ?_)
 exact toByteS_loop l hn l.length _ 0 (by rw [List.length_replicate, Int.toNat_natCast]) (by omega) (by omega) rfl
theorem eqByteS_loop (a b : List Int) (hn : a.length ≤ 140737488351232) (hab : a.length = b.length) (d : Nat) : ∀ (i : Nat), i ≤ a.length → a.length - i = d → a.take i = b.take i → Ev (fun k => laws_eqByteS.l0 k a b (i : Int)) (decide (a = b)) := by
 induction d with
 | zero =>
  intro i hi hd ht
  refine Ev.step (fun k => by rw [laws_eqByteS.l0]) ?_
  refine ev_if_neg (by omega) ?_
  obtain rfl : i = a.length := by omega
  rw [decide_eq_true (eq_of_take rfl hab.symm ht)]
  exact Ev.now _
 | succ d ih =>
  intro i hi hd ht
  refine Ev.step (fun k => by rw [laws_eqByteS.l0]) ?_
  refine ev_if_pos (by omega) (ev_if_pos (by omega) (ev_if_pos (by omega) ?_))
  by_cases e : rd a (i : Int) = rd b (i : Int)
  ·refine ev_if_pos e ?_
   have h := ih (i + 1) (by omega) (by omega) (by
    rw [rd_get a i (by omega), rd_get b i (by omega)] at e
    rw [List.take_succ_eq_append_getElem (by omega), List.take_succ_eq_append_getElem (by omega), ht, e])
   rw [w64 (by omega) (by omega)]
   rw [Int.natCast_add, Int.natCast_one] at h
   exact h
  ·refine ev_if_neg e ?_
   rw [decide_eq_false (fun h => e (by rw [h]))]
   exact Ev.now _
theorem eqByteS_ev (a b : List Int) (hn : a.length ≤ 140737488351232) : Ev (fun k => laws_eqByteS.f k a b) (decide (a = b)) := by
 by_cases hab : a.length = b.length
 ·unfold laws_eqByteS.f
  refine ev_if_pos (by omega) ?_
  exact eqByteS_loop a b hn hab a.length 0 (by omega) (by omega) rfl
 ·unfold laws_eqByteS.f
  refine ev_if_neg (by omega) ?_
  rw [decide_eq_false (fun h => hab (by rw [h]))]
  exact Ev.now _
theorem eqByteS_self (a : List Int) (hn : a.length ≤ 140737488351232) : Ev (fun k => laws_eqByteS.f k a a) true := by
 have h := eqByteS_ev a a hn
 rw [decide_eq_true rfl] at h
 exact h
-- keyok.lean: what a key is
/-- The bytes of keys: letters and '/'. -/
def keyByte (c : Int) : Bool := decide ((97 ≤ c ∧ c ≤ 122) ∨ c = 47)
def keyP (l : List Int) : Bool := decide (1 ≤ l.length ∧ l.length ≤ 20) && l.all keyByte
theorem drop_cons (l : List Int) (i : Nat) (h : i < l.length) : l.drop i = rd l (i : Int) :: l.drop (i + 1) := by
 rw [rd_get l i h]
 exact List.drop_eq_getElem_cons h
theorem specKey_loop (l : List Int) (hn : l.length ≤ 140737488351232) (d : Nat) : ∀ (i : Nat), i ≤ l.length → l.length - i = d → Ev (fun k => spec_l2key.l0 k l (i : Int)) ((l.drop i).all keyByte) := by
 induction d with
 | zero =>
  intro i hi hd
  refine Ev.step (fun k => by rw [spec_l2key.l0]) ?_
  refine ev_if_neg (by omega) ?_
  rw [List.drop_of_length_le (by omega)]
  exact Ev.now _
 | succ d ih =>
  intro i hi hd
  have h := ih (i + 1) (by omega) (by omega)
  rw [Int.natCast_add, Int.natCast_one] at h
  rw [drop_cons l i (by omega), List.all_cons]
  refine Ev.step (fun k => by rw [spec_l2key.l0]) ?_
  rw [w64 (by omega) (by omega)]
  refine ev_if_pos (by omega) (ev_if_pos (by omega) ?_)
  by_cases c1 : rd l (i : Int) < 97
  ·refine ev_if_pos c1 ?_
   by_cases c2 : rd l (i : Int) = 47
   ·refine ev_if_pos c2 ?_
    rw [show keyByte (rd l (i : Int)) = true from decide_eq_true (.inr c2), Bool.true_and]
    exact h
   ·refine ev_if_neg c2 ?_
    rw [show keyByte (rd l (i : Int)) = false from decide_eq_false (by omega), Bool.false_and]
    exact Ev.now _
  ·refine ev_if_neg c1 ?_
   by_cases c3 : rd l (i : Int) > 122
   ·refine ev_if_pos c3 ?_
    refine ev_if_neg (by omega) ?_
    rw [show keyByte (rd l (i : Int)) = false from decide_eq_false (by omega), Bool.false_and]
    exact Ev.now _
   ·refine ev_if_neg c3 ?_
    rw [show keyByte (rd l (i : Int)) = true from decide_eq_true (by omega), Bool.true_and]
    exact h
theorem specKey_ev (l : List Int) (hn : l.length ≤ 140737488351232) : Ev (fun k => spec_l2key.f k l) (keyP l) := by
 unfold spec_l2key.f
 by_cases c : (l.length : Int) < 1
 ·refine ev_if_pos c ?_
  refine Ev.step (fun k => by rw [spec_l2key.j0]) ?_
  refine ev_if_pos rfl ?_
  rw [show keyP l = false from by unfold keyP; rw [decide_eq_false (by omega), Bool.false_and]]
  exact Ev.now _
 ·refine ev_if_neg c ?_
  refine Ev.step (fun k => by rw [spec_l2key.j0]) ?_
  by_cases c2 : (l.length : Int) > 20
  ·refine ev_if_pos (decide_eq_true c2) ?_
   rw [show keyP l = false from by unfold keyP; rw [decide_eq_false (by omega), Bool.false_and]]
   exact Ev.now _
  ·refine ev_if_neg (by rw [decide_eq_false c2]; decide) ?_
   rw [show keyP l = l.all keyByte from by unfold keyP; rw [decide_eq_true (by omega), Bool.true_and]]
   exact specKey_loop l hn l.length 0 (by omega) (by omega)
theorem implKey_loop (l : List Int) (hn : l.length ≤ 140737488351232) (d : Nat) : ∀ (i : Nat), i ≤ l.length → l.length - i = d → Ev (fun k => impl_KeyOk.l0 k l l (l.length : Int) (i : Int)) (decide (1 ≤ l.length ∧ l.length ≤ 20) && (l.drop i).all keyByte) := by
 induction d with
 | zero =>
  intro i hi hd
  refine Ev.step (fun k => by rw [impl_KeyOk.l0]) ?_
  refine ev_if_neg (by omega) ?_
  rw [List.drop_of_length_le (by omega), List.all_nil, Bool.and_true]
  unfold impl_within.f
  by_cases c : 1 ≤ (l.length : Int)
  ·rw [if_pos c, decide_eq_decide.mpr (show (1 ≤ l.length ∧ l.length ≤ 20) ↔ ((l.length : Int) ≤ 20) by omega)]
   exact Ev.now _
  ·rw [if_neg c, decide_eq_false (by omega)]
   exact Ev.now _
 | succ d ih =>
  intro i hi hd
  have h := ih (i + 1) (by omega) (by omega)
  rw [Int.natCast_add, Int.natCast_one] at h
  rw [drop_cons l i (by omega), List.all_cons]
  refine Ev.step (fun k => by rw [impl_KeyOk.l0]) ?_
  rw [w64 (by omega) (by omega)]
  refine ev_if_pos (by omega) (ev_if_pos (by omega) (ev_if_pos (by omega) ?_))
  by_cases c1 : rd l (i : Int) < 97
  ·refine ev_if_pos c1 ?_
   by_cases c2 : rd l (i : Int) = 47
   ·refine ev_if_pos c2 ?_
    rw [show keyByte (rd l (i : Int)) = true from decide_eq_true (.inr c2), Bool.true_and]
    exact h
   ·refine ev_if_neg c2 ?_
    rw [show keyByte (rd l (i : Int)) = false from decide_eq_false (by omega), Bool.false_and, Bool.and_false]
    exact Ev.now _
  ·refine ev_if_neg c1 ?_
   by_cases c3 : rd l (i : Int) > 122
   ·refine ev_if_pos c3 ?_
    refine ev_if_neg (by omega) ?_
    rw [show keyByte (rd l (i : Int)) = false from decide_eq_false (by omega), Bool.false_and, Bool.and_false]
    exact Ev.now _
   ·refine ev_if_neg c3 ?_
    rw [show keyByte (rd l (i : Int)) = true from decide_eq_true (by omega), Bool.true_and]
    exact h
theorem implKey_ev (l : List Int) (hn : l.length ≤ 140737488351232) : Ev (fun k => impl_KeyOk.f k l) (keyP l) :=
 implKey_loop l hn l.length 0 (by omega) (by omega)
-- marks.lean: what the laws write into what they are handed, and look for again
theorem markByteS_loop (n : Nat) (k0 : Int) (h0 : 0 ≤ k0) (hk : k0 + n ≤ 4611686018427387904) (d : Nat) : ∀ (x : List Int) (i : Nat), x.length = n → i ≤ n → n - i = d → x.take i = (marks k0 n).take i → Ev (fun k => laws_markByteS.l0 k x (k0 + (i : Int)) (i : Int)) (k0 + (n : Int), marks k0 n) := by
 induction d with
 | zero =>
  intro x i hx hi hd ht
  refine Ev.step (fun k => by rw [laws_markByteS.l0]) ?_
  refine ev_if_neg (by omega) ?_
  obtain rfl : i = n := by omega
  rw [eq_of_take hx (marks_length k0 i) ht]
  exact Ev.now _
 | succ d ih =>
  intro x i hx hi hd ht
  refine Ev.step (fun k => by rw [laws_markByteS.l0]) ?_
  refine ev_if_pos (by omega) (ev_if_pos (by omega) ?_)
  have h := ih (x.set i ((k0 + (i : Int)) % 256)) (i + 1) (by rw [List.length_set]; exact hx) (by omega) (by omega) (take_set_succ x (marks k0 n) i _ (by omega) (by rw [marks_length]; omega) ht (marks_get k0 n i _).symm)
  rw [w64 (by omega) (by omega), w64 (by omega) (by omega), Int.toNat_natCast]
  rw [Int.natCast_add, Int.natCast_one, ← Int.add_assoc] at h
  exact h
theorem markByteS_ev (l : List Int) (k0 : Int) (h0 : 0 ≤ k0) (hk : k0 + l.length ≤ 4611686018427387904) : Ev (fun k => laws_markByteS.f k l k0) (k0 + (l.length : Int), marks k0 l.length) := by
 have h := markByteS_loop l.length k0 h0 hk l.length l 0 rfl (by omega) (by omega) rfl
 simp only [Int.natCast_zero, Int.add_zero] at h
 exact h
theorem heldByteS_loop (n : Nat) (k0 : Int) (h0 : 0 ≤ k0) (hk : k0 + n ≤ 4611686018427387904) (d : Nat) : ∀ (i : Nat), i ≤ n → n - i = d → Ev (fun k => laws_heldByteS.l0 k (marks k0 n) (k0 + (i : Int)) (i : Int)) (k0 + (n : Int)) := by
 induction d with
 | zero =>
  intro i hi hd
  refine Ev.step (fun k => by rw [laws_heldByteS.l0]) ?_
  refine ev_if_neg (by rw [marks_length]; omega) ?_
  obtain rfl : i = n := by omega
  exact Ev.now _
 | succ d ih =>
  intro i hi hd
  refine Ev.step (fun k => by rw [laws_heldByteS.l0]) ?_
  refine ev_if_pos (by rw [marks_length]; omega) (ev_if_pos (by omega) (ev_if_pos (by rw [rd_get _ i (by rw [marks_length]; omega), marks_get]) ?_))
  have h := ih (i + 1) (by omega) (by omega)
  rw [w64 (by omega) (by omega), w64 (by omega) (by omega)]
  rw [Int.natCast_add, Int.natCast_one, ← Int.add_assoc] at h
  exact h
theorem heldByteS_ev (n : Nat) (k0 : Int) (h0 : 0 ≤ k0) (hk : k0 + n ≤ 4611686018427387904) : Ev (fun k => laws_heldByteS.f k (marks k0 n) k0) (k0 + (n : Int)) := by
 have h := heldByteS_loop n k0 h0 hk n 0 (by omega) (by omega)
 simp only [Int.natCast_zero, Int.add_zero] at h
 exact h
-- sizes.lean: how much an argument holds
theorem szByteS_eq (l : List Int) (left : Int) (h0 : 0 ≤ left) (h1 : left ≤ 1048576) (hl : l.length ≤ maxLen) : ∃ r, laws_szByteS.f l left = some r ∧ (0 ≤ r → r ≤ left ∧ (l.length : Int) ≤ left) := by
 unfold laws_szByteS.f
 unfold maxLen at hl
 rw [w64 (by omega) (by omega)]
 by_cases c : left - (l.length : Int) < 0
 ·rw [if_pos c]
  exact ⟨-1, rfl, fun h => absurd h (by decide)⟩
 ·rw [if_neg c]
  exact ⟨_, rfl, fun _ => ⟨by omega, by omega⟩⟩
-- within.lean
theorem within_eq (a b c : Int) : impl_within.f a b c = some (decide (b ≤ a ∧ a ≤ c)) := by
 unfold impl_within.f
 by_cases h : b ≤ a
 ·rw [if_pos h]
  by_cases h2 : a ≤ c
  ·rw [decide_eq_true h2, decide_eq_true ⟨h, h2⟩]
  ·rw [decide_eq_false h2, decide_eq_false (fun z => h2 z.2)]
 ·rw [if_neg h, decide_eq_false (fun z => h z.1)]
-- ops.lean: what an operation is
theorem isValue_eq (l : List Int) : impl_isValue.f l = some (decide (l.length ≤ 20)) := by
 unfold impl_isValue.f
 rw [decide_eq_decide.mpr (show ((l.length : Int) ≤ 20) ↔ l.length ≤ 20 by omega)]
theorem l2val_eq (l : List Int) : spec_l2val.f l = some (decide (l.length ≤ 20)) := by
 unfold spec_l2val.f
 rw [decide_eq_decide.mpr (show ((l.length : Int) ≤ 20) ↔ l.length ≤ 20 by omega)]
theorem l2index_eq (n : Int) : spec_l2index.f n = some (decide (0 ≤ n ∧ n ≤ 1000000)) := by
 unfold spec_l2index.f
 by_cases c : n ≥ 0
 ·rw [if_pos c, decide_eq_decide.mpr (show (n ≤ 1000000) ↔ (0 ≤ n ∧ n ≤ 1000000) by omega)]
 ·rw [if_neg c, decide_eq_false (by omega)]
/-- A valid operation. -/
def opOkP (k : Int) (key val : List Int) (n : Int) : Bool :=
 decide ((k = 0 ∧ key.length = 0 ∧ val.length = 0 ∧ n = 0) ∨ (k = 1 ∧ keyP key = true ∧ val.length ≤ 20 ∧ n = 0) ∨ (k = 2 ∧ keyP key = true ∧ val.length ≤ 20 ∧ 0 ≤ n ∧ n ≤ 1000000) ∨
  (k = 3 ∧ keyP key = true ∧ val.length = 0 ∧ n = 0) ∨ (k = 4 ∧ key.length = 0 ∧ val.length = 0 ∧ 0 ≤ n ∧ n ≤ 1) ∨ (k = 5 ∧ key.length = 0 ∧ val.length = 0 ∧ 1 ≤ n ∧ n ≤ 1000000) ∨
  (k = 6 ∧ keyP key = true ∧ val.length ≤ 20 ∧ 1 ≤ n ∧ n ≤ 1000000) ∨ (k = 7 ∧ keyP key = true ∧ val.length = 0 ∧ 1 ≤ n ∧ n ≤ 1000000))
theorem specOpOk_ev (kd : Int) (key val : List Int) (n : Int) (hk : key.length ≤ 140737488351232) : Ev (fun k => spec_OpOk.f k kd key val n) (opOkP kd key val n) := by
 unfold spec_OpOk.f
 repeat' (first
  | exact ev_done (by grind [opOkP])
  | refine Ev.step (g := fun k => spec_OpOk.j0 k _ _ _ _ _) (fun k => by rw [spec_OpOk.j0]) ?_ | refine Ev.step (g := fun k => spec_OpOk.j1 k _ _ _ _ _) (fun k => by rw [spec_OpOk.j1]) ?_ | refine Ev.step (g := fun k => spec_OpOk.j2 k _ _ _ _ _) (fun k => by rw [spec_OpOk.j2]) ?_ | refine Ev.step (g := fun k => spec_OpOk.j3 k _ _ _ _ _) (fun k => by rw [spec_OpOk.j3]) ?_ | refine Ev.step (g := fun k => spec_OpOk.j4 k _ _ _ _ _) (fun k => by rw [spec_OpOk.j4]) ?_ | refine Ev.step (g := fun k => spec_OpOk.j5 k _ _ _ _ _ _) (fun k => by rw [spec_OpOk.j5]) ?_
  | refine ev_bind_eq (l2val_eq _) ?_
  | refine ev_bind_eq (l2index_eq _) ?_
  | refine Ev.bind (specKey_ev _ hk) ?_
  | refine ev_if_pos (by first | rfl | assumption | omega) ?_
  | refine ev_if_neg (by first | decide | assumption | omega) ?_
  | refine ev_ite (fun hc => ?_) (fun hc => ?_))
theorem implOpOk_ev (kd : Int) (key val : List Int) (n : Int) (hk : key.length ≤ 140737488351232) : Ev (fun k => impl_OpOk.f k kd key val n) (opOkP kd key val n) := by
 unfold impl_OpOk.f
 repeat' (first
  | exact ev_done (by grind [opOkP])
  | refine ev_bind_eq (within_eq _ _ _) ?_
  | refine ev_bind_eq (isValue_eq _) ?_
  | refine Ev.bind (implKey_ev _ hk) ?_
  | refine ev_if_pos (by first | rfl | assumption | omega) ?_
  | refine ev_if_neg (by first | decide | assumption | omega) ?_
  | refine ev_ite (fun hc => ?_) (fun hc => ?_))
theorem toOp_ev (kd : Int) (key val : List Int) (n : Int) (hk : key.length ≤ 140737488351232) (hv : val.length ≤ 140737488351232) : Ev (fun k => laws_toOp.f k kd key val n) (kd, key, val, n) := by
 unfold laws_toOp.f
 exact Ev.bind (toByteS_ev _ hk) (Ev.bind (toByteS_ev _ hv) (Ev.now _))
theorem eqOp_self (kd : Int) (key val : List Int) (n : Int) (hk : key.length ≤ 140737488351232) (hv : val.length ≤ 140737488351232) : Ev (fun k => laws_eqOp.f k kd key val n kd key val n) true := by
 unfold laws_eqOp.f
 exact ev_if_pos rfl (Ev.bind (eqByteS_self _ hk) (ev_if_pos rfl (Ev.bind (eqByteS_self _ hv) (ev_if_pos rfl (ev_if_pos rfl (Ev.now _))))))
theorem szOp_eq (kd : Int) (key val : List Int) (n left : Int) (h0 : 0 ≤ left) (h1 : left ≤ 1048576) (hk : key.length ≤ maxLen) (hv : val.length ≤ maxLen) :
  ∃ r, laws_szOp.f kd key val n left = some r ∧ (0 ≤ r → r ≤ left ∧ (key.length : Int) ≤ left ∧ (val.length : Int) ≤ left) := by
 unfold laws_szOp.f
 obtain ⟨r, e, hr⟩ := szByteS_eq key left h0 h1 hk
 rw [e, Option.bind_some]
 by_cases c : r < 0
 ·rw [if_pos c]
  exact ⟨-1, rfl, fun h => absurd h (by decide)⟩
 ·rw [if_neg c]
  obtain ⟨q, e2, hq⟩ := szByteS_eq val r (by omega) (by omega) hv
  rw [e2, Option.bind_some]
  by_cases c2 : q < 0
  ·rw [if_pos c2]
   exact ⟨-1, rfl, fun h => absurd h (by decide)⟩
  ·rw [if_neg c2]
   exact ⟨q, rfl, fun _ => ⟨by omega, by omega, by omega⟩⟩
-- bytesp.lean: lists of bytes
def Bytes (l : List Int) : Prop := ∀ x ∈ l, (Lit.int .u8 x).wf = true
-- replytext.lean: numbers in decimal, told by both programs; words with blanks between
/-- A list of bytes as whole numbers. -/
def nums8 (l : List UInt8) : List Int := l.map (fun b => (b.toNat : Int))
theorem nums8_append (a b : List UInt8) : nums8 (a ++ b) = nums8 a ++ nums8 b := List.map_append
theorem nums8_length (a : List UInt8) : (nums8 a).length = a.length := List.length_map ..
theorem nums8_bytes (a : List UInt8) : ∀ z ∈ nums8 a, 0 ≤ z ∧ z < 256 := by
 intro z hz
 obtain ⟨b, _, rfl⟩ := List.mem_map.1 hz
 have := b.toNat_lt
 exact ⟨by omega, by omega⟩
theorem dec_len (n : Nat) : (Lib.decDigits n).length ≤ n + 1 := by
 induction n using Nat.strongRecOn with
 | _ n ih =>
  unfold Lib.decDigits
  by_cases h : n < 10
  ·rw [dif_pos h]
   simp
  ·rw [dif_neg h]
   have := ih (n / 10) (by omega)
   rw [List.length_append]
   simp
   omega
theorem l8digits_ev (n : Nat) (hn : n ≤ 1000000) : Ev (fun k => spec_l8digits.f k (n : Int)) (nums8 (Lib.decDigits n)) := by
 induction n using Nat.strongRecOn with
 | _ n ih =>
  unfold Lib.decDigits
  refine Ev.step (fun k => by rw [spec_l8digits.f]) ?_
  by_cases h : n < 10
  ·rw [dif_pos h]
   refine ev_if_pos (by omega) (ev_done ?_)
   rw [w64 (by omega) (by omega)]
   have : (UInt8.ofNat (48 + n)).toNat = 48 + n := by
    rw [UInt8.toNat_ofNat']
    omega
   simp only [nums8, List.map_cons, List.map_nil, this]
   congr 2
   omega
  ·rw [dif_neg h]
   have hd : Int.tdiv (n : Int) 10 = ((n / 10 : Nat) : Int) := by
    rw [Int.tdiv_eq_ediv_of_nonneg (by omega)]
    omega
   have hm : Int.tmod (n : Int) 10 = ((n % 10 : Nat) : Int) := by
    rw [Int.tmod_eq_emod_of_nonneg (by omega)]
    omega
   have e := ih (n / 10) (by omega) (by omega)
   have hl := dec_len (n / 10)
   rw [hd, hm, w64 (x := ((n / 10 : Nat) : Int)) (by omega) (by omega), w64 (x := 48 + ((n % 10 : Nat) : Int)) (by omega) (by omega)]
   refine ev_if_neg (by omega) (Ev.bind e (ev_if_pos (by rw [nums8_length]; omega) (ev_done ?_)))
   rw [nums8_append]
   have : (UInt8.ofNat (48 + n % 10)).toNat = 48 + n % 10 := by
    rw [UInt8.toNat_ofNat']
    omega
   simp only [nums8, List.map_cons, List.map_nil, this]
   congr 3
   omega
theorem implDecimal_eq (n : Nat) (hn : n ≤ 1000000) : impl_decimal.f (n : Int) = some (nums8 (Lib.decDigits n)) := by
 have hi : Lib.itoa (n : Int) = Lib.decDigits n := by
  unfold Lib.itoa
  rw [if_neg (by omega), Int.toNat_natCast]
 have hl := dec_len n
 unfold impl_decimal.f
 rw [hi]
 by_cases c : n ≤ 900000
 ·rw [if_pos ⟨by omega, by omega, by omega⟩]
  rfl
 ·have hd : (Lib.decDigits n).length ≤ n / 10 + 2 := by
   unfold Lib.decDigits
   rw [dif_neg (by omega), List.length_append]
   have := dec_len (n / 10)
   simp
   omega
  rw [if_pos ⟨by omega, by omega, by omega⟩]
  rfl
-- optext.lean: an operation's text, told by both programs
def hexS : ByteArray := (⟨#[48, 49, 50, 51, 52, 53, 54, 55, 56, 57, 97, 98, 99, 100, 101, 102]⟩ : ByteArray)
/-- Is a byte told as itself? -/
def bareP (b : Int) : Bool := decide (32 ≤ b ∧ b ≤ 126 ∧ b ≠ 34 ∧ b ≠ 37)
def encQ (b : Int) : List Int := if bareP b = true then [b] else [37, bt hexS (b / 16), bt hexS (b % 16)]
def quotedP (l : List Int) : List Int := [34] ++ l.flatMap encQ ++ [34]
theorem byteR {l : List Int} (h : Bytes l) : ∀ z ∈ l, 0 ≤ z ∧ z < 256 := fun z hz => by
 have h2 := h z hz
 simp [Lit.wf, IntKind.min, IntKind.max, IntKind.signed, IntKind.bits] at h2
 omega
theorem and15 (b : Int) (h0 : 0 ≤ b) (h1 : b < 256) : Go.bits .and .u8 b 15 = b % 16 := by
 have h : ∀ n : Fin 256, Go.bits .and .u8 (n.val : Int) 15 = (n.val : Int) % 16 := by decide +kernel
 obtain ⟨n, rfl⟩ := Int.eq_ofNat_of_zero_le h0
 exact h ⟨n, by omega⟩
theorem encQ_len (b : Int) : (encQ b).length ≤ 3 := by
 unfold encQ
 split <;> simp
theorem flat_len (l : List Int) : (l.flatMap encQ).length ≤ 3 * l.length := by
 induction l with
 | nil => simp
 | cons x xs ih =>
  rw [List.flatMap_cons, List.length_append, List.length_cons]
  have := encQ_len x
  omega
theorem encQ_bytes (b : Int) (h0 : 0 ≤ b) (h1 : b < 256) : ∀ z ∈ encQ b, 0 ≤ z ∧ z < 256 := by
 intro z hz
 unfold encQ at hz
 split at hz
 ·simp only [List.mem_singleton] at hz
  subst hz
  exact ⟨h0, h1⟩
 ·simp only [List.mem_cons, List.not_mem_nil, or_false] at hz
  rcases hz with rfl | rfl | rfl
  ·omega
  ·have := bt_range hexS (b / 16)
   omega
  ·have := bt_range hexS (b % 16)
   omega
theorem quotedP_bytes (l : List Int) (hl : ∀ z ∈ l, 0 ≤ z ∧ z < 256) : ∀ z ∈ quotedP l, 0 ≤ z ∧ z < 256 := by
 intro z hz
 unfold quotedP at hz
 simp only [List.mem_append, List.mem_singleton, List.mem_flatMap] at hz
 rcases hz with (rfl | ⟨b, hb, hz⟩) | rfl
 ·omega
 ·exact encQ_bytes b (hl b hb).1 (hl b hb).2 z hz
 ·omega
theorem isBare_eq (b : Int) : impl_isBare.f b = some (bareP b) := by
 unfold impl_isBare.f bareP
 by_cases c1 : b ≥ 32
 ·rw [if_pos c1]
  by_cases c2 : b ≤ 126
  ·rw [if_pos c2]
   by_cases c3 : b = 34
   ·rw [if_pos c3, decide_eq_false (by omega)]
   ·rw [if_neg c3]
    by_cases c4 : b = 37
    ·rw [decide_eq_false (by omega)]
     simp [c4]
    ·rw [decide_eq_true (by omega)]
     simp [c4]
  ·rw [if_neg c2, decide_eq_false (by omega)]
 ·rw [if_neg c1, decide_eq_false (by omega)]
theorem implQuoted_loop (l : List Int) (hl : l.length ≤ 20) (hb : ∀ z ∈ l, 0 ≤ z ∧ z < 256) (d : Nat) : ∀ (i : Nat) (out : List Int), i ≤ l.length → l.length - i = d → out.length + 3 * d ≤ 1000 →
  Ev (fun k => impl_quoted.l0 k out l (l.length : Int) (i : Int)) (out ++ (l.drop i).flatMap encQ ++ [34]) := by
 induction d with
 | zero =>
  intro i out hi hd hm
  refine Ev.step (fun k => by rw [impl_quoted.l0]) (ev_if_neg (by omega) (ev_if_pos (by omega) (ev_done ?_)))
  rw [List.drop_of_length_le (by omega)]
  simp
 | succ d ih =>
  intro i out hi hd hm
  have hi' : i < l.length := by omega
  have hr := hb _ (List.getElem_mem hi')
  have hnx := ih (i + 1) (out ++ encQ l[i]) (by omega) (by omega) (by rw [List.length_append]; have := encQ_len l[i]; omega)
  rw [Int.natCast_add i, Int.natCast_one] at hnx
  refine Ev.step (fun k => by rw [impl_quoted.l0]) ?_
  rw [rd_get l i hi', w64 (x := (i : Int) + 1) (by omega) (by omega), List.drop_eq_getElem_cons hi', List.flatMap_cons, ← List.append_assoc out]
  refine ev_if_pos (by omega) (ev_if_pos (by omega) (ev_if_pos (by omega) (ev_bind_eq (isBare_eq _) ?_)))
  by_cases c : bareP l[i] = true
  ·rw [show encQ l[i] = [l[i]] by unfold encQ; rw [if_pos c]] at hnx ⊢
   exact ev_if_pos c (ev_if_pos (by omega) hnx)
  ·rw [show encQ l[i] = [37, bt hexS (l[i] / 16), bt hexS (l[i] % 16)] by unfold encQ; rw [if_neg c]] at hnx ⊢
   rw [and15 _ hr.1 hr.2]
   exact ev_if_neg c (ev_if_pos (by omega) (ev_if_pos (by omega) (ev_if_pos (by omega) (ev_if_pos (by omega) (ev_bind_eq rfl (ev_if_pos (by simp; omega) hnx))))))
theorem implQuoted_ev (l : List Int) (hl : l.length ≤ 20) (hb : ∀ z ∈ l, 0 ≤ z ∧ z < 256) : Ev (fun k => impl_quoted.f k l) (quotedP l) := by
 have h := implQuoted_loop l hl hb l.length 0 [34] (by omega) (by omega) (by simp; omega)
 exact h
theorem specQuoted_loop (l : List Int) (hl : l.length ≤ 20) (hb : ∀ z ∈ l, 0 ≤ z ∧ z < 256) (d : Nat) : ∀ (i : Nat) (out : List Int), i ≤ l.length → l.length - i = d → out.length + 3 * d ≤ 1000 →
  Ev (fun k => spec_l8quoted.l0 k l out (i : Int)) (out ++ (l.drop i).flatMap encQ ++ [34]) := by
 induction d with
 | zero =>
  intro i out hi hd hm
  refine Ev.step (fun k => by rw [spec_l8quoted.l0]) (ev_if_neg (by omega) (ev_if_pos (by omega) (ev_done ?_)))
  rw [List.drop_of_length_le (by omega)]
  simp
 | succ d ih =>
  intro i out hi hd hm
  have hi' : i < l.length := by omega
  have hr := hb _ (List.getElem_mem hi')
  have hnx := ih (i + 1) (out ++ encQ l[i]) (by omega) (by omega) (by rw [List.length_append]; have := encQ_len l[i]; omega)
  rw [Int.natCast_add i, Int.natCast_one] at hnx
  have h16 : spec_l8hex.f ((Int.tdiv l[i] 16) % 256) = some (bt hexS (l[i] / 16)) := by
   rw [Int.tdiv_eq_ediv_of_nonneg hr.1, show (l[i] / 16) % 256 = l[i] / 16 by omega]
   unfold spec_l8hex.f
   rw [if_pos (by omega), if_pos (by omega)]
   rfl
  have h15 : spec_l8hex.f (wrap64 (Int.tmod l[i] 16)) = some (bt hexS (l[i] % 16)) := by
   rw [Int.tmod_eq_emod_of_nonneg hr.1, w64 (by omega) (by omega)]
   unfold spec_l8hex.f
   rw [if_pos (by omega), if_pos (by omega)]
   rfl
  rw [List.drop_eq_getElem_cons hi', List.flatMap_cons, ← List.append_assoc out]
  have j : ∀ b : Bool, b = !bareP l[i] → Ev (fun k => spec_l8quoted.j1 k l out (i : Int) b) (out ++ encQ l[i] ++ (l.drop (i + 1)).flatMap encQ ++ [34]) := by
   intro b hbb
   refine Ev.step (fun k => by rw [spec_l8quoted.j1]) ?_
   rw [rd_get l i hi', w64 (x := (i : Int) + 1) (by omega) (by omega)]
   by_cases c : bareP l[i] = true
   ·rw [show encQ l[i] = [l[i]] by unfold encQ; rw [if_pos c]] at hnx ⊢
    exact ev_if_neg (by rw [hbb, c]; simp) (ev_if_pos (by omega) (ev_if_pos (by omega) (ev_if_pos (by omega) hnx)))
   ·rw [show encQ l[i] = [37, bt hexS (l[i] / 16), bt hexS (l[i] % 16)] by unfold encQ; rw [if_neg c]] at hnx ⊢
    exact ev_if_pos (by rw [hbb]; simpa using c) (ev_if_pos (by omega) (ev_if_pos (by omega) (ev_bind_eq h16 (ev_bind_eq h15 (ev_bind_eq rfl (ev_if_pos (by simp; omega) hnx))))))
  refine Ev.step (fun k => by rw [spec_l8quoted.l0]) ?_
  rw [rd_get l i hi']
  refine ev_if_pos (by omega) (ev_if_pos (by omega) ?_)
  unfold bareP at j
  by_cases c1 : l[i] < 32
  ·exact ev_if_pos c1 (j true (by rw [decide_eq_false (by omega)]; rfl))
  by_cases c2 : l[i] > 126
  ·exact ev_if_neg c1 (ev_if_pos c2 (j true (by rw [decide_eq_false (by omega)]; rfl)))
  by_cases c3 : l[i] = 34
  ·exact ev_if_neg c1 (ev_if_neg c2 (ev_if_pos c3 (j true (by rw [decide_eq_false (by omega)]; rfl))))
  refine ev_if_neg c1 (ev_if_neg c2 (ev_if_neg c3 (j _ ?_)))
  by_cases c4 : l[i] = 37
  ·rw [decide_eq_false (by omega)]
   simp [c4]
  ·rw [decide_eq_true (by omega)]
   simp [c4]
theorem specQuoted_ev (l : List Int) (hl : l.length ≤ 20) (hb : ∀ z ∈ l, 0 ≤ z ∧ z < 256) : Ev (fun k => spec_l8quoted.f k l) (quotedP l) := by
 have h := specQuoted_loop l hl hb l.length 0 [34] (by omega) (by omega) (by simp; omega)
 exact h
/-- Words with blanks between. -/
def joinW : List (List Int) → List Int
 | [] => []
 | x :: xs => x ++ (xs.map (fun y => 32 :: y)).flatten
theorem nums8_flat (r : List (List UInt8)) : nums8 ((r.map (fun y => [32] ++ y)).flatten) = ((r.map nums8).map (fun y => (32 : Int) :: y)).flatten := by
 induction r with
 | nil => rfl
 | cons y ys ih =>
  rw [List.map_cons, List.flatten_cons, nums8_append, ih]
  rfl
theorem back8 (q : List Int) (hq : ∀ z ∈ q, 0 ≤ z ∧ z < 256) : nums8 (Lib.bytesOf q) = q := impl_spaced.back q hq
theorem implSpaced_eq (x : List Int) (xs : List (List Int)) (h0 : 0 < x.length) (hn : xs.length ≤ 10) (hx : x.length ≤ 1000) (hxs : ∀ y ∈ xs, y.length ≤ 2000000) (hb : ∀ l ∈ x :: xs, ∀ z ∈ l, 0 ≤ z ∧ z < 256) : impl_spaced.f (x :: xs) = some (joinW (x :: xs)) := by
 cases xs with
 | nil =>
  unfold impl_spaced.f
  rw [if_neg (by simp), if_pos ⟨rfl, h0, by show x.length ≤ _; omega, hb⟩]
  simp [joinW]
 | cons y ys =>
  have hbl : ∀ q : List Int, (Lib.bytesOf q).length = q.length := fun q => by simp [Lib.bytesOf]
  have hj : Lib.join ((x :: y :: ys).map Lib.bytesOf) [32] = Lib.bytesOf x ++ Lib.joinTail [32] ((y :: ys).map Lib.bytesOf) := by
   rw [List.map_cons, Lib.join_cons]
  have hlens : ∀ r : List (List Int), (∀ q ∈ r, q.length ≤ 2000000) → Lib.lens (r.map Lib.bytesOf) ≤ 2000000 * r.length := by
   intro r
   induction r with
   | nil => intro _; simp [Lib.lens]
   | cons q qs ih =>
    intro h
    have h1 := ih (fun z hz => h z (List.mem_cons_of_mem _ hz))
    have h2 := h q (List.mem_cons_self ..)
    simp only [Lib.lens, List.map_cons, List.sum_cons, hbl, List.length_cons] at h1 ⊢
    omega
  have hl := hlens (y :: ys) hxs
  have hle : Lib.lens ((x :: y :: ys).map Lib.bytesOf) ≤ 1000000000 := by
   rw [List.map_cons]
   simp only [Lib.lens, List.map_cons, List.sum_cons, hbl] at hl ⊢
   simp only [List.length_cons] at hl hn
   omega
  unfold impl_spaced.f
  rw [if_pos ⟨by simp, by simp only [List.length_cons] at hn ⊢; omega, hle, by rw [hj, List.length_append, hbl]; omega, hb⟩, hj]
  congr 1
  show nums8 (Lib.bytesOf x ++ Lib.joinTail [32] ((y :: ys).map Lib.bytesOf)) = _
  rw [nums8_append, back8 x (hb x (List.mem_cons_self ..))]
  unfold Lib.joinTail joinW
  rw [nums8_flat, List.map_map, List.map_map]
  congr 2
  apply List.map_congr_left
  intro q hq
  show (32 : Int) :: nums8 (Lib.bytesOf q) = 32 :: q
  rw [back8 q (hb q (List.mem_cons_of_mem _ hq))]
theorem l8word_eqI (a b : List Int) (ha : 0 < a.length) (ha2 : a.length ≤ 3000000) (hb : b.length ≤ 10000000) : spec_l8word.f a b = some (a ++ 32 :: b) := by
 unfold spec_l8word.f
 rw [if_pos (by omega), if_pos (by omega)]
 show (if (a ++ [32]).length + b.length < _ then _ else _) = _
 rw [if_pos (by simp; omega)]
 simp
/-- What a letter stands for. -/
def pickP (key val : List Int) (dig : List Int) (c : UInt8) : List Int := if c = 107 then key else if c = 118 then quotedP val else dig
theorem opText_loop (s : ByteArray) (hs : s.size ≤ 10) (hc : ∀ b ∈ s.data.toList, b.toNat < 128) (kd : Int) (key val : List Int) (n : Nat) (hn : n ≤ 1000000) (hv : val.length ≤ 20) (hvb : ∀ z ∈ val, 0 ≤ z ∧ z < 256) (r : List Int) (d : Nat) :
  ∀ (i : Nat) (ws : List (List Int)), i ≤ s.size → s.size - i = d → ws.length + d ≤ 1000 → impl_spaced.f (ws ++ (s.data.toList.drop i).map (pickP key val (nums8 (Lib.decDigits n)))) = some r →
  Ev (fun k => impl_OpText.l0 k ws s kd key val (n : Int) (i : Int)) (r, true) := by
 have hsl : s.data.toList.length = s.size := by simp
 induction d with
 | zero =>
  intro i ws hi hd hm h
  rw [List.drop_of_length_le (by omega), List.map_nil, List.append_nil] at h
  refine Ev.step (fun k => by rw [impl_OpText.l0]) ?_
  refine ev_bind_eq (a := false) (by unfold virtual_more.f; rw [if_pos ⟨by omega, by omega⟩, decide_eq_false (by omega)]) (ev_if_neg (by simp) (ev_bind_eq h (Ev.now _)))
 | succ d ih =>
  intro i ws hi hd hm h
  have hi' : i < s.data.toList.length := by omega
  rw [List.drop_eq_getElem_cons hi', List.map_cons] at h
  have hru : virtual_rune.f s (i : Int) = some ((s.data.toList[i]).toNat : Int) := by
   unfold virtual_rune.f
   rw [if_pos ⟨by omega, by omega, hc⟩, Int.toNat_natCast, List.getD_eq_getElem?_getD, List.getElem?_eq_getElem hi']
   rfl
  have nx : ∀ x : List Int, pickP key val (nums8 (Lib.decDigits n)) s.data.toList[i] = x → Ev (fun k => impl_OpText.l0 k (ws ++ [x]) s kd key val (n : Int) ((i : Int) + 1)) (r, true) := by
   intro x hx
   have h2 := ih (i + 1) (ws ++ [x]) (by omega) (by omega) (by simp; omega) (by rw [List.append_assoc, ← hx]; exact h)
   rw [Int.natCast_add i, Int.natCast_one] at h2
   exact h2
  refine Ev.step (fun k => by rw [impl_OpText.l0]) ?_
  rw [w64 (x := (i : Int) + 1) (by omega) (by omega)]
  refine ev_bind_eq (a := true) (by unfold virtual_more.f; rw [if_pos ⟨by omega, by omega⟩, decide_eq_true (by omega)]) (ev_if_pos rfl (ev_bind_eq hru ?_))
  by_cases c1 : s.data.toList[i] = 107
  ·refine ev_if_pos (by rw [c1]; rfl) (ev_if_pos (by omega) (nx key (by unfold pickP; rw [if_pos c1])))
  have c1' : ¬ (((s.data.toList[i]).toNat : Int) = 107) := fun e => c1 (by
   apply UInt8.toNat_inj.1
   have : (107 : UInt8).toNat = 107 := rfl
   omega)
  refine ev_if_neg c1' ?_
  by_cases c2 : s.data.toList[i] = 118
  ·exact ev_if_pos (by rw [c2]; rfl) (Ev.bind (implQuoted_ev val hv hvb) (ev_if_pos (by omega) (nx _ (by unfold pickP; rw [if_neg c1, if_pos c2]))))
  have c2' : ¬ (((s.data.toList[i]).toNat : Int) = 118) := fun e => c2 (by
   apply UInt8.toNat_inj.1
   have : (118 : UInt8).toNat = 118 := rfl
   omega)
  exact ev_if_neg c2' (ev_bind_eq (implDecimal_eq n hn) (ev_if_pos (by omega) (nx _ (by unfold pickP; rw [if_neg c1, if_neg c2]))))
theorem j3_ev (x3 : List Int) (b : Bool) (kd : Int) (key val : List Int) (n : Nat) (hn : n ≤ 1000000) (h0 : 0 < x3.length) (h1 : x3.length ≤ 3000000) : Ev (fun k => spec_l8text.j3 k x3 b kd key val (n : Int)) (if b = true then x3 ++ 32 :: nums8 (Lib.decDigits n) else x3) := by
 have hl := dec_len n
 refine Ev.step (fun k => by rw [spec_l8text.j3]) ?_
 cases b with
 | true => exact ev_if_pos rfl (Ev.bind (l8digits_ev n hn) (ev_bind_eq (l8word_eqI _ _ h0 h1 (by rw [nums8_length]; omega)) (Ev.now _)))
 | false => exact ev_if_neg (by simp) (Ev.now _)
theorem j2_ev (x3 : List Int) (b : Bool) (kd : Int) (hb : b = decide (kd = 2 ∨ kd = 4 ∨ kd = 5 ∨ kd = 6 ∨ kd = 7)) (key val : List Int) (n : Nat) (hn : n ≤ 1000000) (h0 : 0 < x3.length) (h1 : x3.length ≤ 3000000) : Ev (fun k => spec_l8text.j2 k x3 kd key val (n : Int)) (if b = true then x3 ++ 32 :: nums8 (Lib.decDigits n) else x3) := by
 have e : ∀ c : Bool, c = b → Ev (fun k => spec_l8text.j3 k x3 c kd key val (n : Int)) (if b = true then x3 ++ 32 :: nums8 (Lib.decDigits n) else x3) := fun c hc => hc ▸ j3_ev x3 c kd key val n hn h0 h1
 refine Ev.step (fun k => by rw [spec_l8text.j2]) ?_
 subst hb
 refine ev_ite (fun c => e _ (by subst c; rfl)) (fun c1 => ev_ite (fun c => e _ (by subst c; rfl)) (fun c2 => ev_ite (fun c => e _ (by subst c; rfl)) (fun c3 => ev_ite (fun c => e _ (by subst c; rfl)) (fun c4 => e _ ?_))))
 by_cases c5 : kd = 7
 ·subst c5
  rfl
 ·rw [decide_eq_false (by omega)]
  simpa using c5
theorem j1_ev (x3 : List Int) (a b : Bool) (kd : Int) (hb : b = decide (kd = 2 ∨ kd = 4 ∨ kd = 5 ∨ kd = 6 ∨ kd = 7)) (key val : List Int) (n : Nat) (hn : n ≤ 1000000) (hv : val.length ≤ 20) (hvb : ∀ z ∈ val, 0 ≤ z ∧ z < 256) (h0 : 0 < x3.length) (h1 : x3.length ≤ 2000000) :
  Ev (fun k => spec_l8text.j1 k x3 a kd key val (n : Int)) (if b = true then (if a = true then x3 ++ 32 :: quotedP val else x3) ++ 32 :: nums8 (Lib.decDigits n) else if a = true then x3 ++ 32 :: quotedP val else x3) := by
 have hq : (quotedP val).length ≤ 100 := by
  have := flat_len val
  unfold quotedP
  simp only [List.length_append, List.length_singleton]
  omega
 refine Ev.step (fun k => by rw [spec_l8text.j1]) ?_
 cases a with
 | true =>
  refine ev_if_pos rfl (Ev.bind (specQuoted_ev val hv hvb) (ev_bind_eq (l8word_eqI _ _ h0 (by omega) (by omega)) ?_))
  exact j2_ev (x3 ++ 32 :: quotedP val) b kd hb key val n hn (by rw [List.length_append]; omega) (by rw [List.length_append, List.length_cons]; omega)
 | false => exact ev_if_neg (by simp) (j2_ev x3 b kd hb key val n hn h0 (by omega))
theorem j0_ev (x3 : List Int) (a b : Bool) (kd : Int) (ha : a = decide (kd = 1 ∨ kd = 2 ∨ kd = 6)) (hb : b = decide (kd = 2 ∨ kd = 4 ∨ kd = 5 ∨ kd = 6 ∨ kd = 7)) (key val : List Int) (n : Nat) (hn : n ≤ 1000000) (hv : val.length ≤ 20) (hvb : ∀ z ∈ val, 0 ≤ z ∧ z < 256) (h0 : 0 < x3.length) (h1 : x3.length ≤ 2000000) :
  Ev (fun k => spec_l8text.j0 k x3 kd key val (n : Int)) (if b = true then (if a = true then x3 ++ 32 :: quotedP val else x3) ++ 32 :: nums8 (Lib.decDigits n) else if a = true then x3 ++ 32 :: quotedP val else x3) := by
 have e : ∀ c : Bool, c = a → Ev (fun k => spec_l8text.j1 k x3 c kd key val (n : Int)) (if b = true then (if a = true then x3 ++ 32 :: quotedP val else x3) ++ 32 :: nums8 (Lib.decDigits n) else if a = true then x3 ++ 32 :: quotedP val else x3) := fun c hc => hc ▸ j1_ev x3 c b kd hb key val n hn hv hvb h0 h1
 refine Ev.step (fun k => by rw [spec_l8text.j0]) ?_
 subst ha
 refine ev_ite (fun c => e _ (by subst c; rfl)) (fun c1 => ev_ite (fun c => e _ (by subst c; rfl)) (fun c2 => e _ ?_))
 by_cases c5 : kd = 6
 ·subst c5
  rfl
 ·rw [decide_eq_false (by omega)]
  simpa using c5
theorem opText_go (kd : Int) (nm pt : ByteArray) (key val : List Int) (n : Nat) (hq hd : Bool) (hk1 : hq = decide (kd = 1 ∨ kd = 2 ∨ kd = 6)) (hk2 : hd = decide (kd = 2 ∨ kd = 4 ∨ kd = 5 ∨ kd = 6 ∨ kd = 7)) (hn : n ≤ 1000000) (hv : val.length ≤ 20) (hvb : ∀ z ∈ val, 0 ≤ z ∧ z < 256) (hkl : key.length ≤ 1048576) (hkb : ∀ z ∈ key, 0 ≤ z ∧ z < 256)
  (hn1 : spec_l8name.f kd = some nm) (hn2 : impl_OpName.f kd = some (nums8 nm.data.toList)) (hn3 : 0 < nm.data.toList.length ∧ nm.data.toList.length ≤ 10 ∧ nm.size ≤ 10) (hpt : impl_parts.f kd = some pt) (hp : pt.size ≤ 10) (hpa : ∀ b ∈ pt.data.toList, b.toNat < 128)
  (hw : pt.data.toList.map (pickP key val (nums8 (Lib.decDigits n))) = (if 0 < key.length then [key] else []) ++ (if hq = true then [quotedP val] else []) ++ (if hd = true then [nums8 (Lib.decDigits n)] else []))
  (hok : opOkP kd key val (n : Int) = true) : ∃ r : List Int, r.length ≤ 8000000 ∧ Ev (fun k => spec_OpText.f k kd key val (n : Int)) (r, true) ∧ Ev (fun k => impl_OpText.f k kd key val (n : Int)) (r, true) := by
 have hl := dec_len n
 have hql : (quotedP val).length ≤ 100 := by
  have := flat_len val
  unfold quotedP
  simp only [List.length_append, List.length_singleton]
  omega
 have hnl := nums8_length nm.data.toList
 have hdl := nums8_length (Lib.decDigits n)
 have hmem : ∀ y ∈ pt.data.toList.map (pickP key val (nums8 (Lib.decDigits n))), y.length ≤ 2000000 ∧ ∀ z ∈ y, 0 ≤ z ∧ z < 256 := by
  intro y hy
  obtain ⟨c, _, rfl⟩ := List.mem_map.1 hy
  unfold pickP
  split
  ·exact ⟨by omega, hkb⟩
  ·split
   ·exact ⟨by omega, quotedP_bytes val hvb⟩
   ·exact ⟨by omega, nums8_bytes _⟩
 have hsp := implSpaced_eq (nums8 nm.data.toList) (pt.data.toList.map (pickP key val (nums8 (Lib.decDigits n)))) (by omega) (by simp; omega) (by omega) (fun y hy => (hmem y hy).1) (by
  intro l hl z hz
  rcases List.mem_cons.1 hl with rfl | hl
  ·exact nums8_bytes _ z hz
  ·exact (hmem l hl).2 z hz)
 have hle : (joinW (nums8 nm.data.toList :: pt.data.toList.map (pickP key val (nums8 (Lib.decDigits n))))).length ≤ 8000000 := by
  rw [hw]
  unfold joinW
  by_cases c : 0 < key.length <;> cases hq <;> cases hd <;> simp [c] <;> omega
 have hlp := opText_loop pt hp hpa kd key val n hn hv hvb _ pt.size 0 [nums8 nm.data.toList] (by omega) (by omega) (by simp; omega) hsp
 have hi := implOpOk_ev kd key val (n : Int) (by omega)
 have hs := specOpOk_ev kd key val (n : Int) (by omega)
 rw [hok] at hi hs
 refine ⟨_, hle, ?_, ?_⟩
 ·unfold spec_OpText.f
  refine Ev.bind hs (ev_if_pos rfl (Ev.bind ?_ (Ev.now _)))
  unfold spec_l8text.f
  have hvb2 : virtual_bytes.f nm = some (nums8 nm.data.toList) := by
   unfold virtual_bytes.f
   rw [if_pos (by omega)]
   rfl
  refine ev_bind_eq hn1 (ev_bind_eq hvb2 ?_)
  rw [hw]
  by_cases c : 0 < key.length
  ·refine ev_if_pos (by omega) (ev_bind_eq (l8word_eqI _ _ (by omega) (by omega) (by omega)) ?_)
   refine ev_of (j0_ev (nums8 nm.data.toList ++ 32 :: key) hq hd kd hk1 hk2 key val n hn hv hvb (by rw [List.length_append]; omega) (by rw [List.length_append, List.length_cons]; omega)) ?_
   unfold joinW
   cases hq <;> cases hd <;> simp [c]
  ·refine ev_if_neg (by omega) ?_
   refine ev_of (j0_ev (nums8 nm.data.toList) hq hd kd hk1 hk2 key val n hn hv hvb (by omega) (by omega)) ?_
   unfold joinW
   cases hq <;> cases hd <;> simp [c]
 ·unfold impl_OpText.f
  exact Ev.bind hi (ev_if_pos rfl (ev_bind_eq hn2 (ev_bind_eq hpt hlp)))
end Go.Proofs.YtmnjdmmljkahgaaDoor.Pure
