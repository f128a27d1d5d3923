import Derived.Test.YtdgegnakiljfjaaPTx0
import Derived.Test.YtdgegnakiljfjaaPTx1
import Derived.Test.YtdgegnakiljfjaaPTx10
import Derived.Test.YtdgegnakiljfjaaPTx11
import Derived.Test.YtdgegnakiljfjaaPTx2
import Derived.Test.YtdgegnakiljfjaaPTx3
import Derived.Test.YtdgegnakiljfjaaPTx4
import Derived.Test.YtdgegnakiljfjaaPTx5
import Derived.Test.YtdgegnakiljfjaaPTx6
import Derived.Test.YtdgegnakiljfjaaPTx7
import Derived.Test.YtdgegnakiljfjaaPTx8
import Derived.Test.YtdgegnakiljfjaaPTx9
import Derived.Lib.Bytes
namespace Go.Proofs.Ytdgegnakiljfjaa.Pure
open Go.RowKit Go.Proofs.Ytdgegnakiljfjaa.PT Go.Proofs.YtdgegnakiljfjaaW.PrintWords Go.Proofs.YtdgegnakiljfjaaW.PrintLast Go.Proofs.YtdgegnakiljfjaaW.PrintMore
set_option linter.unusedVariables false
set_option linter.unusedSimpArgs false
theorem w64 {x : Int} (h0 : -9223372036854775808 ≤ x) (h1 : x ≤ 9223372036854775807) : wrap64 x = x := by
 unfold wrap64
 omega
theorem ev_if_pos {α : Type} {c : Prop} [Decidable c] {g f : Nat → Option α} {r : α} (h : c) (k : Ev g r) : Ev (fun n => if c then g n else f n) r := by
 simp only [if_pos h]
 exact k
theorem ev_if_neg {α : Type} {c : Prop} [Decidable c] {g f : Nat → Option α} {r : α} (h : ¬ c) (k : Ev f r) : Ev (fun n => if c then g n else f n) r := by
 simp only [if_neg h]
 exact k
theorem ev_bind_eq {α β : Type} {g : Option α} {f : Nat → α → Option β} {a : α} {r : β} (h : g = some a) (k : Ev (fun n => f n a) r) : Ev (fun n => g.bind (f n)) r := by
 subst h
 exact k
theorem rd_nat (l : List Int) (i : Nat) : rd l (i : Int) = l.getD i 0 := by
 unfold rd
 rw [Int.toNat_natCast]
theorem rd_get (l : List Int) (i : Nat) (h : i < l.length) : rd l (i : Int) = l[i] := by
 rw [rd_nat, List.getD_eq_getElem?_getD, List.getElem?_eq_getElem h]
 rfl
theorem take_set_succ {α : Type} (x l : List α) (i : Nat) (v : α) (hx : i < x.length) (hl : i < l.length) (h : x.take i = l.take i) (hv : v = l[i]) : (x.set i v).take (i + 1) = l.take (i + 1) := by
 rw [List.take_succ_eq_append_getElem (by simpa using hx), List.take_succ_eq_append_getElem hl, List.take_set_of_le (Nat.le_refl i), h, List.getElem_set_self, hv]
theorem eq_of_take {α : Type} {x l : List α} {n : Nat} (hx : x.length = n) (hl : l.length = n) (h : x.take n = l.take n) : x = l := by
 rw [List.take_of_length_le (by omega), List.take_of_length_le (by omega)] at h
 exact h
/-- What the marks are: k, k + 1, .. as bytes. -/
def marks (k : Int) (n : Nat) : List Int := (List.range n).map fun (j : Nat) => (k + (j : Int)) % 256
theorem marks_length (k : Int) (n : Nat) : (marks k n).length = n := by simp [marks]
theorem marks_get (k : Int) (n i : Nat) (h : i < (marks k n).length) : (marks k n)[i] = (k + (i : Int)) % 256 := by simp [marks]
theorem wf_u8 {n : Int} (h : (Lit.int .u8 n).wf = true) : 0 ≤ n ∧ n ≤ 255 := by
 simp [Lit.wf, IntKind.min, IntKind.max, IntKind.signed, IntKind.bits] at h
 omega
theorem ev_ite {α : Type} {c : Prop} [Decidable c] {g f : Nat → Option α} {r : α} (h : c → Ev g r) (h' : ¬ c → Ev f r) : Ev (fun n => if c then g n else f n) r := by
 by_cases hc : c
 ·exact ev_if_pos hc (h hc)
 ·exact ev_if_neg hc (h' hc)
theorem ev_done {α : Type} {a b : α} (h : a = b) : Ev (fun _ => some a) b := h ▸ Ev.now a
theorem ev_of {α : Type} {g : Nat → Option α} {a b : α} (h : Ev g a) (e : a = b) : Ev g b := e ▸ h
-- clone.lean
theorem clone_eq (l : List Int) (h : l.length ≤ 140737488351232) : slices_Clone_byte_byte.f l = some l := by
 unfold slices_Clone_byte_byte.f
 rw [if_pos (by omega)]
-- bytesp.lean: lists of bytes
def Bytes (l : List Int) : Prop := ∀ x ∈ l, (Lit.int .u8 x).wf = true
-- keyok.lean: what a key is
/-- The bytes of keys: letters and '/'. -/
def keyByte (c : Int) : Bool := decide ((97 ≤ c ∧ c ≤ 122) ∨ c = 47)
def keyP (l : List Int) : Bool := decide (1 ≤ l.length ∧ l.length ≤ 20) && l.all keyByte
theorem drop_cons (l : List Int) (i : Nat) (h : i < l.length) : l.drop i = rd l (i : Int) :: l.drop (i + 1) := by
 rw [rd_get l i h]
 exact List.drop_eq_getElem_cons h
theorem specKey_loop (l : List Int) (hn : l.length ≤ 140737488351232) (d : Nat) : ∀ (i : Nat), i ≤ l.length → l.length - i = d → Ev (fun k => spec_l2key.l0 k l (i : Int)) ((l.drop i).all keyByte) := by
 induction d with
 | zero =>
  intro i hi hd
  refine Ev.step (fun k => by rw [spec_l2key.l0]) ?_
  refine ev_if_neg (by omega) ?_
  rw [List.drop_of_length_le (by omega)]
  exact Ev.now _
 | succ d ih =>
  intro i hi hd
  have h := ih (i + 1) (by omega) (by omega)
  rw [Int.natCast_add, Int.natCast_one] at h
  rw [drop_cons l i (by omega), List.all_cons]
  refine Ev.step (fun k => by rw [spec_l2key.l0]) ?_
  rw [w64 (by omega) (by omega)]
  refine ev_if_pos (by omega) (ev_if_pos (by omega) ?_)
  by_cases c1 : rd l (i : Int) < 97
  ·refine ev_if_pos c1 ?_
   by_cases c2 : rd l (i : Int) = 47
   ·refine ev_if_pos c2 ?_
    rw [show keyByte (rd l (i : Int)) = true from decide_eq_true (.inr c2), Bool.true_and]
    exact h
   ·refine ev_if_neg c2 ?_
    rw [show keyByte (rd l (i : Int)) = false from decide_eq_false (by omega), Bool.false_and]
    exact Ev.now _
  ·refine ev_if_neg c1 ?_
   by_cases c3 : rd l (i : Int) > 122
   ·refine ev_if_pos c3 ?_
    refine ev_if_neg (by omega) ?_
    rw [show keyByte (rd l (i : Int)) = false from decide_eq_false (by omega), Bool.false_and]
    exact Ev.now _
   ·refine ev_if_neg c3 ?_
    rw [show keyByte (rd l (i : Int)) = true from decide_eq_true (by omega), Bool.true_and]
    exact h
theorem specKey_ev (l : List Int) (hn : l.length ≤ 140737488351232) : Ev (fun k => spec_l2key.f k l) (keyP l) := by
 unfold spec_l2key.f
 by_cases c : (l.length : Int) < 1
 ·refine ev_if_pos c ?_
  refine Ev.step (fun k => by rw [spec_l2key.j0]) ?_
  refine ev_if_pos rfl ?_
  rw [show keyP l = false from by unfold keyP; rw [decide_eq_false (by omega), Bool.false_and]]
  exact Ev.now _
 ·refine ev_if_neg c ?_
  refine Ev.step (fun k => by rw [spec_l2key.j0]) ?_
  by_cases c2 : (l.length : Int) > 20
  ·refine ev_if_pos (decide_eq_true c2) ?_
   rw [show keyP l = false from by unfold keyP; rw [decide_eq_false (by omega), Bool.false_and]]
   exact Ev.now _
  ·refine ev_if_neg (by rw [decide_eq_false c2]; decide) ?_
   rw [show keyP l = l.all keyByte from by unfold keyP; rw [decide_eq_true (by omega), Bool.true_and]]
   exact specKey_loop l hn l.length 0 (by omega) (by omega)
theorem implKey_loop (l : List Int) (hn : l.length ≤ 140737488351232) (d : Nat) : ∀ (i : Nat), i ≤ l.length → l.length - i = d → Ev (fun k => impl_KeyOk.l0 k l l (l.length : Int) (i : Int)) (decide (1 ≤ l.length ∧ l.length ≤ 20) && (l.drop i).all keyByte) := by
 induction d with
 | zero =>
  intro i hi hd
  refine Ev.step (fun k => by rw [impl_KeyOk.l0]) ?_
  refine ev_if_neg (by omega) ?_
  rw [List.drop_of_length_le (by omega), List.all_nil, Bool.and_true]
  unfold impl_within.f
  by_cases c : 1 ≤ (l.length : Int)
  ·rw [if_pos c, decide_eq_decide.mpr (show (1 ≤ l.length ∧ l.length ≤ 20) ↔ ((l.length : Int) ≤ 20) by omega)]
   exact Ev.now _
  ·rw [if_neg c, decide_eq_false (by omega)]
   exact Ev.now _
 | succ d ih =>
  intro i hi hd
  have h := ih (i + 1) (by omega) (by omega)
  rw [Int.natCast_add, Int.natCast_one] at h
  rw [drop_cons l i (by omega), List.all_cons]
  refine Ev.step (fun k => by rw [impl_KeyOk.l0]) ?_
  rw [w64 (by omega) (by omega)]
  refine ev_if_pos (by omega) (ev_if_pos (by omega) (ev_if_pos (by omega) ?_))
  by_cases c1 : rd l (i : Int) < 97
  ·refine ev_if_pos c1 ?_
   by_cases c2 : rd l (i : Int) = 47
   ·refine ev_if_pos c2 ?_
    rw [show keyByte (rd l (i : Int)) = true from decide_eq_true (.inr c2), Bool.true_and]
    exact h
   ·refine ev_if_neg c2 ?_
    rw [show keyByte (rd l (i : Int)) = false from decide_eq_false (by omega), Bool.false_and, Bool.and_false]
    exact Ev.now _
  ·refine ev_if_neg c1 ?_
   by_cases c3 : rd l (i : Int) > 122
   ·refine ev_if_pos c3 ?_
    refine ev_if_neg (by omega) ?_
    rw [show keyByte (rd l (i : Int)) = false from decide_eq_false (by omega), Bool.false_and, Bool.and_false]
    exact Ev.now _
   ·refine ev_if_neg c3 ?_
    rw [show keyByte (rd l (i : Int)) = true from decide_eq_true (by omega), Bool.true_and]
    exact h
theorem implKey_ev (l : List Int) (hn : l.length ≤ 140737488351232) : Ev (fun k => impl_KeyOk.f k l) (keyP l) :=
 implKey_loop l hn l.length 0 (by omega) (by omega)
-- statev.lean: what a valid state is; loops that hold a test at every place
theorem loop_all {L : Nat → Nat → Option Bool} (n : Nat) (P : Nat → Prop) (R : Prop) (hend : ∃ b, Ev (fun k => L k n) b ∧ (b = true ↔ R))
  (hstep : ∀ i, i < n → (∀ j, j < i → P j) → (P i ∧ ∀ b, Ev (fun k => L k (i + 1)) b → Ev (fun k => L k i) b) ∨ (¬ P i ∧ Ev (fun k => L k i) false)) (d : Nat) :
  ∀ i, i ≤ n → n - i = d → (∀ j, j < i → P j) → ∃ b, Ev (fun k => L k i) b ∧ (b = true ↔ ((∀ j, j < n → P j) ∧ R)) := by
 induction d with
 | zero =>
  intro i hi hd hp
  obtain rfl : i = n := by omega
  obtain ⟨b, e, h⟩ := hend
  exact ⟨b, e, h.trans ⟨fun r => ⟨hp, r⟩, fun r => r.2⟩⟩
 | succ d ih =>
  intro i hi hd hp
  rcases hstep i (by omega) hp with ⟨p, next⟩ | ⟨p, e⟩
  ·obtain ⟨b, e, h⟩ := ih (i + 1) (by omega) (by omega) (fun j hj => by
    rcases Nat.lt_or_ge j i with z | z
    ·exact hp j z
    ·have : j = i := by omega
     subst this
     exact p)
   exact ⟨b, next b e, h⟩
  ·exact ⟨false, e, ⟨fun h => absurd h (by simp), fun h => absurd (h.1 i (by omega)) p⟩⟩
theorem loop_all2 {L : Nat → Nat → Option Bool} (n : Nat) (P : Nat → Prop) (R : Prop) (hend : (∀ j, j < n → P j) → ∃ b, Ev (fun k => L k n) b ∧ (b = true ↔ R))
  (hstep : ∀ i, i < n → (∀ j, j < i → P j) → (P i ∧ ∀ b, Ev (fun k => L k (i + 1)) b → Ev (fun k => L k i) b) ∨ (¬ P i ∧ Ev (fun k => L k i) false)) (d : Nat) :
  ∀ i, i ≤ n → n - i = d → (∀ j, j < i → P j) → ∃ b, Ev (fun k => L k i) b ∧ (b = true ↔ ((∀ j, j < n → P j) ∧ R)) := by
 induction d with
 | zero =>
  intro i hi hd hp
  obtain rfl : i = n := by omega
  obtain ⟨b, e, h⟩ := hend hp
  exact ⟨b, e, h.trans ⟨fun r => ⟨hp, r⟩, fun r => r.2⟩⟩
 | succ d ih =>
  intro i hi hd hp
  rcases hstep i (by omega) hp with ⟨p, next⟩ | ⟨p, e⟩
  ·obtain ⟨b, e, h⟩ := ih (i + 1) (by omega) (by omega) (fun j hj => by
    rcases Nat.lt_or_ge j i with z | z
    ·exact hp j z
    ·have : j = i := by omega
     subst this
     exact p)
   exact ⟨b, next b e, h⟩
  ·exact ⟨false, e, ⟨fun h => absurd h (by simp), fun h => absurd (h.1 i (by omega)) p⟩⟩
theorem rd_T92_mem (l : List S92) (i : Nat) (h : i < l.length) : rd_T92 l (i : Int) ∈ l := by
 unfold rd_T92
 rw [Int.toNat_natCast]
 simp [List.getD, h]
theorem rd_T94_mem (l : List S94) (i : Nat) (h : i < l.length) : rd_T94 l (i : Int) ∈ l := by
 unfold rd_T94
 rw [Int.toNat_natCast]
 simp [List.getD, h]
theorem rd_T92_get (l : List S92) (i : Nat) (h : i < l.length) : rd_T92 l (i : Int) = l[i] := by
 unfold rd_T92
 rw [Int.toNat_natCast]
 simp [List.getD, h]
theorem rd_T94_get (l : List S94) (i : Nat) (h : i < l.length) : rd_T94 l (i : Int) = l[i] := by
 unfold rd_T94
 rw [Int.toNat_natCast]
 simp [List.getD, h]
theorem rd_T109_get (l : List S109) (i : Nat) (h : i < l.length) : rd_T109 l (i : Int) = l[i] := by
 unfold rd_T109
 rw [Int.toNat_natCast]
 simp [List.getD, h]
theorem rd_T75_get (l : List S75) (i : Nat) (h : i < l.length) : rd_T75 l (i : Int) = l[i] := by
 unfold rd_T75
 rw [Int.toNat_natCast]
 simp [List.getD, h]
/-- Where a session is, and a tomb; -1: nowhere. -/
def sfind (id : Int) : List S109 → Int → Int
 | [], _ => -1
 | x :: xs, i => if x.f0 = id then i else sfind id xs (i + 1)
def tfind (key : List Int) : List S94 → Int → Int
 | [], _ => -1
 | x :: xs, i => if x.f0 = key then i else tfind key xs (i + 1)
def rowV (idx : Int) (sess : List S109) (rows : List S92) (i : Nat) : Prop :=
 keyP (rd_T92 rows i).f0 = true ∧ (rd_T92 rows i).f1.length ≤ 20 ∧ 1 ≤ (rd_T92 rows i).f2 ∧ (rd_T92 rows i).f2 ≤ idx ∧ ((rd_T92 rows i).f3 = 0 ∨ ¬ sfind (rd_T92 rows i).f3 sess 0 < 0) ∧ (0 < i → bytes_Compare.cmp (rd_T92 rows ((i : Int) - 1)).f0 (rd_T92 rows i).f0 < 0)
def tombV (idx lost : Int) (rows : List S92) (tombs : List S94) (i : Nat) : Prop :=
 keyP (rd_T94 tombs i).f0 = true ∧ (∀ r ∈ rows, r.f0 ≠ (rd_T94 tombs i).f0) ∧ tfind (rd_T94 tombs i).f0 tombs 0 = (i : Int) ∧ 1 ≤ (rd_T94 tombs i).f1 ∧ (rd_T94 tombs i).f1 ≤ idx ∧ lost ≤ (rd_T94 tombs i).f1 ∧ (0 < i → (rd_T94 tombs ((i : Int) - 1)).f1 ≤ (rd_T94 tombs i).f1)
def sessV (idx : Int) (sess : List S109) (i : Nat) : Prop :=
 1 ≤ (rd_T109 sess i).f0 ∧ (rd_T109 sess i).f0 ≤ idx ∧ (0 < i → (rd_T109 sess ((i : Int) - 1)).f0 < (rd_T109 sess i).f0)
def lastV (idx : Int) (lasts : List S75) (i : Nat) : Prop :=
 0 ≤ (rd_T75 lasts i).f0 ∧ (rd_T75 lasts i).f0 ≤ 3 ∧ 1 ≤ (rd_T75 lasts i).f1 ∧ (rd_T75 lasts i).f1 ≤ 1000000 ∧ 0 ≤ (rd_T75 lasts i).f2.f0 ∧ (rd_T75 lasts i).f2.f0 ≤ 5 ∧ 1 ≤ (rd_T75 lasts i).f2.f1 ∧ (rd_T75 lasts i).f2.f1 ≤ idx ∧ (0 < i → (rd_T75 lasts ((i : Int) - 1)).f0 < (rd_T75 lasts i).f0)
def headV (idx : Int) (rows : List S92) (tombs : List S94) (lost : Int) (sess : List S109) (lasts : List S75) : Prop :=
 (0 ≤ idx ∧ idx ≤ 1000000) ∧ (0 ≤ lost ∧ lost ≤ idx) ∧ rows.length ≤ 20 ∧ tombs.length ≤ 10 ∧ sess.length ≤ 8 ∧ lasts.length ≤ 4
def VState (idx : Int) (rows : List S92) (tombs : List S94) (lost : Int) (sess : List S109) (lasts : List S75) : Prop :=
 headV idx rows tombs lost sess lasts ∧ (∀ i, i < rows.length → rowV idx sess rows i) ∧ (∀ i, i < tombs.length → tombV idx lost rows tombs i) ∧ (∀ i, i < sess.length → sessV idx sess i) ∧ (∀ i, i < lasts.length → lastV idx lasts i)
/-- The rows' bytes are bytes. -/
def ByRows (rows : List S92) : Prop := ∀ r ∈ rows, Bytes r.f0 ∧ Bytes r.f1
def ByTombs (tombs : List S94) : Prop := ∀ t ∈ tombs, Bytes t.f0
-- keysturned.lean: the keys of the rows that turned
/-- The keys of the rows that turned later. -/
def turnK (id : Int) (rows : List S92) : List (List Int) := (rows.filter (fun r => decide (r.f2 > id))).map (fun r => r.f0)
theorem turnK_nil (id : Int) : turnK id [] = [] := rfl
theorem turnK_cons (id : Int) (r : S92) (rows : List S92) : turnK id (r :: rows) = if r.f2 > id then r.f0 :: turnK id rows else turnK id rows := by
 unfold turnK
 by_cases c : r.f2 > id
 ·rw [if_pos c, List.filter_cons_of_pos (by simpa using c), List.map_cons]
 ·rw [if_neg c, List.filter_cons_of_neg (by simpa using c)]
theorem implKeysT_loop (rows : List S92) (hn : rows.length ≤ 1048576) (hk : ∀ r ∈ rows, r.f0.length ≤ 1048576) (id : Int) (d : Nat) : ∀ (i : Nat) (acc : List (List Int)), i ≤ rows.length → rows.length - i = d → acc.length ≤ i →
  Ev (fun k => impl_State_keys.l0 k id acc rows (rows.length : Int) (i : Int)) (acc ++ turnK id (rows.drop i)) := by
 induction d with
 | zero =>
  intro i acc hi hd ha
  refine Ev.step (fun k => by rw [impl_State_keys.l0]) (ev_if_neg (by omega) (ev_done ?_))
  rw [List.drop_of_length_le (by omega), turnK_nil, List.append_nil]
 | succ d ih =>
  intro i acc hi hd ha
  have hi' : i < rows.length := by omega
  have hm := hk rows[i] (List.getElem_mem hi')
  refine Ev.step (fun k => by rw [impl_State_keys.l0]) ?_
  rw [rd_T92_get rows i hi', List.drop_eq_getElem_cons hi', turnK_cons, w64 (by omega) (by omega)]
  refine ev_if_pos (by omega) (ev_if_pos (by omega) (ev_if_pos (by omega) (ev_bind_eq (rfl : virtual_asked_Turned.f _ _ _ _ _ = some (decide (rows[i].f2 > id))) ?_)))
  by_cases c : rows[i].f2 > id
  ·have h := ih (i + 1) (acc ++ [rows[i].f0]) (by omega) (by omega) (by rw [List.length_append, List.length_singleton]; omega)
   rw [Int.natCast_add, Int.natCast_one, List.append_assoc, List.singleton_append] at h
   rw [if_pos c]
   exact ev_if_pos (decide_eq_true c) (ev_bind_eq (clone_eq _ (by omega)) (ev_if_pos (by omega) h))
  ·have h := ih (i + 1) acc (by omega) (by omega) (by omega)
   rw [Int.natCast_add, Int.natCast_one] at h
   rw [if_neg c]
   exact ev_if_neg (by simp [c]) h
theorem specTurned_loop (idx : Int) (rows : List S92) (tombs : List S94) (lost : Int) (sess : List S109) (lasts : List S75) (hn : rows.length ≤ 1048576) (hk : ∀ r ∈ rows, r.f0.length ≤ 1048576) (id : Int) (res : List (List Int) × Bool) (hres : Ev (fun k => spec_Turned.l1 k id (turnK id rows) 0 idx rows tombs lost sess lasts) res) (d : Nat) : ∀ (i : Nat) (acc : List (List Int)), i ≤ rows.length → rows.length - i = d → acc.length ≤ i → acc ++ turnK id (rows.drop i) = turnK id rows →
  Ev (fun k => spec_Turned.l0 k id acc (i : Int) idx rows tombs lost sess lasts) res := by
 induction d with
 | zero =>
  intro i acc hi hd ha he
  rw [List.drop_of_length_le (by omega), turnK_nil, List.append_nil] at he
  subst he
  exact Ev.step (fun k => by rw [spec_Turned.l0]) (ev_if_neg (by omega) hres)
 | succ d ih =>
  intro i acc hi hd ha he
  have hi' : i < rows.length := by omega
  have hm := hk rows[i] (List.getElem_mem hi')
  rw [List.drop_eq_getElem_cons hi', turnK_cons] at he
  refine Ev.step (fun k => by rw [spec_Turned.l0]) ?_
  rw [rd_T92_get rows i hi', w64 (by omega) (by omega)]
  refine ev_if_pos (by omega) (ev_if_pos (by omega) ?_)
  by_cases c : rows[i].f2 > id
  ·rw [if_pos c] at he
   have h := ih (i + 1) (acc ++ [rows[i].f0]) (by omega) (by omega) (by rw [List.length_append, List.length_singleton]; omega) (by rw [List.append_assoc, List.singleton_append]; exact he)
   rw [Int.natCast_add, Int.natCast_one] at h
   exact ev_if_pos c (ev_bind_eq rfl (ev_if_pos (by simp; omega) (ev_if_pos (by omega) h)))
  ·rw [if_neg c] at he
   have h := ih (i + 1) acc (by omega) (by omega) (by omega) he
   rw [Int.natCast_add, Int.natCast_one] at h
   exact ev_if_neg c h
/-- The keys of the tombs that were dug later. -/
def tombK (id : Int) (rows : List S94) : List (List Int) := (rows.filter (fun r => decide (r.f1 > id))).map (fun r => r.f0)
theorem tombK_nil (id : Int) : tombK id [] = [] := rfl
theorem tombK_cons (id : Int) (r : S94) (rows : List S94) : tombK id (r :: rows) = if r.f1 > id then r.f0 :: tombK id rows else tombK id rows := by
 unfold tombK
 by_cases c : r.f1 > id
 ·rw [if_pos c, List.filter_cons_of_pos (by simpa using c), List.map_cons]
 ·rw [if_neg c, List.filter_cons_of_neg (by simpa using c)]
theorem specTombs_loop (idx : Int) (rows : List S92) (tombs : List S94) (lost : Int) (sess : List S109) (lasts : List S75) (hn : tombs.length ≤ 1048576) (hk : ∀ r ∈ tombs, r.f0.length ≤ 1048576) (id : Int) (d : Nat) : ∀ (i : Nat) (acc : List (List Int)), i ≤ tombs.length → tombs.length - i = d → acc.length ≤ 1048576 + i →
  Ev (fun k => spec_Turned.l1 k id acc (i : Int) idx rows tombs lost sess lasts) (acc ++ tombK id (tombs.drop i), true) := by
 induction d with
 | zero =>
  intro i acc hi hd ha
  refine Ev.step (fun k => by rw [spec_Turned.l1]) (ev_if_neg (by omega) (ev_done ?_))
  rw [List.drop_of_length_le (by omega), tombK_nil, List.append_nil]
 | succ d ih =>
  intro i acc hi hd ha
  have hi' : i < tombs.length := by omega
  have hm := hk tombs[i] (List.getElem_mem hi')
  refine Ev.step (fun k => by rw [spec_Turned.l1]) ?_
  rw [rd_T94_get tombs i hi', List.drop_eq_getElem_cons hi', tombK_cons, w64 (by omega) (by omega)]
  refine ev_if_pos (by omega) (ev_if_pos (by omega) ?_)
  by_cases c : tombs[i].f1 > id
  ·have h := ih (i + 1) (acc ++ [tombs[i].f0]) (by omega) (by omega) (by rw [List.length_append, List.length_singleton]; omega)
   rw [Int.natCast_add, Int.natCast_one, List.append_assoc, List.singleton_append] at h
   rw [if_pos c]
   exact ev_if_pos c (ev_bind_eq rfl (ev_if_pos (by simp; omega) (ev_if_pos (by omega) h)))
  ·have h := ih (i + 1) acc (by omega) (by omega) (by omega)
   rw [Int.natCast_add, Int.natCast_one] at h
   rw [if_neg c]
   exact ev_if_neg c h
theorem implTombs_loop (tombs : List S94) (hn : tombs.length ≤ 1048576) (hk : ∀ r ∈ tombs, r.f0.length ≤ 1048576) (id : Int) (d : Nat) : ∀ (i : Nat) (acc : List (List Int)), i ≤ tombs.length → tombs.length - i = d → acc.length ≤ 1048576 + i →
  Ev (fun k => impl_Turned.l0 k acc tombs (tombs.length : Int) (i : Int) id) (acc ++ tombK id (tombs.drop i), true) := by
 induction d with
 | zero =>
  intro i acc hi hd ha
  refine Ev.step (fun k => by rw [impl_Turned.l0]) (ev_if_neg (by omega) (ev_done ?_))
  rw [List.drop_of_length_le (by omega), tombK_nil, List.append_nil]
 | succ d ih =>
  intro i acc hi hd ha
  have hi' : i < tombs.length := by omega
  have hm := hk tombs[i] (List.getElem_mem hi')
  refine Ev.step (fun k => by rw [impl_Turned.l0]) ?_
  rw [rd_T94_get tombs i hi', List.drop_eq_getElem_cons hi', tombK_cons, w64 (by omega) (by omega)]
  refine ev_if_pos (by omega) (ev_if_pos (by omega) (ev_if_pos (by omega) ?_))
  by_cases c : tombs[i].f1 > id
  ·have h := ih (i + 1) (acc ++ [tombs[i].f0]) (by omega) (by omega) (by rw [List.length_append, List.length_singleton]; omega)
   rw [Int.natCast_add, Int.natCast_one, List.append_assoc, List.singleton_append] at h
   rw [if_pos c]
   exact ev_if_pos c (ev_bind_eq (clone_eq _ (by omega)) (ev_if_pos (by omega) h))
  ·have h := ih (i + 1) acc (by omega) (by omega) (by omega)
   rw [Int.natCast_add, Int.natCast_one] at h
   rw [if_neg c]
   exact ev_if_neg c h
theorem turnK_mem (id : Int) (rows : List S92) (m : Nat) (h : ∀ r ∈ rows, r.f0.length ≤ m) : ∀ x ∈ turnK id rows, x.length ≤ m := by
 intro x hx
 unfold turnK at hx
 obtain ⟨r, hr, rfl⟩ := List.mem_map.1 hx
 exact h r (List.mem_filter.1 hr).1
theorem turnK_length (id : Int) (rows : List S92) : (turnK id rows).length ≤ rows.length := by
 unfold turnK
 rw [List.length_map]
 exact List.length_filter_le _ _
theorem tombK_mem (id : Int) (rows : List S94) (m : Nat) (h : ∀ r ∈ rows, r.f0.length ≤ m) : ∀ x ∈ tombK id rows, x.length ≤ m := by
 intro x hx
 unfold tombK at hx
 obtain ⟨r, hr, rfl⟩ := List.mem_map.1 hx
 exact h r (List.mem_filter.1 hr).1
theorem tombK_length (id : Int) (rows : List S94) : (tombK id rows).length ≤ rows.length := by
 unfold tombK
 rw [List.length_map]
 exact List.length_filter_le _ _
-- bytes.lean: the law package's helpers on bytes
theorem toByteS_loop (l : List Int) (hn : l.length ≤ 140737488351232) (d : Nat) : ∀ (x : List Int) (i : Nat), x.length = l.length → i ≤ l.length → l.length - i = d → x.take i = l.take i → Ev (fun k => laws_toByteS.l0 k l x (i : Int)) l := by
 induction d with
 | zero =>
  intro x i hx hi hd ht
  refine Ev.step (fun k => by rw [laws_toByteS.l0]) ?_
  refine ev_if_neg (by omega) ?_
  obtain rfl : i = l.length := by omega
  rw [eq_of_take hx rfl ht]
  exact Ev.now _
 | succ d ih =>
  intro x i hx hi hd ht
  refine Ev.step (fun k => by rw [laws_toByteS.l0]) ?_
  refine ev_if_pos (by omega) (ev_if_pos (by omega) (ev_if_pos (by omega) ?_))
  have h := ih (x.set i (rd l (i : Int))) (i + 1) (by rw [List.length_set]; exact hx) (by omega) (by omega) (take_set_succ x l i _ (by omega) (by omega) ht (rd_get l i (by omega)))
  rw [w64 (by omega) (by omega), Int.toNat_natCast]
  rw [Int.natCast_add, Int.natCast_one] at h
  exact h
theorem toByteS_ev (l : List Int) (hn : l.length ≤ 140737488351232) : Ev (fun k => laws_toByteS.f k l) l := by
 unfold laws_toByteS.f
 refine ev_if_pos (by omega) (ev_if_pos (by omega) ?_)
 exact toByteS_loop l hn l.length _ 0 (by rw [List.length_replicate, Int.toNat_natCast]) (by omega) (by omega) rfl
theorem eqByteS_loop (a b : List Int) (hn : a.length ≤ 140737488351232) (hab : a.length = b.length) (d : Nat) : ∀ (i : Nat), i ≤ a.length → a.length - i = d → a.take i = b.take i → Ev (fun k => laws_eqByteS.l0 k a b (i : Int)) (decide (a = b)) := by
 induction d with
 | zero =>
  intro i hi hd ht
  refine Ev.step (fun k => by rw [laws_eqByteS.l0]) ?_
  refine ev_if_neg (by omega) ?_
  obtain rfl : i = a.length := by omega
  rw [decide_eq_true (eq_of_take rfl hab.symm ht)]
  exact Ev.now _
 | succ d ih =>
  intro i hi hd ht
  refine Ev.step (fun k => by rw [laws_eqByteS.l0]) ?_
  refine ev_if_pos (by omega) (ev_if_pos (by omega) (ev_if_pos (by omega) ?_))
  by_cases e : rd a (i : Int) = rd b (i : Int)
  ·refine ev_if_pos e ?_
   have h := ih (i + 1) (by omega) (by omega) (by
    rw [rd_get a i (by omega), rd_get b i (by omega)] at e
    rw [List.take_succ_eq_append_getElem (by omega), List.take_succ_eq_append_getElem (by omega), ht, e])
   rw [w64 (by omega) (by omega)]
   rw [Int.natCast_add, Int.natCast_one] at h
   exact h
  ·refine ev_if_neg e ?_
   rw [decide_eq_false (fun h => e (by rw [h]))]
   exact Ev.now _
theorem eqByteS_ev (a b : List Int) (hn : a.length ≤ 140737488351232) : Ev (fun k => laws_eqByteS.f k a b) (decide (a = b)) := by
 by_cases hab : a.length = b.length
 ·unfold laws_eqByteS.f
  refine ev_if_pos (by omega) ?_
  exact eqByteS_loop a b hn hab a.length 0 (by omega) (by omega) rfl
 ·unfold laws_eqByteS.f
  refine ev_if_neg (by omega) ?_
  rw [decide_eq_false (fun h => hab (by rw [h]))]
  exact Ev.now _
theorem eqByteS_self (a : List Int) (hn : a.length ≤ 140737488351232) : Ev (fun k => laws_eqByteS.f k a a) true := by
 have h := eqByteS_ev a a hn
 rw [decide_eq_true rfl] at h
 exact h
-- marks.lean: what the laws write into what they are handed, and look for again
theorem markByteS_loop (n : Nat) (k0 : Int) (h0 : 0 ≤ k0) (hk : k0 + n ≤ 4611686018427387904) (d : Nat) : ∀ (x : List Int) (i : Nat), x.length = n → i ≤ n → n - i = d → x.take i = (marks k0 n).take i → Ev (fun k => laws_markByteS.l0 k x (k0 + (i : Int)) (i : Int)) (k0 + (n : Int), marks k0 n) := by
 induction d with
 | zero =>
  intro x i hx hi hd ht
  refine Ev.step (fun k => by rw [laws_markByteS.l0]) ?_
  refine ev_if_neg (by omega) ?_
  obtain rfl : i = n := by omega
  rw [eq_of_take hx (marks_length k0 i) ht]
  exact Ev.now _
 | succ d ih =>
  intro x i hx hi hd ht
  refine Ev.step (fun k => by rw [laws_markByteS.l0]) ?_
  refine ev_if_pos (by omega) (ev_if_pos (by omega) ?_)
  have h := ih (x.set i ((k0 + (i : Int)) % 256)) (i + 1) (by rw [List.length_set]; exact hx) (by omega) (by omega) (take_set_succ x (marks k0 n) i _ (by omega) (by rw [marks_length]; omega) ht (marks_get k0 n i _).symm)
  rw [w64 (by omega) (by omega), w64 (by omega) (by omega), Int.toNat_natCast]
  rw [Int.natCast_add, Int.natCast_one, ← Int.add_assoc] at h
  exact h
theorem markByteS_ev (l : List Int) (k0 : Int) (h0 : 0 ≤ k0) (hk : k0 + l.length ≤ 4611686018427387904) : Ev (fun k => laws_markByteS.f k l k0) (k0 + (l.length : Int), marks k0 l.length) := by
 have h := markByteS_loop l.length k0 h0 hk l.length l 0 rfl (by omega) (by omega) rfl
 simp only [Int.natCast_zero, Int.add_zero] at h
 exact h
theorem heldByteS_loop (n : Nat) (k0 : Int) (h0 : 0 ≤ k0) (hk : k0 + n ≤ 4611686018427387904) (d : Nat) : ∀ (i : Nat), i ≤ n → n - i = d → Ev (fun k => laws_heldByteS.l0 k (marks k0 n) (k0 + (i : Int)) (i : Int)) (k0 + (n : Int)) := by
 induction d with
 | zero =>
  intro i hi hd
  refine Ev.step (fun k => by rw [laws_heldByteS.l0]) ?_
  refine ev_if_neg (by rw [marks_length]; omega) ?_
  obtain rfl : i = n := by omega
  exact Ev.now _
 | succ d ih =>
  intro i hi hd
  refine Ev.step (fun k => by rw [laws_heldByteS.l0]) ?_
  refine ev_if_pos (by rw [marks_length]; omega) (ev_if_pos (by omega) (ev_if_pos (by rw [rd_get _ i (by rw [marks_length]; omega), marks_get]) ?_))
  have h := ih (i + 1) (by omega) (by omega)
  rw [w64 (by omega) (by omega), w64 (by omega) (by omega)]
  rw [Int.natCast_add, Int.natCast_one, ← Int.add_assoc] at h
  exact h
theorem heldByteS_ev (n : Nat) (k0 : Int) (h0 : 0 ≤ k0) (hk : k0 + n ≤ 4611686018427387904) : Ev (fun k => laws_heldByteS.f k (marks k0 n) k0) (k0 + (n : Int)) := by
 have h := heldByteS_loop n k0 h0 hk n 0 (by omega) (by omega)
 simp only [Int.natCast_zero, Int.add_zero] at h
 exact h
-- rowsmark.lean: rows of rows: marks, and that they are found again
/-- How much rows hold in all. -/
def tot (l : List (List Int)) : Nat := (l.map List.length).sum
/-- Marks, row by row. -/
def marksR : Int → List (List Int) → List (List Int)
 | _, [] => []
 | a, x :: xs => marks a x.length :: marksR (a + (x.length : Int)) xs
theorem tot_cons (x : List Int) (l : List (List Int)) : tot (x :: l) = x.length + tot l := rfl
theorem tot_le (l : List (List Int)) (m : Nat) (h : ∀ x ∈ l, x.length ≤ m) : tot l ≤ m * l.length := by
 induction l with
 | nil => simp [tot]
 | cons x xs ih =>
  have h1 := h x (List.mem_cons_self ..)
  have h2 := ih (fun y hy => h y (List.mem_cons_of_mem _ hy))
  rw [tot_cons, List.length_cons, Nat.mul_succ]
  omega
theorem mk_eq (l : List (List Int)) : ∀ a, laws_markByteSS.mk a l = marksR a l := by
 induction l with
 | nil => intro a; rfl
 | cons x xs ih =>
  intro a
  rw [laws_markByteSS.mk, marksR, ih]
  rfl
theorem markByteSS_ev (l : List (List Int)) : ∀ (a : Int), 0 ≤ a → a + (tot l : Int) ≤ 4611686018427387904 → Ev (fun k => laws_markByteSS.f k l a) (a + (tot l : Int)) := by
 induction l with
 | nil =>
  intro a _ _
  refine ev_done ?_
  simp [tot]
 | cons x xs ih =>
  intro a h0 h1
  rw [tot_cons] at h1
  refine ev_of (Ev.bind (markByteS_ev x a h0 (by omega)) (ev_if_pos ⟨rfl, rfl⟩ (ih (a + (x.length : Int)) (by omega) (by omega)))) ?_
  rw [tot_cons, Int.natCast_add, Int.add_assoc]
theorem markByteSS1_ev (l : List (List Int)) (a : Int) (h0 : 0 ≤ a) (h1 : a + (tot l : Int) ≤ 4611686018427387904) (hl : l.length < 1000000000) : Ev (fun k => laws_markByteSS1.f k l a) (a + (tot l : Int)) := by
 unfold laws_markByteSS1.f
 exact ev_if_pos hl (markByteSS_ev l a h0 h1)
theorem marksR_length (l : List (List Int)) : ∀ a, (marksR a l).length = l.length := by
 induction l with
 | nil => intro a; rfl
 | cons x xs ih => intro a; rw [marksR, List.length_cons, List.length_cons, ih]
theorem rd_L1_at (l : List (List Int)) (i : Nat) (h : i < l.length) : rd_L1 l (i : Int) = l[i] := by
 unfold rd_L1
 rw [Int.toNat_natCast]
 simp [List.getD, h]
theorem heldByteSS_loop (n : Nat) (l : List (List Int)) : ∀ (a : Int) (pre : List (List Int)), 0 ≤ a → a + (tot l : Int) ≤ 4611686018427387904 → (pre ++ marksR a l).length < 1000000000 →
  Ev (fun k => laws_heldByteSS.l0 k (pre ++ marksR a l) a (pre.length : Int)) (a + (tot l : Int)) := by
 induction l with
 | nil =>
  intro a pre h0 h1 hn
  refine Ev.step (fun k => by rw [laws_heldByteSS.l0]) (ev_if_neg (by simp [marksR]) (ev_done ?_))
  simp [tot]
 | cons x xs ih =>
  intro a pre h0 h1 hn
  rw [tot_cons] at h1
  have hL : (pre ++ marksR a (x :: xs)).length = pre.length + (xs.length + 1) := by rw [List.length_append, marksR_length, List.length_cons]
  have hx : rd_L1 (pre ++ marksR a (x :: xs)) (pre.length : Int) = marks a x.length := by
   rw [rd_L1_at _ _ (by omega)]
   rw [List.getElem_append_right (Nat.le_refl _)]
   simp [marksR]
  have h := ih (a + (x.length : Int)) (pre ++ [marks a x.length]) (by omega) (by omega) (by rw [List.append_assoc]; exact hn)
  rw [List.append_assoc, List.singleton_append, List.length_append, List.length_singleton, Int.natCast_add, Int.natCast_one] at h
  refine Ev.step (fun k => by rw [laws_heldByteSS.l0]) ?_
  rw [hx, w64 (x := (pre.length : Int) + 1) (by omega) (by omega)]
  refine ev_if_pos (by omega) (ev_if_pos (by omega) (Ev.bind (heldByteS_ev x.length a h0 (by omega)) (ev_if_neg (by omega) ?_)))
  refine ev_of h ?_
  rw [tot_cons, Int.natCast_add, Int.add_assoc]
theorem heldByteSSm_ev (l : List (List Int)) (h1 : 1 + (tot l : Int) ≤ 4611686018427387904) (hl : l.length < 1000000000) : Ev (fun k => laws_heldByteSSm.f k l 1) (1 + (tot l : Int)) := by
 unfold laws_heldByteSSm.f
 rw [mk_eq]
 unfold laws_heldByteSS.f
 have h := heldByteSS_loop 0 l 1 [] (by decide) h1 (by rw [List.nil_append, marksR_length]; exact hl)
 exact h
theorem eqByteSS_loop (l : List (List Int)) (hl : l.length < 1000000000) (hx : ∀ x ∈ l, x.length ≤ 140737488350000) (d : Nat) : ∀ i : Nat, i ≤ l.length → l.length - i = d → Ev (fun k => laws_eqByteSS.l0 k l l (i : Int)) true := by
 induction d with
 | zero =>
  intro i hi hd
  exact Ev.step (fun k => by rw [laws_eqByteSS.l0]) (ev_if_neg (by omega) (Ev.now _))
 | succ d ih =>
  intro i hi hd
  have hi' : i < l.length := by omega
  have h := ih (i + 1) (by omega) (by omega)
  refine Ev.step (fun k => by rw [laws_eqByteSS.l0]) ?_
  rw [rd_L1_at l i hi', w64 (by omega) (by omega)]
  rw [Int.natCast_add, Int.natCast_one] at h
  exact ev_if_pos (by omega) (ev_if_pos (by omega) (ev_if_pos (by omega) (Ev.bind (eqByteS_self _ (by have := hx _ (List.getElem_mem hi'); omega)) (ev_if_pos rfl h))))
theorem eqByteSS_self (l : List (List Int)) (hl : l.length < 1000000000) (hx : ∀ x ∈ l, x.length ≤ 140737488350000) : Ev (fun k => laws_eqByteSS.f k l l) true := by
 unfold laws_eqByteSS.f
 exact ev_if_pos rfl (eqByteSS_loop l hl hx l.length 0 (by omega) (by omega))
-- loops.lean: loops that copy, compare, weigh
theorem copy_loop {α β : Type} (l : List α) (cv : α → β) (z : β) (L : Nat → List β → Int → Option (List β)) (h0 : ∀ x, Ev (fun k => L k x (l.length : Int)) x)
  (h1 : ∀ i, (hi : i < l.length) → ∀ x : List β, x.length = l.length → ∀ r, Ev (fun k => L k (x.set i (cv l[i])) ((i + 1 : Nat) : Int)) r → Ev (fun k => L k x (i : Int)) r) : Ev (fun k => L k (List.replicate l.length z) 0) (l.map cv) := by
 have key : ∀ d i, i ≤ l.length → l.length - i = d → Ev (fun k => L k ((l.take i).map cv ++ List.replicate (l.length - i) z) (i : Int)) (l.map cv) := by
  intro d
  induction d with
  | zero =>
   intro i hi hd
   have : i = l.length := by omega
   subst this
   have e := h0 ((l.take l.length).map cv ++ List.replicate (l.length - l.length) z)
   rw [Nat.sub_self, List.replicate_zero, List.append_nil, List.take_length] at e ⊢
   exact e
  | succ d ih =>
   intro i hi hd
   have hi' : i < l.length := by omega
   have h := ih (i + 1) (by omega) (by omega)
   refine h1 i hi' _ (by rw [List.length_append, List.length_map, List.length_take, List.length_replicate]; omega) _ ?_
   have hs : ((l.take i).map cv ++ List.replicate (l.length - i) z).set i (cv l[i]) = (l.take (i + 1)).map cv ++ List.replicate (l.length - (i + 1)) z := by
    rw [List.set_append_right _ _ (by rw [List.length_map, List.length_take]; omega), List.length_map, List.length_take, Nat.min_eq_left hi, Nat.sub_self,
     show l.length - i = (l.length - (i + 1)) + 1 by omega, List.replicate_succ, List.set_cons_zero, List.take_succ_eq_append_getElem hi', List.map_append, List.append_assoc]
    rfl
   rw [hs]
   exact h
 have h := key l.length 0 (by omega) (by omega)
 rw [List.take_zero, List.map_nil, List.nil_append, Nat.sub_zero] at h
 exact h
theorem same_loop {n : Nat} (L : Nat → Int → Option Bool) (h0 : Ev (fun k => L k (n : Int)) true) (h1 : ∀ i, i < n → Ev (fun k => L k ((i + 1 : Nat) : Int)) true → Ev (fun k => L k (i : Int)) true) : Ev (fun k => L k 0) true := by
 have key : ∀ d i, i ≤ n → n - i = d → Ev (fun k => L k (i : Int)) true := by
  intro d
  induction d with
  | zero =>
   intro i hi hd
   have : i = n := by omega
   subst this
   exact h0
  | succ d ih =>
   intro i hi hd
   exact h1 i (by omega) (ih (i + 1) (by omega) (by omega))
 exact key n 0 (by omega) (by omega)
theorem size_loop {α : Type} (l : List α) (fit : α → Prop) (wt : α → Nat) (L : Nat → Int → Int → Option Int) (h0 : ∀ left, Ev (fun k => L k left (l.length : Int)) left)
  (h1 : ∀ i, (hi : i < l.length) → ∀ left : Int, 0 ≤ left → left ≤ 1048576 → (∃ q : Int, 0 ≤ q ∧ q + (wt l[i] : Int) = left ∧ fit l[i] ∧ ∀ r, Ev (fun k => L k q ((i + 1 : Nat) : Int)) r → Ev (fun k => L k left (i : Int)) r) ∨ Ev (fun k => L k left (i : Int)) (-1))
  (left : Int) (l0 : 0 ≤ left) (l1 : left ≤ 1048576) : ∃ r, Ev (fun k => L k left 0) r ∧ (0 ≤ r → r + (((l.map wt).sum : Nat) : Int) = left ∧ ∀ x ∈ l, fit x) := by
 have key : ∀ d i, i ≤ l.length → l.length - i = d → ∀ left : Int, 0 ≤ left → left ≤ 1048576 → ∃ r, Ev (fun k => L k left (i : Int)) r ∧ (0 ≤ r → r + ((((l.drop i).map wt).sum : Nat) : Int) = left ∧ ∀ x ∈ l.drop i, fit x) := by
  intro d
  induction d with
  | zero =>
   intro i hi hd left _ _
   have : i = l.length := by omega
   subst this
   refine ⟨left, h0 left, fun _ => ?_⟩
   rw [List.drop_length]
   simp
  | succ d ih =>
   intro i hi hd left a b
   have hi' : i < l.length := by omega
   rcases h1 i hi' left a b with ⟨q, q0, q1, q2, q3⟩ | e
   ·obtain ⟨r, er, hr⟩ := ih (i + 1) (by omega) (by omega) q q0 (by omega)
    refine ⟨r, q3 r er, fun h => ?_⟩
    obtain ⟨x1, x2⟩ := hr h
    rw [List.drop_eq_getElem_cons hi', List.map_cons, List.sum_cons]
    refine ⟨by omega, fun x hx => ?_⟩
    rcases List.mem_cons.1 hx with rfl | hx
    ·exact q2
    ·exact x2 x hx
   ·exact ⟨-1, e, fun h => absurd h (by decide)⟩
 have h := key l.length 0 (by omega) (by omega) left l0 l1
 rw [List.drop_zero] at h
 exact h
-- sizes.lean: how much an argument holds
theorem szByteS_eq2 (l : List Int) (left : Int) (h0 : 0 ≤ left) (h1 : left ≤ 1048576) (hl : l.length ≤ maxLen) : ∃ r, laws_szByteS.f l left = some r ∧ (0 ≤ r → r + (l.length : Int) = left) := by
 unfold laws_szByteS.f
 unfold maxLen at hl
 rw [w64 (by omega) (by omega)]
 by_cases c : left - (l.length : Int) < 0
 ·rw [if_pos c]
  exact ⟨-1, rfl, fun h => absurd h (by decide)⟩
 ·rw [if_neg c]
  exact ⟨_, rfl, fun _ => by omega⟩
-- cmps.lean: rows of bytes compared
theorem cmp_self (a : List Int) : bytes_Compare.cmp a a = 0 := by
 induction a with
 | nil => rfl
 | cons x xs ih => rw [bytes_Compare.cmp, if_neg (by omega), if_neg (by omega), ih]
theorem cmp_zero : ∀ a b : List Int, bytes_Compare.cmp a b = 0 → a = b
 | [], [], _ => rfl
 | [], _ :: _, h => by rw [bytes_Compare.cmp] at h; omega
 | _ :: _, [], h => by rw [bytes_Compare.cmp] at h; omega
 | x :: xs, y :: ys, h => by
  rw [bytes_Compare.cmp] at h
  by_cases c1 : x < y
  ·rw [if_pos c1] at h; omega
  by_cases c2 : y < x
  ·rw [if_neg c1, if_pos c2] at h; omega
  rw [if_neg c1, if_neg c2] at h
  rw [cmp_zero xs ys h, show x = y by omega]
theorem cmp_trans : ∀ a b c : List Int, bytes_Compare.cmp a b < 0 → bytes_Compare.cmp b c < 0 → bytes_Compare.cmp a c < 0
 | [], [], _, h, _ => by rw [bytes_Compare.cmp] at h; omega
 | _ :: _, [], _, h, _ => by rw [bytes_Compare.cmp] at h; omega
 | [], _ :: _, [], _, h => by rw [bytes_Compare.cmp] at h; omega
 | [], _ :: _, _ :: _, _, _ => by rw [bytes_Compare.cmp]; omega
 | _ :: _, _ :: _, [], _, h => by rw [bytes_Compare.cmp] at h; omega
 | x :: xs, y :: ys, z :: zs, h1, h2 => by
  rw [bytes_Compare.cmp] at h1 h2 ⊢
  by_cases c1 : x < y
  ·by_cases d1 : y < z
   ·rw [if_pos (by omega)]; omega
   ·by_cases d2 : z < y
    ·rw [if_neg d1, if_pos d2] at h2; omega
    ·rw [if_pos (by omega)]; omega
  ·by_cases c2 : y < x
   ·rw [if_neg c1, if_pos c2] at h1; omega
   ·rw [if_neg c1, if_neg c2] at h1
    by_cases d1 : y < z
    ·rw [if_pos (by omega)]; omega
    ·by_cases d2 : z < y
     ·rw [if_neg d1, if_pos d2] at h2; omega
     ·rw [if_neg d1, if_neg d2] at h2
      rw [if_neg (by omega), if_neg (by omega)]
      exact cmp_trans xs ys zs h1 h2
theorem bytesCompare_eq (a b : List Int) (ha : Bytes a) (hb : Bytes b) : bytes_Compare.f a b = some (bytes_Compare.cmp a b) := by
 unfold bytes_Compare.f
 rw [if_pos ⟨fun x hx => wf_u8 (ha x hx), fun x hx => wf_u8 (hb x hx)⟩]
-- half.lean: the middle of two places
theorem half_eq (i j : Nat) (h : i + j ≤ 1000000) : wrap64 ((IntKind.u64.wrap (wrap64 ((i : Int) + (j : Int)))) / 2) = (((i + j) / 2 : Nat) : Int) := by
 rw [w64 (x := (i : Int) + (j : Int)) (by omega) (by omega)]
 have e : IntKind.u64.wrap ((i : Int) + (j : Int)) = (i : Int) + (j : Int) := by
  simp [IntKind.wrap, IntKind.signed, IntKind.bits]
  omega
 rw [e, w64 (by omega) (by omega)]
 omega
-- staterow.lean: the program's search for a row
def SortedR (l : List S92) : Prop := ∀ i j, (hi : i < l.length) → (hj : j < l.length) → i < j → bytes_Compare.cmp l[i].f0 l[j].f0 < 0
theorem rsearch_loop (l : List S92) (key : List Int) (hn : l.length ≤ 1000) (hb : ∀ x ∈ l, Bytes x.f0) (hk : Bytes key) (hs : SortedR l) (d : Nat) : ∀ (i j : Nat), i ≤ j → j ≤ l.length → j - i ≤ d →
  (∀ q, (h : q < l.length) → q < i → bytes_Compare.cmp l[q].f0 key < 0) → (∀ q, (h : q < l.length) → j ≤ q → ¬ bytes_Compare.cmp l[q].f0 key < 0) →
  ∃ p b, Ev (fun k => impl_Row_byte.l0 k l key (l.length : Int) (i : Int) (j : Int)) (((p : Nat) : Int), b) ∧ (b = true → ∃ h : p < l.length, l[p].f0 = key) ∧ (b = false → ∀ x ∈ l, x.f0 ≠ key) := by
 have fin : ∀ i : Nat, i ≤ l.length → (∀ q, (h : q < l.length) → q < i → bytes_Compare.cmp l[q].f0 key < 0) → (∀ q, (h : q < l.length) → i ≤ q → ¬ bytes_Compare.cmp l[q].f0 key < 0) →
   ∃ p b, Ev (fun k => impl_Row_byte.l0 k l key (l.length : Int) (i : Int) (i : Int)) (((p : Nat) : Int), b) ∧ (b = true → ∃ h : p < l.length, l[p].f0 = key) ∧ (b = false → ∀ x ∈ l, x.f0 ≠ key) := by
  intro i hi h1 h2
  by_cases c : i < l.length
  ·have hm := hb l[i] (List.getElem_mem c)
   refine ⟨i, (bytes_Compare.cmp l[i].f0 key == 0), Ev.step (fun k => by rw [impl_Row_byte.l0]) (ev_if_neg (by omega) (ev_if_pos (by omega) (ev_if_pos (by omega) (ev_if_pos (by omega) ?_)))), ?_, ?_⟩
   ·rw [rd_T92_get l i c]
    unfold impl_State_row_1.f
    rw [bytesCompare_eq _ _ hm hk]
    exact Ev.now _
   ·intro g
    exact ⟨c, cmp_zero _ _ (by simpa using g)⟩
   ·intro g x hx e
    obtain ⟨q, hq, rfl⟩ := List.mem_iff_getElem.1 hx
    have gz : ¬ bytes_Compare.cmp l[i].f0 key = 0 := by simpa using g
    rcases Nat.lt_trichotomy q i with z | z | z
    ·have := h1 q hq z
     rw [e, cmp_self] at this
     omega
    ·subst z
     rw [e, cmp_self] at gz
     exact gz rfl
    ·have a := hs i q c hq z
     rw [e] at a
     exact h2 i c (Nat.le_refl _) a
  ·refine ⟨i, false, Ev.step (fun k => by rw [impl_Row_byte.l0]) (ev_if_neg (by omega) (ev_if_neg (by omega) (Ev.now _))), fun g => absurd g (by simp), fun _ x hx e => ?_⟩
   obtain ⟨q, hq, rfl⟩ := List.mem_iff_getElem.1 hx
   have := h1 q hq (by omega)
   rw [e, cmp_self] at this
   omega
 induction d with
 | zero =>
  intro i j hij hj hd h1 h2
  have e : j = i := by omega
  subst e
  exact fin j hj h1 h2
 | succ d ih =>
  intro i j hij hj hd h1 h2
  by_cases c : i < j
  ·have hm : (i + j) / 2 < l.length := by omega
   have hmb := hb l[(i + j) / 2] (List.getElem_mem hm)
   have step : ∀ (R : Int × Bool), (if bytes_Compare.cmp l[(i + j) / 2].f0 key < 0 then Ev (fun k => impl_Row_byte.l0 k l key (l.length : Int) (((i + j) / 2 + 1 : Nat) : Int) (j : Int)) R else Ev (fun k => impl_Row_byte.l0 k l key (l.length : Int) (i : Int) (((i + j) / 2 : Nat) : Int)) R) →
     Ev (fun k => impl_Row_byte.l0 k l key (l.length : Int) (i : Int) (j : Int)) R := by
    intro R h
    refine Ev.step (fun k => by rw [impl_Row_byte.l0]) ?_
    rw [half_eq i j (by omega), rd_T92_get l _ hm, w64 (x := (((i + j) / 2 : Nat) : Int) + 1) (by omega) (by omega)]
    refine ev_if_pos (by omega) (ev_if_pos (by omega) (ev_if_pos (by omega) ?_))
    unfold impl_State_row_1.f
    rw [bytesCompare_eq _ _ hmb hk]
    by_cases g : bytes_Compare.cmp l[(i + j) / 2].f0 key < 0
    ·rw [if_pos g] at h
     rw [Int.natCast_add, Int.natCast_one] at h
     exact ev_bind_eq rfl (ev_if_pos g h)
    ·rw [if_neg g] at h
     exact ev_bind_eq rfl (ev_if_neg g h)
   by_cases g : bytes_Compare.cmp l[(i + j) / 2].f0 key < 0
   ·obtain ⟨p, b, e, r⟩ := ih ((i + j) / 2 + 1) j (by omega) hj (by omega) (fun q hq hqi => by
     rcases Nat.lt_or_ge q ((i + j) / 2) with z | z
     ·exact cmp_trans _ _ _ (hs q ((i + j) / 2) hq hm z) g
     ·have z2 : q = (i + j) / 2 := by omega
      subst z2
      exact g) h2
    exact ⟨p, b, step _ (by rw [if_pos g]; exact e), r⟩
   ·obtain ⟨p, b, e, r⟩ := ih i ((i + j) / 2) (by omega) (by omega) (by omega) h1 (fun q hq hqi z => by
     rcases Nat.lt_or_ge ((i + j) / 2) q with z2 | z2
     ·exact g (cmp_trans _ _ _ (hs ((i + j) / 2) q hm hq z2) z)
     ·have z3 : q = (i + j) / 2 := by omega
      subst z3
      exact g z)
    exact ⟨p, b, step _ (by rw [if_neg g]; exact e), r⟩
  ·have e : j = i := by omega
   subst e
   exact fin j hj h1 h2
theorem implRow_ev (idx : Int) (rows : List S92) (tombs : List S94) (lost : Int) (sess : List S109) (lasts : List S75) (key : List Int) (hn : rows.length ≤ 1000) (hb : ∀ x ∈ rows, Bytes x.f0) (hk : Bytes key) (hs : SortedR rows) :
  ∃ p b, Ev (fun k => impl_State_row.f k idx rows tombs lost sess lasts key) (((p : Nat) : Int), b) ∧ (b = true → ∃ h : p < rows.length, rows[p].f0 = key) ∧ (b = false → ∀ x ∈ rows, x.f0 ≠ key) := by
 obtain ⟨p, b, e, r⟩ := rsearch_loop rows key hn hb hk hs rows.length 0 rows.length (by omega) (Nat.le_refl _) (by omega) (fun q _ h => absurd h (by omega)) (fun q h h2 => absurd h (by omega))
 have e : Ev (fun k => impl_Row_byte.l0 k rows key (rows.length : Int) 0 (rows.length : Int)) (((p : Nat) : Int), b) := e
 refine ⟨p, b, ?_, r⟩
 unfold impl_State_row.f impl_Row_byte.f
 exact Ev.bind e (Ev.now _)
theorem sortedR_of (idx : Int) (sess : List S109) (rows : List S92) (h : ∀ i, i < rows.length → rowV idx sess rows i) : SortedR rows := by
 have step : ∀ i, (hi : i + 1 < rows.length) → bytes_Compare.cmp rows[i].f0 rows[i + 1].f0 < 0 := by
  intro i hi
  have := (h (i + 1) hi).2.2.2.2.2 (by omega)
  rw [rd_T92_get rows (i + 1) hi, show (((i + 1 : Nat) : Int) - 1) = ((i : Nat) : Int) by omega, rd_T92_get rows i (by omega)] at this
  exact this
 have far : ∀ d i, (hi : i + d + 1 < rows.length) → bytes_Compare.cmp rows[i].f0 rows[i + d + 1].f0 < 0 := by
  intro d
  induction d with
  | zero => intro i hi; exact step i hi
  | succ d ih =>
   intro i hi
   exact cmp_trans _ _ _ (ih i (by omega)) (step (i + d + 1) hi)
 intro i j hi hj hij
 have := far (j - i - 1) i (by omega)
 have e : i + (j - i - 1) + 1 = j := by omega
 simpa [e] using this
-- strs.lean: bytes as a string, compared
theorem strOf_list (a : List Int) : (strOfNums a).toList = a.map fun n => UInt8.ofNat n.toNat := Lib.strOfNums_toList a
theorem byte_inj {x y : Int} (h0 : 0 ≤ x) (h1 : x ≤ 255) (h2 : 0 ≤ y) (h3 : y ≤ 255) (h : UInt8.ofNat x.toNat = UInt8.ofNat y.toNat) : x = y := by
 have h4 := congrArg UInt8.toNat h
 simp at h4
 omega
theorem str_inj : ∀ (a b : List Int), (∀ x ∈ a, (Lit.int .u8 x).wf = true) → (∀ x ∈ b, (Lit.int .u8 x).wf = true) → (a.map fun n => UInt8.ofNat n.toNat) = (b.map fun n => UInt8.ofNat n.toNat) → a = b
 | [], [], _, _, _ => rfl
 | [], _ :: _, _, _, h => by simp at h
 | _ :: _, [], _, _, h => by simp at h
 | x :: a, y :: b, ha, hb, h => by
  simp only [List.map_cons, List.cons.injEq] at h
  have hx := wf_u8 (ha x List.mem_cons_self)
  have hy := wf_u8 (hb y List.mem_cons_self)
  rw [byte_inj hx.1 hx.2 hy.1 hy.2 h.1, str_inj a b (fun z hz => ha z (List.mem_cons_of_mem _ hz)) (fun z hz => hb z (List.mem_cons_of_mem _ hz)) h.2]
theorem str_eq (a b : List Int) (ha : ∀ x ∈ a, (Lit.int .u8 x).wf = true) (hb : ∀ x ∈ b, (Lit.int .u8 x).wf = true) : ((strOfNums a).toList == (strOfNums b).toList) = decide (a = b) := by
 rw [strOf_list, strOf_list, Bool.eq_iff_iff]
 simp only [beq_iff_eq, decide_eq_true_eq]
 exact ⟨str_inj a b ha hb, fun h => by rw [h]⟩
-- within.lean
theorem within_eq (a b c : Int) : impl_within.f a b c = some (decide (b ≤ a ∧ a ≤ c)) := by
 unfold impl_within.f
 by_cases h : b ≤ a
 ·rw [if_pos h]
  by_cases h2 : a ≤ c
  ·rw [decide_eq_true h2, decide_eq_true ⟨h, h2⟩]
  ·rw [decide_eq_false h2, decide_eq_false (fun z => h2 z.2)]
 ·rw [if_neg h, decide_eq_false (fun z => h z.1)]
-- stateimpl.lean: the program's StateOk
theorem implSess_find (id : Int) : ∀ (l : List S109) (i : Int), impl_State_session.find id l i = sfind id l i
 | [], _ => rfl
 | x :: xs, i => by rw [impl_State_session.find, sfind, implSess_find id xs (i + 1)]
theorem implSess_eq (idx : Int) (rows : List S92) (tombs : List S94) (lost : Int) (sess : List S109) (lasts : List S75) (id : Int) (hn : sess.length ≤ 1048576) : impl_State_session.f idx rows tombs lost sess lasts id = some (sfind id sess 0) := by
 unfold impl_State_session.f
 rw [if_pos (by omega), implSess_find]
theorem implTomb_find (key : List Int) (hk : Bytes key) : ∀ (l : List S94) (i : Int), ByTombs l → impl_State_tomb.find key l i = tfind key l i
 | [], _, _ => rfl
 | x :: xs, i, h => by
  have e := str_eq x.f0 key (h x (List.mem_cons_self ..)) hk
  rw [impl_State_tomb.find, tfind, implTomb_find key hk xs (i + 1) (fun t ht => h t (List.mem_cons_of_mem _ ht)), e]
  simp only [decide_eq_true_iff]
theorem implTomb_eq (idx : Int) (rows : List S92) (tombs : List S94) (lost : Int) (sess : List S109) (lasts : List S75) (key : List Int) (hn : tombs.length ≤ 1048576) (ht : ByTombs tombs) (hk : Bytes key) : impl_State_tomb.f idx rows tombs lost sess lasts key = some (tfind key tombs 0) := by
 unfold impl_State_tomb.f
 rw [if_pos (by omega), implTomb_find key hk tombs 0 ht]
theorem implLasts_ev (idx : Int) (rows : List S92) (tombs : List S94) (lost : Int) (sess : List S109) (lasts : List S75) (hn : lasts.length ≤ 1048576) :
  ∃ b, Ev (fun k => impl_StateOk.l3 k lasts (lasts.length : Int) ((0 : Nat) : Int) idx rows tombs lost sess lasts) b ∧ (b = true ↔ ((∀ i, i < lasts.length → lastV idx lasts i) ∧ True)) := by
 refine loop_all (L := fun k i => impl_StateOk.l3 k lasts (lasts.length : Int) (i : Int) idx rows tombs lost sess lasts) lasts.length (lastV idx lasts) True ⟨true, (by refine Ev.step (fun k => by rw [impl_StateOk.l3]) ?_; exact ev_if_neg (by omega) (Ev.now _)), by simp⟩ ?_ lasts.length 0 (by omega) (by omega) (by omega)
 intro i hi _
 have go : ∀ b, Ev (fun k => impl_StateOk.l3 k lasts (lasts.length : Int) ((i + 1 : Nat) : Int) idx rows tombs lost sess lasts) b → Ev (fun k => impl_StateOk.l3 k lasts (lasts.length : Int) (wrap64 ((i : Int) + 1)) idx rows tombs lost sess lasts) b := fun b e => by
  rw [w64 (by omega) (by omega)]
  rw [Int.natCast_add, Int.natCast_one] at e
  exact e
 unfold lastV
 generalize hx : rd_T75 lasts (i : Int) = x
 generalize hy : rd_T75 lasts ((i : Int) - 1) = y
 have key : ∀ {g : Nat → Option Bool} {b : Bool}, (((0 ≤ x.f0 ∧ x.f0 ≤ 3) ∧ (1 ≤ x.f1 ∧ x.f1 ≤ 1000000) ∧ (0 ≤ x.f2.f0 ∧ x.f2.f0 ≤ 5) ∧ (1 ≤ x.f2.f1 ∧ x.f2.f1 ≤ idx)) → Ev g b) → (¬ ((0 ≤ x.f0 ∧ x.f0 ≤ 3) ∧ (1 ≤ x.f1 ∧ x.f1 ≤ 1000000) ∧ (0 ≤ x.f2.f0 ∧ x.f2.f0 ≤ 5) ∧ (1 ≤ x.f2.f1 ∧ x.f2.f1 ≤ idx)) → b = false) →
   Ev (fun k => (impl_within.f x.f0 0 3).bind fun t268 => (if t268 = true then ((impl_within.f x.f1 1 1000000).bind fun t269 => (if t269 = true then ((impl_within.f x.f2.f0 0 5).bind fun t270 => (if t270 = true then ((impl_within.f x.f2.f1 1 idx).bind fun t271 => (if t271 = true then g k else (some false))) else (some false))) else (some false))) else (some false))) b := by
  intro g b h1 h2
  refine ev_bind_eq (within_eq _ _ _) (ev_ite (fun c1 => ev_bind_eq (within_eq _ _ _) (ev_ite (fun c2 => ev_bind_eq (within_eq _ _ _) (ev_ite (fun c3 => ev_bind_eq (within_eq _ _ _) (ev_ite (fun c4 => ?_) (fun c4 => ?_))) (fun c3 => ?_))) (fun c2 => ?_))) (fun c1 => ?_))
  ·exact h1 ⟨of_decide_eq_true c1, of_decide_eq_true c2, of_decide_eq_true c3, of_decide_eq_true c4⟩
  ·rw [h2 (fun z => c4 (decide_eq_true z.2.2.2))]; exact Ev.now _
  ·rw [h2 (fun z => c3 (decide_eq_true z.2.2.1))]; exact Ev.now _
  ·rw [h2 (fun z => c2 (decide_eq_true z.2.1))]; exact Ev.now _
  ·rw [h2 (fun z => c1 (decide_eq_true z.1))]; exact Ev.now _
 by_cases p : 0 ≤ x.f0 ∧ x.f0 ≤ 3 ∧ 1 ≤ x.f1 ∧ x.f1 ≤ 1000000 ∧ 0 ≤ x.f2.f0 ∧ x.f2.f0 ≤ 5 ∧ 1 ≤ x.f2.f1 ∧ x.f2.f1 ≤ idx ∧ (0 < i → y.f0 < x.f0)
 ·refine .inl ⟨p, fun b e => ?_⟩
  have e := go b e
  obtain ⟨p1, p2, p3, p4, p5, p6, p7, p8, p9⟩ := p
  refine Ev.step (fun k => by rw [impl_StateOk.l3]) ?_
  rw [hx]
  refine ev_if_pos (by omega) (ev_if_pos (by omega) (ev_if_pos (by omega) (key (fun _ => ?_) (fun z => absurd ⟨⟨p1, p2⟩, ⟨p3, p4⟩, ⟨p5, p6⟩, ⟨p7, p8⟩⟩ z))))
  refine ev_ite (fun c => ?_) (fun _ => e)
  rw [w64 (x := (i : Int) - 1) (by omega) (by omega), hy]
  have := p9 (by omega)
  exact ev_if_pos (by omega) (ev_if_pos (by omega) (ev_if_neg (by omega) e))
 ·refine .inr ⟨p, ?_⟩
  refine Ev.step (fun k => by rw [impl_StateOk.l3]) ?_
  rw [hx]
  refine ev_if_pos (by omega) (ev_if_pos (by omega) (ev_if_pos (by omega) (key (fun q => ?_) (fun _ => rfl))))
  obtain ⟨⟨p1, p2⟩, ⟨p3, p4⟩, ⟨p5, p6⟩, ⟨p7, p8⟩⟩ := q
  by_cases c9 : (i : Int) > 0
  ·refine ev_if_pos c9 ?_
   rw [w64 (x := (i : Int) - 1) (by omega) (by omega), hy]
   refine ev_if_pos (by omega) (ev_if_pos (by omega) (ev_if_pos ?_ (Ev.now _)))
   rcases Int.lt_or_le y.f0 x.f0 with z | z
   ·exact absurd ⟨p1, p2, p3, p4, p5, p6, p7, p8, fun _ => z⟩ p
   ·omega
  ·exact absurd ⟨p1, p2, p3, p4, p5, p6, p7, p8, fun z => by omega⟩ p
theorem implSessions_ev (idx : Int) (rows : List S92) (tombs : List S94) (lost : Int) (sess : List S109) (lasts : List S75) (hs : sess.length ≤ 1048576) (hn : lasts.length ≤ 1048576) :
  ∃ b, Ev (fun k => impl_StateOk.l2 k sess (sess.length : Int) ((0 : Nat) : Int) idx rows tombs lost sess lasts) b ∧ (b = true ↔ ((∀ i, i < sess.length → sessV idx sess i) ∧ (∀ i, i < lasts.length → lastV idx lasts i))) := by
 obtain ⟨bl, el, hl⟩ := implLasts_ev idx rows tombs lost sess lasts hn
 refine loop_all (L := fun k i => impl_StateOk.l2 k sess (sess.length : Int) (i : Int) idx rows tombs lost sess lasts) sess.length (sessV idx sess) _ ⟨bl, (by refine Ev.step (fun k => by rw [impl_StateOk.l2]) ?_; exact ev_if_neg (by omega) el), by rw [hl, and_true]⟩ ?_ sess.length 0 (by omega) (by omega) (by omega)
 intro i hi _
 have go : ∀ b, Ev (fun k => impl_StateOk.l2 k sess (sess.length : Int) ((i + 1 : Nat) : Int) idx rows tombs lost sess lasts) b → Ev (fun k => impl_StateOk.l2 k sess (sess.length : Int) (wrap64 ((i : Int) + 1)) idx rows tombs lost sess lasts) b := fun b e => by
  rw [w64 (by omega) (by omega)]
  rw [Int.natCast_add, Int.natCast_one] at e
  exact e
 unfold sessV
 generalize hx : rd_T109 sess (i : Int) = x
 generalize hy : rd_T109 sess ((i : Int) - 1) = y
 by_cases q : 1 ≤ x.f0 ∧ x.f0 ≤ idx
 case neg =>
  refine .inr ⟨fun z => q ⟨z.1, z.2.1⟩, ?_⟩
  refine Ev.step (fun k => by rw [impl_StateOk.l2]) ?_
  rw [hx]
  exact ev_if_pos (by omega) (ev_if_pos (by omega) (ev_if_pos (by omega) (ev_bind_eq (within_eq _ _ _) (ev_if_neg (by rw [decide_eq_true_iff]; exact q) (Ev.now _)))))
 have wq : decide (1 ≤ x.f0 ∧ x.f0 ≤ idx) = true := decide_eq_true q
 by_cases p : 0 < i → y.f0 < x.f0
 ·refine .inl ⟨⟨q.1, q.2, p⟩, fun b e => ?_⟩
  have e := go b e
  refine Ev.step (fun k => by rw [impl_StateOk.l2]) ?_
  rw [hx]
  refine ev_if_pos (by omega) (ev_if_pos (by omega) (ev_if_pos (by omega) (ev_bind_eq (within_eq _ _ _) (ev_if_pos wq ?_))))
  refine ev_ite (fun c => ?_) (fun _ => e)
  rw [w64 (x := (i : Int) - 1) (by omega) (by omega), hy]
  have := p (by omega)
  exact ev_if_pos (by omega) (ev_if_pos (by omega) (ev_if_neg (by omega) e))
 ·refine .inr ⟨fun z => p z.2.2, ?_⟩
  refine Ev.step (fun k => by rw [impl_StateOk.l2]) ?_
  rw [hx]
  refine ev_if_pos (by omega) (ev_if_pos (by omega) (ev_if_pos (by omega) (ev_bind_eq (within_eq _ _ _) (ev_if_pos wq ?_))))
  by_cases c9 : (i : Int) > 0
  ·refine ev_if_pos c9 ?_
   rw [w64 (x := (i : Int) - 1) (by omega) (by omega), hy]
   refine ev_if_pos (by omega) (ev_if_pos (by omega) (ev_if_pos ?_ (Ev.now _)))
   rcases Int.lt_or_le y.f0 x.f0 with z | z
   ·exact absurd (fun _ => z) p
   ·omega
  ·exact absurd (fun z => by omega) p
/-- The least index that a tomb may have. -/
def bef (lost : Int) (tombs : List S94) (i : Nat) : Int := if i = 0 then mx 1 lost else (rd_T94 tombs ((i : Int) - 1)).f1
def tombI (idx lost : Int) (rows : List S92) (tombs : List S94) (i : Nat) : Prop :=
 (∀ r ∈ rows, r.f0 ≠ (rd_T94 tombs i).f0) ∧ keyP (rd_T94 tombs i).f0 = true ∧ tfind (rd_T94 tombs i).f0 tombs 0 = (i : Int) ∧ bef lost tombs i ≤ (rd_T94 tombs i).f1 ∧ (rd_T94 tombs i).f1 ≤ idx
theorem tombs_iff (idx lost : Int) (rows : List S92) (tombs : List S94) : (∀ i, i < tombs.length → tombI idx lost rows tombs i) ↔ (∀ i, i < tombs.length → tombV idx lost rows tombs i) := by
 constructor
 ·intro h
  have low : ∀ i, i < tombs.length → 1 ≤ (rd_T94 tombs i).f1 ∧ lost ≤ (rd_T94 tombs i).f1 := by
   intro i
   induction i with
   | zero =>
    intro hi
    have := (h 0 hi).2.2.2.1
    unfold bef mx at this
    rw [if_pos rfl] at this
    split at this <;> omega
   | succ i ih =>
    intro hi
    have := (h (i + 1) hi).2.2.2.1
    have b := ih (by omega)
    unfold bef at this
    rw [if_neg (by omega), show (((i + 1 : Nat) : Int) - 1) = ((i : Nat) : Int) by omega] at this
    omega
  intro i hi
  obtain ⟨a1, a2, a3, a4, a5⟩ := h i hi
  refine ⟨a2, a1, a3, (low i hi).1, a5, (low i hi).2, fun z => ?_⟩
  unfold bef at a4
  rw [if_neg (by omega)] at a4
  exact a4
 ·intro h i hi
  obtain ⟨a1, a2, a3, a4, a5, a6, a7⟩ := h i hi
  refine ⟨a2, a1, a3, ?_, a5⟩
  unfold bef mx
  by_cases z : i = 0
  ·rw [if_pos z]
   split <;> omega
  ·rw [if_neg z]
   exact a7 (by omega)
theorem implTombs_ev (idx : Int) (rows : List S92) (tombs : List S94) (lost : Int) (sess : List S109) (lasts : List S75) (hr : rows.length ≤ 1000) (ht : tombs.length ≤ 1048576) (hs : sess.length ≤ 1048576) (hn : lasts.length ≤ 1048576) (hbr : ByRows rows) (hbt : ByTombs tombs) (hk : ∀ t ∈ tombs, t.f0.length ≤ 1048576) (hv : ∀ i, i < rows.length → rowV idx sess rows i) :
  ∃ b, Ev (fun k => impl_StateOk.l1 k (bef lost tombs 0) tombs (tombs.length : Int) ((0 : Nat) : Int) idx rows tombs lost sess lasts) b ∧ (b = true ↔ ((∀ i, i < tombs.length → tombI idx lost rows tombs i) ∧ (∀ i, i < sess.length → sessV idx sess i) ∧ (∀ i, i < lasts.length → lastV idx lasts i))) := by
 obtain ⟨bl, el, hl⟩ := implSessions_ev idx rows tombs lost sess lasts hs hn
 refine loop_all (L := fun k i => impl_StateOk.l1 k (bef lost tombs i) tombs (tombs.length : Int) (i : Int) idx rows tombs lost sess lasts) tombs.length (tombI idx lost rows tombs) _ ⟨bl, (by refine Ev.step (fun k => by rw [impl_StateOk.l1]) ?_; exact ev_if_neg (by omega) el), hl⟩ ?_ tombs.length 0 (by omega) (by omega) (by omega)
 intro i hi _
 have go : ∀ b, Ev (fun k => impl_StateOk.l1 k (bef lost tombs (i + 1)) tombs (tombs.length : Int) ((i + 1 : Nat) : Int) idx rows tombs lost sess lasts) b → Ev (fun k => impl_StateOk.l1 k (rd_T94 tombs (i : Int)).f1 tombs (tombs.length : Int) (wrap64 ((i : Int) + 1)) idx rows tombs lost sess lasts) b := fun b e => by
  rw [w64 (by omega) (by omega)]
  unfold bef at e
  rw [if_neg (by omega), Int.natCast_add, Int.natCast_one, Int.add_sub_cancel] at e
  exact e
 have hm := rd_T94_mem tombs i hi
 unfold tombI
 generalize bef lost tombs i = bf
 generalize hx : rd_T94 tombs (i : Int) = x at hm go
 have hb := hbt x hm
 have e1 := implKey_ev x.f0 (by have := hk x hm; omega)
 obtain ⟨p, b2, e2, r1, r2⟩ := implRow_ev idx rows tombs lost sess lasts x.f0 hr (fun r h => (hbr r h).1) hb (sortedR_of idx sess rows hv)
 have e3 := implTomb_eq idx rows tombs lost sess lasts x.f0 ht hbt hb
 cases b2 with
 | true =>
  obtain ⟨hp, hpk⟩ := r1 rfl
  refine .inr ⟨fun z => z.1 _ (List.getElem_mem hp) hpk, ?_⟩
  refine Ev.step (fun k => by rw [impl_StateOk.l1]) ?_
  rw [hx]
  exact ev_if_pos (by omega) (ev_if_pos (by omega) (ev_if_pos (by omega) (Ev.bind e2 (ev_if_pos rfl (Ev.now _)))))
 | false =>
  have q2 := r2 rfl
  by_cases p1 : keyP x.f0 = true
  case neg =>
   refine .inr ⟨fun z => p1 z.2.1, ?_⟩
   refine Ev.step (fun k => by rw [impl_StateOk.l1]) ?_
   rw [hx]
   exact ev_if_pos (by omega) (ev_if_pos (by omega) (ev_if_pos (by omega) (Ev.bind e2 (ev_if_neg (by simp) (Ev.bind e1 (ev_if_neg p1 (Ev.now _)))))))
  by_cases p3 : tfind x.f0 tombs 0 = (i : Int)
  case neg =>
   refine .inr ⟨fun z => p3 z.2.2.1, ?_⟩
   refine Ev.step (fun k => by rw [impl_StateOk.l1]) ?_
   rw [hx]
   exact ev_if_pos (by omega) (ev_if_pos (by omega) (ev_if_pos (by omega) (Ev.bind e2 (ev_if_neg (by simp) (Ev.bind e1 (ev_if_pos p1 (ev_bind_eq e3 (ev_if_neg p3 (Ev.now _)))))))))
  by_cases p4 : bf ≤ x.f1 ∧ x.f1 ≤ idx
  ·refine .inl ⟨⟨q2, p1, p3, p4.1, p4.2⟩, fun b e => ?_⟩
   have e := go b e
   refine Ev.step (fun k => by rw [impl_StateOk.l1]) ?_
   rw [hx]
   exact ev_if_pos (by omega) (ev_if_pos (by omega) (ev_if_pos (by omega) (Ev.bind e2 (ev_if_neg (by simp) (Ev.bind e1 (ev_if_pos p1 (ev_bind_eq e3 (ev_if_pos p3 (ev_bind_eq (within_eq _ _ _) (ev_if_pos (decide_eq_true p4) e))))))))))
  ·refine .inr ⟨fun z => p4 ⟨z.2.2.2.1, z.2.2.2.2⟩, ?_⟩
   refine Ev.step (fun k => by rw [impl_StateOk.l1]) ?_
   rw [hx]
   exact ev_if_pos (by omega) (ev_if_pos (by omega) (ev_if_pos (by omega) (Ev.bind e2 (ev_if_neg (by simp) (Ev.bind e1 (ev_if_pos p1 (ev_bind_eq e3 (ev_if_pos p3 (ev_bind_eq (within_eq _ _ _) (ev_if_neg (by rw [decide_eq_true_iff]; exact p4) (Ev.now _)))))))))))
theorem implRows_ev (idx : Int) (rows : List S92) (tombs : List S94) (lost : Int) (sess : List S109) (lasts : List S75) (hr : rows.length ≤ 1000) (ht : tombs.length ≤ 1048576) (hs : sess.length ≤ 1048576) (hn : lasts.length ≤ 1048576) (hbr : ByRows rows) (hbt : ByTombs tombs) (hk : ∀ t ∈ tombs, t.f0.length ≤ 1048576) (hkr : ∀ r ∈ rows, r.f0.length ≤ 1048576) :
  ∃ b, Ev (fun k => impl_StateOk.l0 k rows (rows.length : Int) ((0 : Nat) : Int) idx rows tombs lost sess lasts) b ∧ (b = true ↔ ((∀ i, i < rows.length → rowV idx sess rows i) ∧ (∀ i, i < tombs.length → tombV idx lost rows tombs i) ∧ (∀ i, i < sess.length → sessV idx sess i) ∧ (∀ i, i < lasts.length → lastV idx lasts i))) := by
 have fin : ∃ b, Ev (fun k => impl_StateOk.l1 k (bef lost tombs 0) tombs (tombs.length : Int) ((0 : Nat) : Int) idx rows tombs lost sess lasts) b ∧ (((∀ i, i < rows.length → rowV idx sess rows i)) → (b = true ↔ ((∀ i, i < tombs.length → tombV idx lost rows tombs i) ∧ (∀ i, i < sess.length → sessV idx sess i) ∧ (∀ i, i < lasts.length → lastV idx lasts i)))) ∨ ¬ (∀ i, i < rows.length → rowV idx sess rows i) := by
  by_cases hv : ∀ i, i < rows.length → rowV idx sess rows i
  ·obtain ⟨b, e, h⟩ := implTombs_ev idx rows tombs lost sess lasts hr ht hs hn hbr hbt hk hv
   rw [tombs_iff] at h
   exact ⟨b, .inl ⟨e, fun _ => h⟩⟩
  ·exact ⟨true, .inr hv⟩
 obtain ⟨bl, hfin⟩ := fin
 have main := loop_all2 (L := fun k i => impl_StateOk.l0 k rows (rows.length : Int) (i : Int) idx rows tombs lost sess lasts) rows.length (rowV idx sess rows) ((∀ i, i < tombs.length → tombV idx lost rows tombs i) ∧ (∀ i, i < sess.length → sessV idx sess i) ∧ (∀ i, i < lasts.length → lastV idx lasts i)) (fun hv => by
  rcases hfin with ⟨el, hl⟩ | h
  ·exact ⟨bl, (by refine Ev.step (fun k => by rw [impl_StateOk.l0]) ?_; exact ev_if_neg (by omega) el), hl hv⟩
  ·exact absurd hv h)
 refine main ?_ rows.length 0 (by omega) (by omega) (by omega)
 intro i hi _
 have go : ∀ b, Ev (fun k => impl_StateOk.l0 k rows (rows.length : Int) ((i + 1 : Nat) : Int) idx rows tombs lost sess lasts) b → Ev (fun k => impl_StateOk.l0 k rows (rows.length : Int) (wrap64 ((i : Int) + 1)) idx rows tombs lost sess lasts) b := fun b e => by
  rw [w64 (by omega) (by omega)]
  rw [Int.natCast_add, Int.natCast_one] at e
  exact e
 have hm := rd_T92_mem rows i hi
 have hy0 : 0 < i → rd_T92 rows ((i : Int) - 1) ∈ rows := fun z => by
  have := rd_T92_mem rows (i - 1) (by omega)
  rwa [show ((i - 1 : Nat) : Int) = (i : Int) - 1 by omega] at this
 unfold rowV
 generalize hx : rd_T92 rows (i : Int) = x at hm
 generalize hy : rd_T92 rows ((i : Int) - 1) = y at hy0
 have hb := (hbr x hm).1
 have e1 := implKey_ev x.f0 (by have := hkr x hm; omega)
 have e3 := implSess_eq idx rows tombs lost sess lasts x.f3 hs
 have cmp : 0 < i → bytes_Compare.f y.f0 x.f0 = some (bytes_Compare.cmp y.f0 x.f0) := fun z => bytesCompare_eq _ _ (hbr y (hy0 z)).1 hb
 by_cases p1 : keyP x.f0 = true
 case neg =>
  refine .inr ⟨fun z => p1 z.1, ?_⟩
  refine Ev.step (fun k => by rw [impl_StateOk.l0]) ?_
  rw [hx]
  exact ev_if_pos (by omega) (ev_if_pos (by omega) (ev_if_pos (by omega) (Ev.bind e1 (ev_if_neg p1 (Ev.now _)))))
 by_cases p2 : x.f1.length ≤ 20
 case neg =>
  refine .inr ⟨fun z => p2 z.2.1, ?_⟩
  refine Ev.step (fun k => by rw [impl_StateOk.l0]) ?_
  rw [hx]
  exact ev_if_pos (by omega) (ev_if_pos (by omega) (ev_if_pos (by omega) (Ev.bind e1 (ev_if_pos p1 (ev_bind_eq rfl (ev_if_neg (by rw [decide_eq_true_iff]; omega) (Ev.now _)))))))
 by_cases p3 : 1 ≤ x.f2 ∧ x.f2 ≤ idx
 case neg =>
  refine .inr ⟨fun z => p3 ⟨z.2.2.1, z.2.2.2.1⟩, ?_⟩
  refine Ev.step (fun k => by rw [impl_StateOk.l0]) ?_
  rw [hx]
  exact ev_if_pos (by omega) (ev_if_pos (by omega) (ev_if_pos (by omega) (Ev.bind e1 (ev_if_pos p1 (ev_bind_eq rfl (ev_if_pos (by rw [decide_eq_true_iff]; omega) (ev_bind_eq (within_eq _ _ _) (ev_if_neg (by rw [decide_eq_true_iff]; exact p3) (Ev.now _)))))))))
 have go2 : ∀ {g : Nat → Option Bool} {b : Bool}, Ev g b → Ev (fun k => (impl_KeyOk.f k x.f0).bind fun t247 => if t247 = true then ((impl_isValue.f x.f1).bind fun t248 => if t248 = true then ((impl_within.f x.f2 1 idx).bind fun t249 => if t249 = true then g k else some false) else some false) else some false) b := fun h => Ev.bind e1 (ev_if_pos p1 (ev_bind_eq rfl (ev_if_pos (by rw [decide_eq_true_iff]; omega) (ev_bind_eq (within_eq _ _ _) (ev_if_pos (decide_eq_true p3) h)))))
 have tail : ∀ b, (bytes_Compare.cmp y.f0 x.f0 < 0 → Ev (fun k => impl_StateOk.l0 k rows (rows.length : Int) (wrap64 ((i : Int) + 1)) idx rows tombs lost sess lasts) b) → (¬ (i : Int) > 0 → Ev (fun k => impl_StateOk.l0 k rows (rows.length : Int) (wrap64 ((i : Int) + 1)) idx rows tombs lost sess lasts) b) → ((i : Int) > 0 → ¬ bytes_Compare.cmp y.f0 x.f0 < 0 → b = false) →
   Ev (fun k => if (i : Int) > 0 then (if 0 ≤ (wrap64 ((i : Int) - 1)) then (if (wrap64 ((i : Int) - 1)) < (rows.length : Int) then ((bytes_Compare.f ((rd_T92 rows (wrap64 ((i : Int) - 1))).f0) (x.f0)).bind fun t251 => (if t251 ≥ 0 then (some false) else (impl_StateOk.l0 k rows (rows.length : Int) (wrap64 ((i : Int) + 1)) idx rows tombs lost sess lasts))) else (none)) else (none)) else (impl_StateOk.l0 k rows (rows.length : Int) (wrap64 ((i : Int) + 1)) idx rows tombs lost sess lasts)) b := by
  intro b h1 h2 h3
  refine ev_ite (fun c => ?_) (fun c => h2 c)
  rw [w64 (x := (i : Int) - 1) (by omega) (by omega), hy, cmp (by omega)]
  refine ev_if_pos (by omega) (ev_if_pos (by omega) (ev_bind_eq rfl (ev_ite (fun z => ?_) (fun z => ?_))))
  ·rw [h3 c (by omega)]
   exact Ev.now _
  ·exact h1 (by omega)
 by_cases p5 : x.f3 = 0 ∨ ¬ sfind x.f3 sess 0 < 0
 case neg =>
  have a : ¬ x.f3 = 0 := fun z => p5 (.inl z)
  have b : sfind x.f3 sess 0 < 0 := by
   rcases Int.lt_or_le (sfind x.f3 sess 0) 0 with z | z
   ·exact z
   ·exact absurd (.inr (by omega)) p5
  refine .inr ⟨fun z => p5 z.2.2.2.2.1, ?_⟩
  refine Ev.step (fun k => by rw [impl_StateOk.l0]) ?_
  rw [hx]
  exact ev_if_pos (by omega) (ev_if_pos (by omega) (ev_if_pos (by omega) (go2 (ev_if_neg a (ev_bind_eq e3 (ev_if_pos b (Ev.now _)))))))
 have hold : ∀ {g : Nat → Option Bool} {b : Bool}, Ev g b → Ev (fun k => if x.f3 = 0 then g k else ((impl_State_session.f idx rows tombs lost sess lasts x.f3).bind fun t252 => if t252 < 0 then some false else g k)) b := fun h => ev_ite (fun _ => h) (fun c => ev_bind_eq e3 (ev_if_neg (by rcases p5 with z | z; exact absurd z c; exact z) h))
 by_cases p6 : 0 < i → bytes_Compare.cmp y.f0 x.f0 < 0
 ·refine .inl ⟨⟨p1, p2, p3.1, p3.2, p5, p6⟩, fun b e => ?_⟩
  have e := go b e
  refine Ev.step (fun k => by rw [impl_StateOk.l0]) ?_
  rw [hx]
  exact ev_if_pos (by omega) (ev_if_pos (by omega) (ev_if_pos (by omega) (go2 (hold (tail b (fun _ => e) (fun _ => e) (fun c z => absurd (p6 (by omega)) z))))))
 ·refine .inr ⟨fun z => p6 z.2.2.2.2.2, ?_⟩
  refine Ev.step (fun k => by rw [impl_StateOk.l0]) ?_
  rw [hx]
  exact ev_if_pos (by omega) (ev_if_pos (by omega) (ev_if_pos (by omega) (go2 (hold (tail false (fun z => absurd (fun _ => z) p6) (fun z => absurd (fun y => by omega) p6) (fun _ _ => rfl))))))
theorem implStateOk_ev (idx : Int) (rows : List S92) (tombs : List S94) (lost : Int) (sess : List S109) (lasts : List S75) (hr : rows.length ≤ 1048576) (ht : tombs.length ≤ 1048576) (hs : sess.length ≤ 1048576) (hn : lasts.length ≤ 1048576) (hbr : ByRows rows) (hbt : ByTombs tombs) (hk : ∀ t ∈ tombs, t.f0.length ≤ 1048576) (hkr : ∀ r ∈ rows, r.f0.length ≤ 1048576) :
  ∃ b, Ev (fun k => impl_StateOk.f k idx rows tombs lost sess lasts) b ∧ (b = true ↔ VState idx rows tombs lost sess lasts) := by
 have no : Ev (fun k => impl_StateOk.j0 k true idx rows tombs lost sess lasts) false := by
  refine Ev.step (fun k => by rw [impl_StateOk.j0]) ?_
  exact ev_if_pos rfl (Ev.now _)
 unfold impl_StateOk.f VState headV
 by_cases c1 : 0 ≤ idx ∧ idx ≤ 1000000
 case neg => exact ⟨false, ev_bind_eq (within_eq _ _ _) (ev_if_neg (by rw [decide_eq_true_iff]; exact c1) no), ⟨fun z => absurd z (by simp), fun z => absurd z.1.1 c1⟩⟩
 by_cases c2 : 0 ≤ lost ∧ lost ≤ idx
 case neg => exact ⟨false, ev_bind_eq (within_eq _ _ _) (ev_if_pos (decide_eq_true c1) (ev_bind_eq (within_eq _ _ _) (ev_if_neg (by rw [decide_eq_true_iff]; exact c2) no))), ⟨fun z => absurd z (by simp), fun z => absurd z.1.2.1 c2⟩⟩
 by_cases q : rows.length ≤ 20 ∧ tombs.length ≤ 10 ∧ sess.length ≤ 8 ∧ lasts.length ≤ 4
 ·obtain ⟨q3, q4, q5, q6⟩ := q
  obtain ⟨b, e, h⟩ := implRows_ev idx rows tombs lost sess lasts (by omega) ht hs hn hbr hbt hk hkr
  refine ⟨b, ev_bind_eq (within_eq _ _ _) (ev_if_pos (decide_eq_true c1) (ev_bind_eq (within_eq _ _ _) (ev_if_pos (decide_eq_true c2) (ev_if_neg (by omega) (ev_if_neg (by omega) (ev_if_neg (by omega) ?_)))))), h.trans ⟨fun z => ⟨⟨c1, c2, q3, q4, q5, q6⟩, z⟩, fun z => z.2⟩⟩
  rw [decide_eq_false (by omega)]
  refine Ev.step (fun k => by rw [impl_StateOk.j0]) ?_
  exact ev_if_neg (by simp) e
 ·refine ⟨false, ev_bind_eq (within_eq _ _ _) (ev_if_pos (decide_eq_true c1) (ev_bind_eq (within_eq _ _ _) (ev_if_pos (decide_eq_true c2) (ev_ite (fun _ => no) (fun d1 => ev_ite (fun _ => no) (fun d2 => ev_ite (fun _ => no) (fun d5 => ?_))))))), ⟨fun z => absurd z (by simp), fun z => absurd z.1.2.2 q⟩⟩
  rw [decide_eq_true (show (lasts.length : Int) > 4 by
   rcases Nat.lt_or_ge 4 lasts.length with y | y
   ·omega
   ·exact absurd ⟨by omega, by omega, by omega, y⟩ q)]
  exact no
-- strcmp.lean: strings compared, bytes compared
theorem byte_lt {x y : Int} (hx : 0 ≤ x) (hx1 : x ≤ 255) (hy : 0 ≤ y) (hy1 : y ≤ 255) : (decide (UInt8.ofNat x.toNat < UInt8.ofNat y.toNat)) = decide (x < y) := by
 rw [Bool.eq_iff_iff, decide_eq_true_iff, decide_eq_true_iff, UInt8.lt_iff_toNat_lt]
 simp
 omega
theorem bytesLess_cmp : ∀ a b : List Int, Bytes a → Bytes b → Op.bytesLess (a.map fun n => UInt8.ofNat n.toNat) (b.map fun n => UInt8.ofNat n.toNat) = decide (bytes_Compare.cmp a b < 0)
 | [], [], _, _ => rfl
 | _ :: _, [], _, _ => rfl
 | [], _ :: _, _, _ => rfl
 | x :: xs, y :: ys, ha, hb => by
  have hx := wf_u8 (ha x List.mem_cons_self)
  have hy := wf_u8 (hb y List.mem_cons_self)
  have ih := bytesLess_cmp xs ys (fun z hz => ha z (List.mem_cons_of_mem _ hz)) (fun z hz => hb z (List.mem_cons_of_mem _ hz))
  rw [List.map_cons, List.map_cons, Op.bytesLess, ih, byte_lt hx.1 hx.2 hy.1 hy.2, bytes_Compare.cmp]
  by_cases c1 : x < y
  ·rw [if_pos c1]
   simp [c1]
  ·rw [if_neg c1]
   by_cases c2 : y < x
   ·have hne : (UInt8.ofNat x.toNat == UInt8.ofNat y.toNat) = false := by
     rw [beq_eq_false_iff_ne]
     intro h
     have := byte_inj hx.1 hx.2 hy.1 hy.2 h
     omega
    rw [if_pos c2, hne]
    simp [c1]
   ·have e : x = y := by omega
    subst e
    simp
theorem strLess_eq (a b : List Int) (ha : Bytes a) (hb : Bytes b) : Op.bytesLess ((strOfNums a).toList) ((strOfNums b).toList) = decide (bytes_Compare.cmp a b < 0) := by
 rw [strOf_list, strOf_list, bytesLess_cmp a b ha hb]
-- statespec.lean: the reference's StateOk
theorem specSess_loop (idx : Int) (rows : List S92) (tombs : List S94) (lost : Int) (sess : List S109) (lasts : List S75) (id : Int) (hn : sess.length ≤ 1048576) (d : Nat) : ∀ i : Nat, i ≤ sess.length → sess.length - i = d →
  Ev (fun k => spec_l2sess.l0 k id (i : Int) idx rows tombs lost sess lasts) (sfind id (sess.drop i) (i : Int)) := by
 induction d with
 | zero =>
  intro i hi hd
  refine Ev.step (fun k => by rw [spec_l2sess.l0]) (ev_if_neg (by omega) (ev_done ?_))
  rw [List.drop_of_length_le (by omega), sfind]
 | succ d ih =>
  intro i hi hd
  have hi' : i < sess.length := by omega
  have h := ih (i + 1) (by omega) (by omega)
  rw [Int.natCast_add i, Int.natCast_one] at h
  refine Ev.step (fun k => by rw [spec_l2sess.l0]) ?_
  rw [rd_T109_get sess i hi', w64 (x := (i : Int) + 1) (by omega) (by omega), List.drop_eq_getElem_cons hi', sfind]
  refine ev_if_pos (by omega) (ev_if_pos (by omega) ?_)
  by_cases c : sess[i].f0 = id
  ·rw [if_pos c]
   exact ev_if_pos c (Ev.now _)
  ·rw [if_neg c]
   exact ev_if_neg c h
theorem specSess_ev (idx : Int) (rows : List S92) (tombs : List S94) (lost : Int) (sess : List S109) (lasts : List S75) (id : Int) (hn : sess.length ≤ 1048576) : Ev (fun k => spec_l2sess.f k idx rows tombs lost sess lasts id) (sfind id sess 0) := by
 have h : Ev (fun k => spec_l2sess.l0 k id 0 idx rows tombs lost sess lasts) _ := specSess_loop idx rows tombs lost sess lasts id hn sess.length 0 (by omega) (by omega)
 rw [List.drop_zero] at h
 exact h
theorem str_ne_iff (a b : List Int) (ha : Bytes a) (hb : Bytes b) : ((strOfNums a).toList = (strOfNums b).toList) ↔ a = b := by
 have h := str_eq a b ha hb
 constructor
 ·intro e
  rw [e] at h
  simpa using h.symm
 ·intro e
  rw [e]
theorem specTomb_loop (idx : Int) (rows : List S92) (tombs : List S94) (lost : Int) (sess : List S109) (lasts : List S75) (key : List Int) (hn : tombs.length ≤ 1048576) (ht : ByTombs tombs) (hk : Bytes key) (d : Nat) : ∀ i : Nat, i ≤ tombs.length → tombs.length - i = d →
  Ev (fun k => spec_l2tomb.l0 k key (i : Int) idx rows tombs lost sess lasts) (tfind key (tombs.drop i) (i : Int)) := by
 induction d with
 | zero =>
  intro i hi hd
  refine Ev.step (fun k => by rw [spec_l2tomb.l0]) (ev_if_neg (by omega) (ev_done ?_))
  rw [List.drop_of_length_le (by omega), tfind]
 | succ d ih =>
  intro i hi hd
  have hi' : i < tombs.length := by omega
  have h := ih (i + 1) (by omega) (by omega)
  rw [Int.natCast_add i, Int.natCast_one] at h
  have hs := str_ne_iff tombs[i].f0 key (ht _ (List.getElem_mem hi')) hk
  refine Ev.step (fun k => by rw [spec_l2tomb.l0]) ?_
  rw [rd_T94_get tombs i hi', w64 (x := (i : Int) + 1) (by omega) (by omega), List.drop_eq_getElem_cons hi', tfind]
  refine ev_if_pos (by omega) (ev_if_pos (by omega) ?_)
  by_cases c : tombs[i].f0 = key
  ·rw [if_pos c]
   exact ev_if_pos (hs.2 c) (Ev.now _)
  ·rw [if_neg c]
   exact ev_if_neg (fun z => c (hs.1 z)) h
theorem specTomb_ev (idx : Int) (rows : List S92) (tombs : List S94) (lost : Int) (sess : List S109) (lasts : List S75) (key : List Int) (hn : tombs.length ≤ 1048576) (ht : ByTombs tombs) (hk : Bytes key) : Ev (fun k => spec_l2tomb.f k idx rows tombs lost sess lasts key) (tfind key tombs 0) := by
 have h : Ev (fun k => spec_l2tomb.l0 k key 0 idx rows tombs lost sess lasts) _ := specTomb_loop idx rows tombs lost sess lasts key hn ht hk tombs.length 0 (by omega) (by omega)
 rw [List.drop_zero] at h
 exact h
/-- Where a row is; -1: nowhere. -/
def rfind (key : List Int) : List S92 → Int → Int
 | [], _ => -1
 | x :: xs, i => if x.f0 = key then i else rfind key xs (i + 1)
theorem rfind_neg (key : List Int) : ∀ (l : List S92) (i : Int), 0 ≤ i → (0 ≤ rfind key l i ↔ ∃ r ∈ l, r.f0 = key)
 | [], i, _ => by simp [rfind]
 | x :: xs, i, h => by
  rw [rfind]
  by_cases c : x.f0 = key
  ·rw [if_pos c]
   simp [c, h]
  ·rw [if_neg c, rfind_neg key xs (i + 1) (by omega)]
   simp [c]
theorem specRow_loop (idx : Int) (rows : List S92) (tombs : List S94) (lost : Int) (sess : List S109) (lasts : List S75) (key : List Int) (hn : rows.length ≤ 1048576) (ht : ByRows rows) (hk : Bytes key) (d : Nat) : ∀ i : Nat, i ≤ rows.length → rows.length - i = d →
  Ev (fun k => spec_l2row.l0 k key (i : Int) idx rows tombs lost sess lasts) (rfind key (rows.drop i) (i : Int)) := by
 induction d with
 | zero =>
  intro i hi hd
  refine Ev.step (fun k => by rw [spec_l2row.l0]) (ev_if_neg (by omega) (ev_done ?_))
  rw [List.drop_of_length_le (by omega), rfind]
 | succ d ih =>
  intro i hi hd
  have hi' : i < rows.length := by omega
  have h := ih (i + 1) (by omega) (by omega)
  rw [Int.natCast_add i, Int.natCast_one] at h
  have hs := str_ne_iff rows[i].f0 key (ht _ (List.getElem_mem hi')).1 hk
  refine Ev.step (fun k => by rw [spec_l2row.l0]) ?_
  rw [rd_T92_get rows i hi', w64 (x := (i : Int) + 1) (by omega) (by omega), List.drop_eq_getElem_cons hi', rfind]
  refine ev_if_pos (by omega) (ev_if_pos (by omega) ?_)
  by_cases c : rows[i].f0 = key
  ·rw [if_pos c]
   exact ev_if_pos (hs.2 c) (Ev.now _)
  ·rw [if_neg c]
   exact ev_if_neg (fun z => c (hs.1 z)) h
theorem specRow_ev (idx : Int) (rows : List S92) (tombs : List S94) (lost : Int) (sess : List S109) (lasts : List S75) (key : List Int) (hn : rows.length ≤ 1048576) (ht : ByRows rows) (hk : Bytes key) : Ev (fun k => spec_l2row.f k idx rows tombs lost sess lasts key) (rfind key rows 0) := by
 have h : Ev (fun k => spec_l2row.l0 k key 0 idx rows tombs lost sess lasts) _ := specRow_loop idx rows tombs lost sess lasts key hn ht hk rows.length 0 (by omega) (by omega)
 rw [List.drop_zero] at h
 exact h
theorem specLasts_ev (idx : Int) (rows : List S92) (tombs : List S94) (lost : Int) (sess : List S109) (lasts : List S75) (hn : lasts.length ≤ 1048576) :
  ∃ b, Ev (fun k => spec_StateOk.l3 k ((0 : Nat) : Int) idx rows tombs lost sess lasts) b ∧ (b = true ↔ ((∀ i, i < lasts.length → lastV idx lasts i) ∧ True)) := by
 refine loop_all (L := fun k i => spec_StateOk.l3 k (i : Int) idx rows tombs lost sess lasts) lasts.length (lastV idx lasts) True ⟨true, (by refine Ev.step (fun k => by rw [spec_StateOk.l3]) ?_; exact ev_if_neg (by omega) (Ev.now _)), by simp⟩ ?_ lasts.length 0 (by omega) (by omega) (by omega)
 intro i hi _
 have go : ∀ b, Ev (fun k => spec_StateOk.l3 k ((i + 1 : Nat) : Int) idx rows tombs lost sess lasts) b → Ev (fun k => spec_StateOk.l3 k (wrap64 ((i : Int) + 1)) idx rows tombs lost sess lasts) b := fun b e => by
  rw [w64 (by omega) (by omega)]
  rw [Int.natCast_add, Int.natCast_one] at e
  exact e
 unfold lastV
 generalize hx : rd_T75 lasts (i : Int) = x
 generalize hy : rd_T75 lasts ((i : Int) - 1) = y
 by_cases p : 0 ≤ x.f0 ∧ x.f0 ≤ 3 ∧ 1 ≤ x.f1 ∧ x.f1 ≤ 1000000 ∧ 0 ≤ x.f2.f0 ∧ x.f2.f0 ≤ 5 ∧ 1 ≤ x.f2.f1 ∧ x.f2.f1 ≤ idx ∧ (0 < i → y.f0 < x.f0)
 ·refine .inl ⟨p, fun b e => Ev.step (fun k => by rw [spec_StateOk.l3]) ?_⟩
  have e := go b e
  obtain ⟨p1, p2, p3, p4, p5, p6, p7, p8, p9⟩ := p
  rw [hx]
  refine ev_if_pos (by omega) (ev_if_pos (by omega) (ev_if_neg (by omega) (ev_if_neg (by omega) (ev_if_neg (by omega) (ev_if_neg (by omega) (ev_if_neg (by omega) (ev_if_neg (by omega) (ev_if_neg (by omega) (ev_if_neg (by omega) ?_)))))))))
  refine ev_ite (fun c => ?_) (fun _ => e)
  rw [w64 (x := (i : Int) - 1) (by omega) (by omega), hy]
  have := p9 (by omega)
  exact ev_if_pos (by omega) (ev_if_pos (by omega) (ev_if_neg (by omega) e))
 ·refine .inr ⟨p, Ev.step (fun k => by rw [spec_StateOk.l3]) ?_⟩
  rw [hx]
  refine ev_if_pos (by omega) (ev_if_pos (by omega) (ev_ite (fun _ => Ev.now _) (fun c1 => ev_ite (fun _ => Ev.now _) (fun c2 => ev_ite (fun _ => Ev.now _) (fun c3 => ev_ite (fun _ => Ev.now _) (fun c4 => ev_ite (fun _ => Ev.now _) (fun c5 => ev_ite (fun _ => Ev.now _) (fun c6 => ev_ite (fun _ => Ev.now _) (fun c7 => ev_ite (fun _ => Ev.now _) (fun c8 => ?_)))))))))) 
  by_cases c9 : (i : Int) > 0
  ·refine ev_if_pos c9 ?_
   rw [w64 (x := (i : Int) - 1) (by omega) (by omega), hy]
   refine ev_if_pos (by omega) (ev_if_pos (by omega) (ev_if_pos ?_ (Ev.now _)))
   rcases Int.lt_or_le y.f0 x.f0 with z | z
   ·exact absurd ⟨by omega, by omega, by omega, by omega, by omega, by omega, by omega, by omega, fun _ => z⟩ p
   ·omega
  ·exact absurd ⟨by omega, by omega, by omega, by omega, by omega, by omega, by omega, by omega, fun z => by omega⟩ p
theorem specSessions_ev (idx : Int) (rows : List S92) (tombs : List S94) (lost : Int) (sess : List S109) (lasts : List S75) (hs : sess.length ≤ 1048576) (hn : lasts.length ≤ 1048576) :
  ∃ b, Ev (fun k => spec_StateOk.l2 k ((0 : Nat) : Int) idx rows tombs lost sess lasts) b ∧ (b = true ↔ ((∀ i, i < sess.length → sessV idx sess i) ∧ (∀ i, i < lasts.length → lastV idx lasts i))) := by
 obtain ⟨bl, el, hl⟩ := specLasts_ev idx rows tombs lost sess lasts hn
 refine loop_all (L := fun k i => spec_StateOk.l2 k (i : Int) idx rows tombs lost sess lasts) sess.length (sessV idx sess) _ ⟨bl, (by refine Ev.step (fun k => by rw [spec_StateOk.l2]) ?_; exact ev_if_neg (by omega) el), by rw [hl, and_true]⟩ ?_ sess.length 0 (by omega) (by omega) (by omega)
 intro i hi _
 have go : ∀ b, Ev (fun k => spec_StateOk.l2 k ((i + 1 : Nat) : Int) idx rows tombs lost sess lasts) b → Ev (fun k => spec_StateOk.l2 k (wrap64 ((i : Int) + 1)) idx rows tombs lost sess lasts) b := fun b e => by
  rw [w64 (by omega) (by omega)]
  rw [Int.natCast_add, Int.natCast_one] at e
  exact e
 unfold sessV
 generalize hx : rd_T109 sess (i : Int) = x
 generalize hy : rd_T109 sess ((i : Int) - 1) = y
 by_cases p : 1 ≤ x.f0 ∧ x.f0 ≤ idx ∧ (0 < i → y.f0 < x.f0)
 ·refine .inl ⟨p, fun b e => Ev.step (fun k => by rw [spec_StateOk.l2]) ?_⟩
  have e := go b e
  obtain ⟨p1, p2, p9⟩ := p
  rw [hx]
  refine ev_if_pos (by omega) (ev_if_pos (by omega) (ev_if_neg (by omega) (ev_if_neg (by omega) ?_)))
  refine ev_ite (fun c => ?_) (fun _ => e)
  rw [w64 (x := (i : Int) - 1) (by omega) (by omega), hy]
  have := p9 (by omega)
  exact ev_if_pos (by omega) (ev_if_pos (by omega) (ev_if_neg (by omega) e))
 ·refine .inr ⟨p, Ev.step (fun k => by rw [spec_StateOk.l2]) ?_⟩
  rw [hx]
  refine ev_if_pos (by omega) (ev_if_pos (by omega) (ev_ite (fun _ => Ev.now _) (fun c1 => ev_ite (fun _ => Ev.now _) (fun c2 => ?_))))
  by_cases c9 : (i : Int) > 0
  ·refine ev_if_pos c9 ?_
   rw [w64 (x := (i : Int) - 1) (by omega) (by omega), hy]
   refine ev_if_pos (by omega) (ev_if_pos (by omega) (ev_if_pos ?_ (Ev.now _)))
   rcases Int.lt_or_le y.f0 x.f0 with z | z
   ·exact absurd ⟨by omega, by omega, fun _ => z⟩ p
   ·omega
  ·exact absurd ⟨by omega, by omega, fun z => by omega⟩ p
theorem specTombs_ev (idx : Int) (rows : List S92) (tombs : List S94) (lost : Int) (sess : List S109) (lasts : List S75) (hr : rows.length ≤ 1048576) (ht : tombs.length ≤ 1048576) (hs : sess.length ≤ 1048576) (hn : lasts.length ≤ 1048576) (hbr : ByRows rows) (hbt : ByTombs tombs) (hk : ∀ t ∈ tombs, t.f0.length ≤ 1048576) :
  ∃ b, Ev (fun k => spec_StateOk.l1 k ((0 : Nat) : Int) idx rows tombs lost sess lasts) b ∧ (b = true ↔ ((∀ i, i < tombs.length → tombV idx lost rows tombs i) ∧ (∀ i, i < sess.length → sessV idx sess i) ∧ (∀ i, i < lasts.length → lastV idx lasts i))) := by
 obtain ⟨bl, el, hl⟩ := specSessions_ev idx rows tombs lost sess lasts hs hn
 refine loop_all (L := fun k i => spec_StateOk.l1 k (i : Int) idx rows tombs lost sess lasts) tombs.length (tombV idx lost rows tombs) _ ⟨bl, (by refine Ev.step (fun k => by rw [spec_StateOk.l1]) ?_; exact ev_if_neg (by omega) el), hl⟩ ?_ tombs.length 0 (by omega) (by omega) (by omega)
 intro i hi _
 have go : ∀ b, Ev (fun k => spec_StateOk.l1 k ((i + 1 : Nat) : Int) idx rows tombs lost sess lasts) b → Ev (fun k => spec_StateOk.l1 k (wrap64 ((i : Int) + 1)) idx rows tombs lost sess lasts) b := fun b e => by
  rw [w64 (by omega) (by omega)]
  rw [Int.natCast_add, Int.natCast_one] at e
  exact e
 have hm := rd_T94_mem tombs i hi
 unfold tombV
 generalize hx : rd_T94 tombs (i : Int) = x at hm
 generalize hy : rd_T94 tombs ((i : Int) - 1) = y
 have hb := hbt x hm
 have e1 := specKey_ev x.f0 (by have := hk x hm; omega)
 have e2 := specRow_ev idx rows tombs lost sess lasts x.f0 hr hbr hb
 have e3 := specTomb_ev idx rows tombs lost sess lasts x.f0 ht hbt hb
 have r2 := rfind_neg x.f0 rows 0 (by omega)
 by_cases p1 : keyP x.f0 = true
 case neg => exact .inr ⟨fun z => p1 z.1, Ev.step (fun k => by rw [spec_StateOk.l1]) (by rw [hx]; exact ev_if_pos (by omega) (ev_if_pos (by omega) (Ev.bind e1 (ev_if_neg p1 (Ev.now _)))))⟩
 by_cases p2 : ∃ r ∈ rows, r.f0 = x.f0
 case pos =>
  refine .inr ⟨fun z => ?_, Ev.step (fun k => by rw [spec_StateOk.l1]) (by rw [hx]; exact ev_if_pos (by omega) (ev_if_pos (by omega) (Ev.bind e1 (ev_if_pos p1 (Ev.bind e2 (ev_if_pos (r2.2 p2) (Ev.now _)))))))⟩
  obtain ⟨r, a, b⟩ := p2
  exact z.2.1 r a b
 have q2 : ∀ r ∈ rows, r.f0 ≠ x.f0 := fun r a b => p2 ⟨r, a, b⟩
 have n2 : ¬ rfind x.f0 rows 0 ≥ 0 := fun z => p2 (r2.1 z)
 by_cases p3 : tfind x.f0 tombs 0 = (i : Int)
 case neg => exact .inr ⟨fun z => p3 z.2.2.1, Ev.step (fun k => by rw [spec_StateOk.l1]) (by rw [hx]; exact ev_if_pos (by omega) (ev_if_pos (by omega) (Ev.bind e1 (ev_if_pos p1 (Ev.bind e2 (ev_if_neg n2 (Ev.bind e3 (ev_if_neg p3 (Ev.now _)))))))))⟩
 have go2 : ∀ {g : Nat → Option Bool} {b : Bool}, Ev g b → Ev (fun k => (spec_l2key.f k x.f0).bind fun t136 => if t136 = true then ((spec_l2row.f k idx rows tombs lost sess lasts x.f0).bind fun t137 => if t137 ≥ 0 then some false else ((spec_l2tomb.f k idx rows tombs lost sess lasts x.f0).bind fun t138 => if t138 = (i : Int) then g k else some false)) else some false) b := fun h => Ev.bind e1 (ev_if_pos p1 (Ev.bind e2 (ev_if_neg n2 (Ev.bind e3 (ev_if_pos p3 h)))))
 by_cases p : 1 ≤ x.f1 ∧ x.f1 ≤ idx ∧ lost ≤ x.f1 ∧ (0 < i → y.f1 ≤ x.f1)
 ·refine .inl ⟨⟨p1, q2, p3, p⟩, fun b e => Ev.step (fun k => by rw [spec_StateOk.l1]) ?_⟩
  have e := go b e
  obtain ⟨p4, p5, p6, p9⟩ := p
  rw [hx]
  refine ev_if_pos (by omega) (ev_if_pos (by omega) (go2 ?_))
  refine ev_if_neg (by omega) (ev_if_neg (by omega) (ev_if_neg (by omega) ?_))
  refine ev_ite (fun c => ?_) (fun _ => e)
  rw [w64 (x := (i : Int) - 1) (by omega) (by omega), hy]
  have := p9 (by omega)
  exact ev_if_pos (by omega) (ev_if_pos (by omega) (ev_if_neg (by omega) e))
 ·refine .inr ⟨fun z => p z.2.2.2, Ev.step (fun k => by rw [spec_StateOk.l1]) ?_⟩
  rw [hx]
  refine ev_if_pos (by omega) (ev_if_pos (by omega) (go2 ?_))
  refine ev_ite (fun _ => Ev.now _) (fun c1 => ev_ite (fun _ => Ev.now _) (fun c2 => ev_ite (fun _ => Ev.now _) (fun c3 => ?_)))
  by_cases c9 : (i : Int) > 0
  ·refine ev_if_pos c9 ?_
   rw [w64 (x := (i : Int) - 1) (by omega) (by omega), hy]
   refine ev_if_pos (by omega) (ev_if_pos (by omega) (ev_if_pos ?_ (Ev.now _)))
   rcases Int.lt_or_le x.f1 y.f1 with z | z
   ·exact z
   ·exact absurd ⟨by omega, by omega, by omega, fun _ => z⟩ p
  ·exact absurd ⟨by omega, by omega, by omega, fun z => by omega⟩ p
theorem specRows_ev (idx : Int) (rows : List S92) (tombs : List S94) (lost : Int) (sess : List S109) (lasts : List S75) (hr : rows.length ≤ 1048576) (ht : tombs.length ≤ 1048576) (hs : sess.length ≤ 1048576) (hn : lasts.length ≤ 1048576) (hbr : ByRows rows) (hbt : ByTombs tombs) (hk : ∀ t ∈ tombs, t.f0.length ≤ 1048576) (hkr : ∀ r ∈ rows, r.f0.length ≤ 1048576) :
  ∃ b, Ev (fun k => spec_StateOk.l0 k ((0 : Nat) : Int) idx rows tombs lost sess lasts) b ∧ (b = true ↔ ((∀ i, i < rows.length → rowV idx sess rows i) ∧ (∀ i, i < tombs.length → tombV idx lost rows tombs i) ∧ (∀ i, i < sess.length → sessV idx sess i) ∧ (∀ i, i < lasts.length → lastV idx lasts i))) := by
 obtain ⟨bl, el, hl⟩ := specTombs_ev idx rows tombs lost sess lasts hr ht hs hn hbr hbt hk
 refine loop_all (L := fun k i => spec_StateOk.l0 k (i : Int) idx rows tombs lost sess lasts) rows.length (rowV idx sess rows) _ ⟨bl, (by refine Ev.step (fun k => by rw [spec_StateOk.l0]) ?_; exact ev_if_neg (by omega) el), hl⟩ ?_ rows.length 0 (by omega) (by omega) (by omega)
 intro i hi _
 have go : ∀ b, Ev (fun k => spec_StateOk.l0 k ((i + 1 : Nat) : Int) idx rows tombs lost sess lasts) b → Ev (fun k => spec_StateOk.l0 k (wrap64 ((i : Int) + 1)) idx rows tombs lost sess lasts) b := fun b e => by
  rw [w64 (by omega) (by omega)]
  rw [Int.natCast_add, Int.natCast_one] at e
  exact e
 have hm := rd_T92_mem rows i hi
 have hy0 : 0 < i → rd_T92 rows ((i : Int) - 1) ∈ rows := fun z => by
  have := rd_T92_mem rows (i - 1) (by omega)
  rwa [show ((i - 1 : Nat) : Int) = (i : Int) - 1 by omega] at this
 unfold rowV
 generalize hx : rd_T92 rows (i : Int) = x at hm
 generalize hy : rd_T92 rows ((i : Int) - 1) = y at hy0
 have hb := (hbr x hm).1
 have e1 := specKey_ev x.f0 (by have := hkr x hm; omega)
 have e3 := specSess_ev idx rows tombs lost sess lasts x.f3 hs
 have less : 0 < i → Op.bytesLess ((strOfNums y.f0).toList) ((strOfNums x.f0).toList) = decide (bytes_Compare.cmp y.f0 x.f0 < 0) := fun z => strLess_eq _ _ (hbr y (hy0 z)).1 hb
 by_cases p1 : keyP x.f0 = true
 case neg => exact .inr ⟨fun z => p1 z.1, Ev.step (fun k => by rw [spec_StateOk.l0]) (by rw [hx]; exact ev_if_pos (by omega) (ev_if_pos (by omega) (Ev.bind e1 (ev_if_neg p1 (Ev.now _)))))⟩
 by_cases p2 : x.f1.length ≤ 20
 case neg => exact .inr ⟨fun z => p2 z.2.1, Ev.step (fun k => by rw [spec_StateOk.l0]) (by rw [hx]; exact ev_if_pos (by omega) (ev_if_pos (by omega) (Ev.bind e1 (ev_if_pos p1 (ev_bind_eq rfl (ev_if_neg (by rw [decide_eq_true_iff]; omega) (Ev.now _)))))))⟩
 have go2 : ∀ {g : Nat → Option Bool} {b : Bool}, Ev g b → Ev (fun k => (spec_l2key.f k x.f0).bind fun t129 => if t129 = true then ((spec_l2val.f x.f1).bind fun t130 => if t130 = true then g k else some false) else some false) b := fun h => Ev.bind e1 (ev_if_pos p1 (ev_bind_eq rfl (ev_if_pos (by rw [decide_eq_true_iff]; omega) h)))
 have tail : ∀ b, (bytes_Compare.cmp y.f0 x.f0 < 0 → Ev (fun k => spec_StateOk.l0 k (wrap64 ((i : Int) + 1)) idx rows tombs lost sess lasts) b) → (¬ (i : Int) > 0 → Ev (fun k => spec_StateOk.l0 k (wrap64 ((i : Int) + 1)) idx rows tombs lost sess lasts) b) → ((i : Int) > 0 → ¬ bytes_Compare.cmp y.f0 x.f0 < 0 → b = false) →
   Ev (fun k => if (i : Int) > 0 then (if 0 ≤ (wrap64 ((i : Int) - 1)) then (if (wrap64 ((i : Int) - 1)) < (rows.length : Int) then (if ((Op.bytesLess ((strOfNums ((rd_T92 rows (wrap64 ((i : Int) - 1))).f0)).toList) ((strOfNums (x.f0)).toList)) = true) then (spec_StateOk.l0 k (wrap64 ((i : Int) + 1)) idx rows tombs lost sess lasts) else (some false)) else (none)) else (none)) else (spec_StateOk.l0 k (wrap64 ((i : Int) + 1)) idx rows tombs lost sess lasts)) b := by
  intro b h1 h2 h3
  refine ev_ite (fun c => ?_) (fun c => h2 c)
  rw [w64 (x := (i : Int) - 1) (by omega) (by omega), hy, less (by omega)]
  refine ev_if_pos (by omega) (ev_if_pos (by omega) (ev_ite (fun z => ?_) (fun z => ?_)))
  ·exact h1 (by simpa using z)
  ·rw [h3 c (by simpa using z)]
   exact Ev.now _
 by_cases p3 : x.f2 < 1
 ·exact .inr ⟨fun z => by have := z.2.2.1; omega, Ev.step (fun k => by rw [spec_StateOk.l0]) (by rw [hx]; exact ev_if_pos (by omega) (ev_if_pos (by omega) (go2 (ev_if_pos p3 (Ev.now _)))))⟩
 by_cases p4 : x.f2 > idx
 ·exact .inr ⟨fun z => by have := z.2.2.2.1; omega, Ev.step (fun k => by rw [spec_StateOk.l0]) (by rw [hx]; exact ev_if_pos (by omega) (ev_if_pos (by omega) (go2 (ev_if_neg p3 (ev_if_pos p4 (Ev.now _))))))⟩
 by_cases p5 : x.f3 = 0 ∨ ¬ sfind x.f3 sess 0 < 0
 case neg =>
  have a : ¬ x.f3 = 0 := fun z => p5 (.inl z)
  have b : sfind x.f3 sess 0 < 0 := by
   rcases Int.lt_or_le (sfind x.f3 sess 0) 0 with z | z
   ·exact z
   ·exact absurd (.inr (by omega)) p5
  exact .inr ⟨fun z => p5 z.2.2.2.2.1, Ev.step (fun k => by rw [spec_StateOk.l0]) (by rw [hx]; exact ev_if_pos (by omega) (ev_if_pos (by omega) (go2 (ev_if_neg p3 (ev_if_neg p4 (ev_if_neg a (Ev.bind e3 (ev_if_pos b (Ev.now _)))))))))⟩
 have hold : ∀ {g : Nat → Option Bool} {b : Bool}, Ev g b → Ev (fun k => if x.f3 = 0 then g k else ((spec_l2sess.f k idx rows tombs lost sess lasts x.f3).bind fun t132 => if t132 < 0 then some false else g k)) b := fun h => ev_ite (fun _ => h) (fun c => Ev.bind e3 (ev_if_neg (by rcases p5 with z | z; exact absurd z c; exact z) h))
 by_cases p6 : 0 < i → bytes_Compare.cmp y.f0 x.f0 < 0
 ·refine .inl ⟨⟨p1, p2, by omega, by omega, p5, p6⟩, fun b e => Ev.step (fun k => by rw [spec_StateOk.l0]) ?_⟩
  have e := go b e
  rw [hx]
  exact ev_if_pos (by omega) (ev_if_pos (by omega) (go2 (ev_if_neg p3 (ev_if_neg p4 (hold (tail b (fun _ => e) (fun _ => e) (fun c z => absurd (p6 (by omega)) z)))))))
 ·refine .inr ⟨fun z => p6 z.2.2.2.2.2, Ev.step (fun k => by rw [spec_StateOk.l0]) ?_⟩
  rw [hx]
  refine ev_if_pos (by omega) (ev_if_pos (by omega) (go2 (ev_if_neg p3 (ev_if_neg p4 (hold (tail false (fun z => absurd (fun _ => z) p6) (fun z => absurd (fun y => by omega) p6) (fun _ _ => rfl)))))))
theorem specStateOk_ev (idx : Int) (rows : List S92) (tombs : List S94) (lost : Int) (sess : List S109) (lasts : List S75) (hr : rows.length ≤ 1048576) (ht : tombs.length ≤ 1048576) (hs : sess.length ≤ 1048576) (hn : lasts.length ≤ 1048576) (hbr : ByRows rows) (hbt : ByTombs tombs) (hk : ∀ t ∈ tombs, t.f0.length ≤ 1048576) (hkr : ∀ r ∈ rows, r.f0.length ≤ 1048576) :
  ∃ b, Ev (fun k => spec_StateOk.f k idx rows tombs lost sess lasts) b ∧ (b = true ↔ VState idx rows tombs lost sess lasts) := by
 obtain ⟨b, e, h⟩ := specRows_ev idx rows tombs lost sess lasts hr ht hs hn hbr hbt hk hkr
 have no : Ev (fun k => spec_StateOk.j0 k true idx rows tombs lost sess lasts) false := (by refine Ev.step (fun k => by rw [spec_StateOk.j0]) ?_; exact ev_if_pos rfl (Ev.now _))
 unfold spec_StateOk.f spec_l2index.f VState headV
 by_cases c1 : idx ≥ 0
 case neg => exact ⟨false, ev_bind_eq (by rw [if_neg c1]) (ev_if_neg (by simp) no), ⟨fun z => absurd z (by simp), fun z => absurd z.1.1.1 c1⟩⟩
 by_cases c2 : idx ≤ 1000000
 case neg => exact ⟨false, ev_bind_eq (by rw [if_pos c1, decide_eq_false c2]) (ev_if_neg (by simp) no), ⟨fun z => absurd z (by simp), fun z => absurd z.1.1.2 c2⟩⟩
 have e0 : (if idx ≥ 0 then some (decide (idx ≤ 1000000)) else some false) = some true := by rw [if_pos c1, decide_eq_true c2]
 by_cases q : (0 ≤ lost ∧ lost ≤ idx) ∧ rows.length ≤ 20 ∧ tombs.length ≤ 10 ∧ sess.length ≤ 8 ∧ lasts.length ≤ 4
 ·obtain ⟨⟨q1, q2⟩, q3, q4, q5, q6⟩ := q
  refine ⟨b, ev_bind_eq e0 (ev_if_pos rfl (ev_if_neg (by omega) (ev_if_neg (by omega) (ev_if_neg (by omega) (ev_if_neg (by omega) (ev_if_neg (by omega) ?_)))))), h.trans ⟨fun z => ⟨⟨⟨c1, c2⟩, ⟨q1, q2⟩, q3, q4, q5, q6⟩, z⟩, fun z => z.2⟩⟩
  rw [decide_eq_false (by omega)]
  exact (by refine Ev.step (fun k => by rw [spec_StateOk.j0]) ?_; exact ev_if_neg (by simp) e)
 ·refine ⟨false, ev_bind_eq e0 (ev_if_pos rfl (ev_ite (fun _ => no) (fun d1 => ev_ite (fun _ => no) (fun d2 => ev_ite (fun _ => no) (fun d3 => ev_ite (fun _ => no) (fun d4 => ev_ite (fun _ => no) (fun d5 => ?_))))))), ⟨fun z => absurd z (by simp), fun z => absurd z.1.2 q⟩⟩
  rw [decide_eq_true (show (lasts.length : Int) > 4 by
   rcases Nat.lt_or_ge 4 lasts.length with y | y
   ·omega
   ·exact absurd ⟨⟨by omega, by omega⟩, by omega, by omega, by omega, y⟩ q)]
  exact no
-- statelaw.lean: a state's copy, its comparison with itself, how much it holds
def cvRow (x : S174) : S92 := ⟨x.f0, x.f1, x.f2, x.f3⟩
def cvTomb (x : S176) : S94 := ⟨x.f0, x.f1⟩
def cvSess (x : S180) : S109 := ⟨x.f0, x.f1⟩
def cvLast (x : S184) : S75 := ⟨x.f0, x.f1, ⟨x.f2.f0, x.f2.f1⟩⟩
theorem rd_T174_get (l : List S174) (i : Nat) (h : i < l.length) : rd_T174 l (i : Int) = l[i] := by
 unfold rd_T174
 rw [Int.toNat_natCast]
 simp [List.getD, h]
theorem rd_T176_get (l : List S176) (i : Nat) (h : i < l.length) : rd_T176 l (i : Int) = l[i] := by
 unfold rd_T176
 rw [Int.toNat_natCast]
 simp [List.getD, h]
theorem rd_T180_get (l : List S180) (i : Nat) (h : i < l.length) : rd_T180 l (i : Int) = l[i] := by
 unfold rd_T180
 rw [Int.toNat_natCast]
 simp [List.getD, h]
theorem rd_T184_get (l : List S184) (i : Nat) (h : i < l.length) : rd_T184 l (i : Int) = l[i] := by
 unfold rd_T184
 rw [Int.toNat_natCast]
 simp [List.getD, h]
/-- All of a state's rows are short. -/
structure FitS (x : S27) : Prop where
 h1 : x.f1.length ≤ 1048576
 h2 : x.f2.length ≤ 1048576
 h4 : x.f4.length ≤ 1048576
 h5 : x.f5.length ≤ 1048576
 k1 : ∀ r ∈ x.f1, r.f0.length ≤ 1048576 ∧ r.f1.length ≤ 1048576
 k2 : ∀ r ∈ x.f2, r.f0.length ≤ 1048576
 w1 : (x.f1.map (fun r => r.f0.length + r.f1.length)).sum ≤ 1048576
 w2 : (x.f2.map (fun r => r.f0.length)).sum ≤ 1048576
theorem toRow_ev (x : S174) (h : x.f0.length ≤ 1048576 ∧ x.f1.length ≤ 1048576) : Ev (fun k => laws_toRow.f k x.f0 x.f1 x.f2 x.f3) (x.f0, x.f1, x.f2, x.f3) := by
 unfold laws_toRow.f
 exact Ev.bind (toByteS_ev _ (by omega)) (Ev.bind (toByteS_ev _ (by omega)) (Ev.now _))
theorem toTomb_ev (x : S176) (h : x.f0.length ≤ 1048576) : Ev (fun k => laws_toTomb.f k x.f0 x.f1) (x.f0, x.f1) := by
 unfold laws_toTomb.f
 exact Ev.bind (toByteS_ev _ (by omega)) (Ev.now _)
theorem toRowS_ev (l : List S174) (hn : l.length ≤ 1048576) (hk : ∀ r ∈ l, r.f0.length ≤ 1048576 ∧ r.f1.length ≤ 1048576) : Ev (fun k => laws_toRowS.f k l) (l.map cvRow) := by
 unfold laws_toRowS.f
 refine ev_if_pos (by omega) (ev_if_pos (by omega) ?_)
 rw [Int.toNat_natCast]
 refine copy_loop l cvRow z92 (fun k x i => laws_toRowS.l0 k l x i) (fun x => ?_) (fun i hi x hx r e => ?_)
 ·refine Ev.step (fun k => by rw [laws_toRowS.l0]) ?_
  exact ev_if_neg (by omega) (Ev.now _)
 ·refine Ev.step (fun k => by rw [laws_toRowS.l0]) ?_
  rw [rd_T174_get l i hi, w64 (x := (i : Int) + 1) (by omega) (by omega)]
  rw [Int.natCast_add, Int.natCast_one] at e
  exact ev_if_pos (by omega) (ev_if_pos (by omega) (Ev.bind (toRow_ev l[i] (hk _ (List.getElem_mem hi))) (ev_if_pos (by omega) e)))
theorem toTombS_ev (l : List S176) (hn : l.length ≤ 1048576) (hk : ∀ r ∈ l, r.f0.length ≤ 1048576) : Ev (fun k => laws_toTombS.f k l) (l.map cvTomb) := by
 unfold laws_toTombS.f
 refine ev_if_pos (by omega) (ev_if_pos (by omega) ?_)
 rw [Int.toNat_natCast]
 refine copy_loop l cvTomb z94 (fun k x i => laws_toTombS.l0 k l x i) (fun x => ?_) (fun i hi x hx r e => ?_)
 ·refine Ev.step (fun k => by rw [laws_toTombS.l0]) ?_
  exact ev_if_neg (by omega) (Ev.now _)
 ·refine Ev.step (fun k => by rw [laws_toTombS.l0]) ?_
  rw [rd_T176_get l i hi, w64 (x := (i : Int) + 1) (by omega) (by omega)]
  rw [Int.natCast_add, Int.natCast_one] at e
  exact ev_if_pos (by omega) (ev_if_pos (by omega) (Ev.bind (toTomb_ev l[i] (hk _ (List.getElem_mem hi))) (ev_if_pos (by omega) e)))
theorem toSessionS_ev (l : List S180) (hn : l.length ≤ 1048576) : Ev (fun k => laws_toSessionS.f k l) (l.map cvSess) := by
 unfold laws_toSessionS.f
 refine ev_if_pos (by omega) (ev_if_pos (by omega) ?_)
 rw [Int.toNat_natCast]
 refine copy_loop l cvSess z109 (fun k x i => laws_toSessionS.l0 k l x i) (fun x => ?_) (fun i hi x hx r e => ?_)
 ·refine Ev.step (fun k => by rw [laws_toSessionS.l0]) ?_
  exact ev_if_neg (by omega) (Ev.now _)
 ·refine Ev.step (fun k => by rw [laws_toSessionS.l0]) ?_
  rw [rd_T180_get l i hi, w64 (x := (i : Int) + 1) (by omega) (by omega)]
  rw [Int.natCast_add, Int.natCast_one] at e
  exact ev_if_pos (by omega) (ev_if_pos (by omega) (ev_bind_eq rfl (ev_if_pos (by omega) e)))
theorem toLastS_ev (l : List S184) (hn : l.length ≤ 1048576) : Ev (fun k => laws_toLastS.f k l) (l.map cvLast) := by
 unfold laws_toLastS.f
 refine ev_if_pos (by omega) (ev_if_pos (by omega) ?_)
 rw [Int.toNat_natCast]
 refine copy_loop l cvLast z75 (fun k x i => laws_toLastS.l0 k l x i) (fun x => ?_) (fun i hi x hx r e => ?_)
 ·refine Ev.step (fun k => by rw [laws_toLastS.l0]) ?_
  exact ev_if_neg (by omega) (Ev.now _)
 ·refine Ev.step (fun k => by rw [laws_toLastS.l0]) ?_
  rw [rd_T184_get l i hi, w64 (x := (i : Int) + 1) (by omega) (by omega)]
  rw [Int.natCast_add, Int.natCast_one] at e
  exact ev_if_pos (by omega) (ev_if_pos (by omega) (ev_bind_eq rfl (ev_if_pos (by omega) e)))
theorem toState_ev (x : S27) (h : FitS x) : Ev (fun k => laws_toState.f k x.f0 x.f1 x.f2 x.f3 x.f4 x.f5) (x.f0, x.f1.map cvRow, x.f2.map cvTomb, x.f3, x.f4.map cvSess, x.f5.map cvLast) := by
 unfold laws_toState.f
 exact Ev.bind (toRowS_ev _ h.h1 h.k1) (Ev.bind (toTombS_ev _ h.h2 h.k2) (Ev.bind (toSessionS_ev _ h.h4) (Ev.bind (toLastS_ev _ h.h5) (Ev.now _))))
theorem eqRow_self (x : S92) (h : x.f0.length ≤ 1048576 ∧ x.f1.length ≤ 1048576) : Ev (fun k => laws_eqRow.f k x.f0 x.f1 x.f2 x.f3 x.f0 x.f1 x.f2 x.f3) true := by
 unfold laws_eqRow.f
 exact Ev.bind (eqByteS_self _ (by omega)) (ev_if_pos rfl (Ev.bind (eqByteS_self _ (by omega)) (ev_if_pos rfl (ev_if_pos rfl (ev_if_pos rfl (Ev.now _))))))
theorem eqTomb_self (x : S94) (h : x.f0.length ≤ 1048576) : Ev (fun k => laws_eqTomb.f k x.f0 x.f1 x.f0 x.f1) true := by
 unfold laws_eqTomb.f
 exact Ev.bind (eqByteS_self _ (by omega)) (ev_if_pos rfl (ev_if_pos rfl (Ev.now _)))
theorem eqSession_self (a : Int) (b : Bool) : laws_eqSession.f a b a b = some true := by
 unfold laws_eqSession.f
 rw [if_pos rfl, if_neg (by simp)]
theorem eqLast_self (a b c d : Int) : laws_eqLast.f a b c d a b c d = some true := by
 unfold laws_eqLast.f laws_eqReply.f
 rw [if_pos rfl, if_pos rfl, if_pos rfl, if_pos rfl]
 rfl
theorem eqRowS_self (l : List S92) (hn : l.length ≤ 1048576) (hk : ∀ r ∈ l, r.f0.length ≤ 1048576 ∧ r.f1.length ≤ 1048576) : Ev (fun k => laws_eqRowS.f k l l) true := by
 unfold laws_eqRowS.f
 refine ev_if_pos rfl ?_
 refine same_loop (n := l.length) (fun k i => laws_eqRowS.l0 k l l i) ?_ (fun i hi e => ?_)
 ·refine Ev.step (fun k => by rw [laws_eqRowS.l0]) ?_
  exact ev_if_neg (by omega) (Ev.now _)
 ·refine Ev.step (fun k => by rw [laws_eqRowS.l0]) ?_
  rw [rd_T92_get l i hi, w64 (x := (i : Int) + 1) (by omega) (by omega)]
  rw [Int.natCast_add, Int.natCast_one] at e
  exact ev_if_pos (by omega) (ev_if_pos (by omega) (ev_if_pos (by omega) (Ev.bind (eqRow_self l[i] (hk _ (List.getElem_mem hi))) (ev_if_pos rfl e))))
theorem eqTombS_self (l : List S94) (hn : l.length ≤ 1048576) (hk : ∀ r ∈ l, r.f0.length ≤ 1048576) : Ev (fun k => laws_eqTombS.f k l l) true := by
 unfold laws_eqTombS.f
 refine ev_if_pos rfl ?_
 refine same_loop (n := l.length) (fun k i => laws_eqTombS.l0 k l l i) ?_ (fun i hi e => ?_)
 ·refine Ev.step (fun k => by rw [laws_eqTombS.l0]) ?_
  exact ev_if_neg (by omega) (Ev.now _)
 ·refine Ev.step (fun k => by rw [laws_eqTombS.l0]) ?_
  rw [rd_T94_get l i hi, w64 (x := (i : Int) + 1) (by omega) (by omega)]
  rw [Int.natCast_add, Int.natCast_one] at e
  exact ev_if_pos (by omega) (ev_if_pos (by omega) (ev_if_pos (by omega) (Ev.bind (eqTomb_self l[i] (hk _ (List.getElem_mem hi))) (ev_if_pos rfl e))))
theorem eqSessionS_self (l : List S109) (hn : l.length ≤ 1048576) : Ev (fun k => laws_eqSessionS.f k l l) true := by
 unfold laws_eqSessionS.f
 refine ev_if_pos rfl ?_
 refine same_loop (n := l.length) (fun k i => laws_eqSessionS.l0 k l l i) ?_ (fun i hi e => ?_)
 ·refine Ev.step (fun k => by rw [laws_eqSessionS.l0]) ?_
  exact ev_if_neg (by omega) (Ev.now _)
 ·refine Ev.step (fun k => by rw [laws_eqSessionS.l0]) ?_
  rw [rd_T109_get l i hi, w64 (x := (i : Int) + 1) (by omega) (by omega)]
  rw [Int.natCast_add, Int.natCast_one] at e
  exact ev_if_pos (by omega) (ev_if_pos (by omega) (ev_if_pos (by omega) (ev_bind_eq (eqSession_self _ _) (ev_if_pos rfl e))))
theorem eqLastS_self (l : List S75) (hn : l.length ≤ 1048576) : Ev (fun k => laws_eqLastS.f k l l) true := by
 unfold laws_eqLastS.f
 refine ev_if_pos rfl ?_
 refine same_loop (n := l.length) (fun k i => laws_eqLastS.l0 k l l i) ?_ (fun i hi e => ?_)
 ·refine Ev.step (fun k => by rw [laws_eqLastS.l0]) ?_
  exact ev_if_neg (by omega) (Ev.now _)
 ·refine Ev.step (fun k => by rw [laws_eqLastS.l0]) ?_
  rw [rd_T75_get l i hi, w64 (x := (i : Int) + 1) (by omega) (by omega)]
  rw [Int.natCast_add, Int.natCast_one] at e
  exact ev_if_pos (by omega) (ev_if_pos (by omega) (ev_if_pos (by omega) (ev_bind_eq (eqLast_self _ _ _ _) (ev_if_pos rfl e))))
theorem cvRows_short {l : List S174} (h : ∀ r ∈ l, r.f0.length ≤ 1048576 ∧ r.f1.length ≤ 1048576) : ∀ r ∈ l.map cvRow, r.f0.length ≤ 1048576 ∧ r.f1.length ≤ 1048576 := fun r hr => by
 obtain ⟨x, hx, rfl⟩ := List.mem_map.1 hr
 exact h x hx
theorem cvTombs_short {l : List S176} (h : ∀ r ∈ l, r.f0.length ≤ 1048576) : ∀ r ∈ l.map cvTomb, r.f0.length ≤ 1048576 := fun r hr => by
 obtain ⟨x, hx, rfl⟩ := List.mem_map.1 hr
 exact h x hx
theorem eqState_self (x : S27) (h : FitS x) : Ev (fun k => laws_eqState.f k x.f0 (x.f1.map cvRow) (x.f2.map cvTomb) x.f3 (x.f4.map cvSess) (x.f5.map cvLast) x.f0 (x.f1.map cvRow) (x.f2.map cvTomb) x.f3 (x.f4.map cvSess) (x.f5.map cvLast)) true := by
 unfold laws_eqState.f
 refine ev_if_pos rfl (Ev.bind (eqRowS_self _ (by rw [List.length_map]; exact h.h1) (cvRows_short h.k1)) (ev_if_pos rfl (Ev.bind (eqTombS_self _ (by rw [List.length_map]; exact h.h2) (cvTombs_short h.k2)) (ev_if_pos rfl (ev_if_pos rfl ?_)))))
 exact Ev.bind (eqSessionS_self _ (by rw [List.length_map]; exact h.h4)) (ev_if_pos rfl (Ev.bind (eqLastS_self _ (by rw [List.length_map]; exact h.h5)) (ev_if_pos rfl (Ev.now _))))
theorem szRow_eq (x : S174) (left : Int) (h0 : 0 ≤ left) (h1 : left ≤ 1048576) (ha : x.f0.length ≤ maxLen) (hb : x.f1.length ≤ maxLen) : ∃ r, laws_szRow.f x.f0 x.f1 x.f2 x.f3 left = some r ∧ (0 ≤ r → r + ((x.f0.length + x.f1.length : Nat) : Int) = left) := by
 unfold laws_szRow.f
 obtain ⟨q, e, hq⟩ := szByteS_eq2 x.f0 left h0 h1 ha
 rw [e, Option.bind_some]
 by_cases c : q < 0
 ·rw [if_pos c]
  exact ⟨-1, rfl, fun h => absurd h (by decide)⟩
 ·have := hq (by omega)
  obtain ⟨p, e2, hp⟩ := szByteS_eq2 x.f1 q (by omega) (by omega) hb
  rw [if_neg c, e2, Option.bind_some]
  by_cases c2 : p < 0
  ·rw [if_pos c2]
   exact ⟨-1, rfl, fun h => absurd h (by decide)⟩
  ·rw [if_neg c2]
   exact ⟨p, rfl, fun h => by have := hp h; omega⟩
theorem szTomb_eq (x : S176) (left : Int) (h0 : 0 ≤ left) (h1 : left ≤ 1048576) (ha : x.f0.length ≤ maxLen) : ∃ r, laws_szTomb.f x.f0 x.f1 left = some r ∧ (0 ≤ r → r + (x.f0.length : Int) = left) := by
 unfold laws_szTomb.f
 obtain ⟨q, e, hq⟩ := szByteS_eq2 x.f0 left h0 h1 ha
 rw [e, Option.bind_some]
 by_cases c : q < 0
 ·rw [if_pos c]
  exact ⟨-1, rfl, fun h => absurd h (by decide)⟩
 ·rw [if_neg c]
  exact ⟨q, rfl, hq⟩
theorem szRowS_ev (l : List S174) (hl : l.length ≤ maxLen) (hk : ∀ r ∈ l, r.f0.length ≤ maxLen ∧ r.f1.length ≤ maxLen) (left : Int) (h0 : 0 ≤ left) (h1 : left ≤ 1048576) : ∃ r, Ev (fun k => laws_szRowS.f k l left) r ∧ (0 ≤ r → r + (l.length : Int) + (((l.map (fun r => r.f0.length + r.f1.length)).sum : Nat) : Int) = left ∧ ∀ r ∈ l, r.f0.length ≤ 1048576 ∧ r.f1.length ≤ 1048576) := by
 unfold laws_szRowS.f
 have hl' := hl
 unfold maxLen at hl'
 rw [w64 (by omega) (by omega)]
 by_cases c : left - (l.length : Int) < 0
 ·exact ⟨-1, ev_if_pos c (Ev.now _), fun h => absurd h (by decide)⟩
 obtain ⟨r, e, hr⟩ := size_loop l (fun r => r.f0.length ≤ 1048576 ∧ r.f1.length ≤ 1048576) (fun r => r.f0.length + r.f1.length) (fun k q i => laws_szRowS.l0 k l q i) (fun q => by
   refine Ev.step (fun k => by rw [laws_szRowS.l0]) ?_
   exact ev_if_neg (by omega) (Ev.now _)) (fun i hi q q0 q1 => by
  obtain ⟨p, e, hp⟩ := szRow_eq l[i] q q0 q1 (hk _ (List.getElem_mem hi)).1 (hk _ (List.getElem_mem hi)).2
  by_cases c2 : p < 0
  ·refine .inr ?_
   refine Ev.step (fun k => by rw [laws_szRowS.l0]) ?_
   rw [rd_T174_get l i hi]
   exact ev_if_pos (by omega) (ev_if_pos (by omega) (ev_bind_eq e (ev_if_pos c2 (Ev.now _))))
  ·have hq := hp (by omega)
   refine .inl ⟨p, by omega, hq, ⟨by omega, by omega⟩, fun r er => ?_⟩
   refine Ev.step (fun k => by rw [laws_szRowS.l0]) ?_
   rw [rd_T174_get l i hi, w64 (x := (i : Int) + 1) (by omega) (by omega)]
   rw [Int.natCast_add, Int.natCast_one] at er
   exact ev_if_pos (by omega) (ev_if_pos (by omega) (ev_bind_eq e (ev_if_neg c2 er)))) (left - (l.length : Int)) (by omega) (by omega)
 refine ⟨r, ev_if_neg c e, fun h => ?_⟩
 obtain ⟨a, b⟩ := hr h
 exact ⟨by omega, b⟩
theorem szTombS_ev (l : List S176) (hl : l.length ≤ maxLen) (hk : ∀ r ∈ l, r.f0.length ≤ maxLen) (left : Int) (h0 : 0 ≤ left) (h1 : left ≤ 1048576) : ∃ r, Ev (fun k => laws_szTombS.f k l left) r ∧ (0 ≤ r → r + (l.length : Int) + (((l.map (fun r => r.f0.length)).sum : Nat) : Int) = left ∧ ∀ r ∈ l, r.f0.length ≤ 1048576) := by
 unfold laws_szTombS.f
 have hl' := hl
 unfold maxLen at hl'
 rw [w64 (by omega) (by omega)]
 by_cases c : left - (l.length : Int) < 0
 ·exact ⟨-1, ev_if_pos c (Ev.now _), fun h => absurd h (by decide)⟩
 obtain ⟨r, e, hr⟩ := size_loop l (fun r => r.f0.length ≤ 1048576) (fun r => r.f0.length) (fun k q i => laws_szTombS.l0 k l q i) (fun q => by
   refine Ev.step (fun k => by rw [laws_szTombS.l0]) ?_
   exact ev_if_neg (by omega) (Ev.now _)) (fun i hi q q0 q1 => by
  obtain ⟨p, e, hp⟩ := szTomb_eq l[i] q q0 q1 (hk _ (List.getElem_mem hi))
  by_cases c2 : p < 0
  ·refine .inr ?_
   refine Ev.step (fun k => by rw [laws_szTombS.l0]) ?_
   rw [rd_T176_get l i hi]
   exact ev_if_pos (by omega) (ev_if_pos (by omega) (ev_bind_eq e (ev_if_pos c2 (Ev.now _))))
  ·have hq := hp (by omega)
   refine .inl ⟨p, by omega, hq, by omega, fun r er => ?_⟩
   refine Ev.step (fun k => by rw [laws_szTombS.l0]) ?_
   rw [rd_T176_get l i hi, w64 (x := (i : Int) + 1) (by omega) (by omega)]
   rw [Int.natCast_add, Int.natCast_one] at er
   exact ev_if_pos (by omega) (ev_if_pos (by omega) (ev_bind_eq e (ev_if_neg c2 er)))) (left - (l.length : Int)) (by omega) (by omega)
 refine ⟨r, ev_if_neg c e, fun h => ?_⟩
 obtain ⟨a, b⟩ := hr h
 exact ⟨by omega, b⟩
theorem szState_ev (x : S27) (h : okS27 x) : ∃ r, Ev (fun k => laws_szState.f k x.f0 x.f1 x.f2 x.f3 x.f4 x.f5 1048576) r ∧ (0 ≤ r → FitS x) := by
 obtain ⟨_, ⟨a1, b1⟩, ⟨a2, b2⟩, _, ⟨a4, _⟩, ⟨a5, _⟩⟩ := h
 unfold laws_szState.f laws_szSessionS.f laws_szLastS.f
 unfold maxLen at a4 a5
 obtain ⟨q1, e1, h1⟩ := szRowS_ev x.f1 a1 (fun r hr => ⟨(b1 r hr).1.1, (b1 r hr).2.1.1⟩) 1048576 (by decide) (by decide)
 by_cases c1 : q1 < 0
 ·exact ⟨-1, Ev.bind e1 (ev_if_pos c1 (Ev.now _)), fun h => absurd h (by decide)⟩
 obtain ⟨g1, k1⟩ := h1 (by omega)
 obtain ⟨q2, e2, h2⟩ := szTombS_ev x.f2 a2 (fun r hr => (b2 r hr).1.1) q1 (by omega) (by omega)
 by_cases c2 : q2 < 0
 ·exact ⟨-1, Ev.bind e1 (ev_if_neg c1 (Ev.bind e2 (ev_if_pos c2 (Ev.now _)))), fun h => absurd h (by decide)⟩
 obtain ⟨g2, k2⟩ := h2 (by omega)
 by_cases c4 : q2 - (x.f4.length : Int) < 0
 ·exact ⟨-1, Ev.bind e1 (ev_if_neg c1 (Ev.bind e2 (ev_if_neg c2 (ev_bind_eq (by rw [w64 (by omega) (by omega), if_pos c4]) (ev_if_pos (by decide) (Ev.now _)))))), fun h => absurd h (by decide)⟩
 by_cases c5 : q2 - (x.f4.length : Int) - (x.f5.length : Int) < 0
 ·exact ⟨-1, Ev.bind e1 (ev_if_neg c1 (Ev.bind e2 (ev_if_neg c2 (ev_bind_eq (by rw [w64 (by omega) (by omega), if_neg c4]) (ev_if_neg c4 (ev_bind_eq (by rw [w64 (by omega) (by omega), if_pos c5]) (ev_if_pos (by decide) (Ev.now _)))))))), fun h => absurd h (by decide)⟩
 refine ⟨_, Ev.bind e1 (ev_if_neg c1 (Ev.bind e2 (ev_if_neg c2 (ev_bind_eq (by rw [w64 (by omega) (by omega), if_neg c4]) (ev_if_neg c4 (ev_bind_eq (by rw [w64 (by omega) (by omega), if_neg c5]) (ev_if_neg c5 (Ev.now _)))))))), fun _ => ?_⟩
 exact ⟨by omega, by omega, by omega, by omega, k1, k2, by omega, by omega⟩
theorem byRows_cv {l : List S174} (h : ∀ r ∈ l, okS174 r) : ByRows (l.map cvRow) := fun r hr => by
 obtain ⟨x, hx, rfl⟩ := List.mem_map.1 hr
 exact ⟨(h x hx).1.2, (h x hx).2.1.2⟩
theorem byTombs_cv {l : List S176} (h : ∀ r ∈ l, okS176 r) : ByTombs (l.map cvTomb) := fun r hr => by
 obtain ⟨x, hx, rfl⟩ := List.mem_map.1 hr
 exact (h x hx).1.2
/-- Both programs find the same states valid. -/
theorem states_same (x : S27) (ok : okS27 x) (h : FitS x) : ∃ b, Ev (fun k => spec_StateOk.f k x.f0 (x.f1.map cvRow) (x.f2.map cvTomb) x.f3 (x.f4.map cvSess) (x.f5.map cvLast)) b ∧ Ev (fun k => impl_StateOk.f k x.f0 (x.f1.map cvRow) (x.f2.map cvTomb) x.f3 (x.f4.map cvSess) (x.f5.map cvLast)) b ∧ (b = true ↔ VState x.f0 (x.f1.map cvRow) (x.f2.map cvTomb) x.f3 (x.f4.map cvSess) (x.f5.map cvLast)) := by
 obtain ⟨_, ⟨_, b1⟩, ⟨_, b2⟩, _⟩ := ok
 have r1 : (x.f1.map cvRow).length ≤ 1048576 := by rw [List.length_map]; exact h.h1
 have r2 : (x.f2.map cvTomb).length ≤ 1048576 := by rw [List.length_map]; exact h.h2
 have r4 : (x.f4.map cvSess).length ≤ 1048576 := by rw [List.length_map]; exact h.h4
 have r5 : (x.f5.map cvLast).length ≤ 1048576 := by rw [List.length_map]; exact h.h5
 obtain ⟨b, e1, g1⟩ := specStateOk_ev x.f0 (x.f1.map cvRow) (x.f2.map cvTomb) x.f3 (x.f4.map cvSess) (x.f5.map cvLast) r1 r2 r4 r5 (byRows_cv b1) (byTombs_cv b2) (cvTombs_short h.k2) (fun r hr => (cvRows_short h.k1 r hr).1)
 obtain ⟨v, e2, g2⟩ := implStateOk_ev x.f0 (x.f1.map cvRow) (x.f2.map cvTomb) x.f3 (x.f4.map cvSess) (x.f5.map cvLast) r1 r2 r4 r5 (byRows_cv b1) (byTombs_cv b2) (cvTombs_short h.k2) (fun r hr => (cvRows_short h.k1 r hr).1)
 have same : v = b := by
  have : v = true ↔ b = true := g2.trans g1.symm
  cases v <;> cases b <;> simp_all
 subst same
 exact ⟨v, e1, e2, g1⟩
/-- Marks written into a state's copy. -/
theorem sum_two (l : List S174) : ((l.map cvRow).map laws_markState.SRow_wt).sum = (l.map (fun r => r.f0.length + r.f1.length)).sum + 2 * l.length := by
 induction l with
 | nil => rfl
 | cons x xs ih =>
  simp only [List.map_cons, List.sum_cons, List.length_cons, ih]
  unfold laws_markState.SRow_wt cvRow
  simp only []
  omega
theorem sum_one (l : List S176) : ((l.map cvTomb).map laws_markState.STomb_wt).sum = (l.map (fun r => r.f0.length)).sum + l.length := by
 induction l with
 | nil => rfl
 | cons x xs ih =>
  simp only [List.map_cons, List.sum_cons, List.length_cons, ih]
  unfold laws_markState.STomb_wt cvTomb
  simp only []
  omega
theorem sum_ses (l : List S109) : (l.map laws_markState.SSes_wt).sum = 2 * l.length := by
 induction l with
 | nil => rfl
 | cons x xs ih =>
  simp only [List.map_cons, List.sum_cons, List.length_cons, ih]
  unfold laws_markState.SSes_wt
  omega
theorem sum_last (l : List S75) : (l.map laws_markState.SLast_wt).sum = 4 * l.length := by
 induction l with
 | nil => rfl
 | cons x xs ih =>
  simp only [List.map_cons, List.sum_cons, List.length_cons, ih]
  unfold laws_markState.SLast_wt
  omega
theorem markState_eq (x : S27) (h : FitS x) : ∃ m : Int, laws_markState.f x.f0 (x.f1.map cvRow) (x.f2.map cvTomb) x.f3 (x.f4.map cvSess) (x.f5.map cvLast) 1 = some m ∧ 0 ≤ m ∧ m ≤ 1000000000 := by
 unfold laws_markState.f
 rw [sum_two, sum_one, sum_ses, sum_last, List.length_map, List.length_map]
 have := h.h1; have := h.h2; have := h.h4; have := h.h5; have := h.w1; have := h.w2
 rw [if_pos (by omega)]
 exact ⟨_, rfl, by omega, by omega⟩
end Go.Proofs.Ytdgegnakiljfjaa.Pure
