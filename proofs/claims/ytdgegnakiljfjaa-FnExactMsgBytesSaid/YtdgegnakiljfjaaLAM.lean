import Derived.Test.YtdgegnakiljfjaaPMx0
import Derived.Test.YtdgegnakiljfjaaPMx1
import Derived.Test.YtdgegnakiljfjaaPMx10
import Derived.Test.YtdgegnakiljfjaaPMx11
import Derived.Test.YtdgegnakiljfjaaPMx12
import Derived.Test.YtdgegnakiljfjaaPMx13
import Derived.Test.YtdgegnakiljfjaaPMx2
import Derived.Test.YtdgegnakiljfjaaPMx3
import Derived.Test.YtdgegnakiljfjaaPMx4
import Derived.Test.YtdgegnakiljfjaaPMx5
import Derived.Test.YtdgegnakiljfjaaPMx6
import Derived.Test.YtdgegnakiljfjaaPMx7
import Derived.Test.YtdgegnakiljfjaaPMx8
import Derived.Test.YtdgegnakiljfjaaPMx9
import Derived.Lib.Bytes
namespace Go.Proofs.Ytdgegnakiljfjaa.Pure
open Go.RowKit Go.Proofs.Ytdgegnakiljfjaa.PM Go.Proofs.YtdgegnakiljfjaaW.PrintWords Go.Proofs.YtdgegnakiljfjaaW.PrintLast Go.Proofs.YtdgegnakiljfjaaW.PrintMore
set_option linter.unusedVariables false
set_option linter.unusedSimpArgs false
theorem w64 {x : Int} (h0 : -9223372036854775808 ≤ x) (h1 : x ≤ 9223372036854775807) : wrap64 x = x := by
  unfold wrap64
  omega
theorem ev_if_pos {α : Type} {c : Prop} [Decidable c] {g f : Nat → Option α} {r : α} (h : c) (k : Ev g r) : Ev (fun n => if c then g n else f n) r := by
  simp only [if_pos h]
  exact k
theorem ev_if_neg {α : Type} {c : Prop} [Decidable c] {g f : Nat → Option α} {r : α} (h : ¬ c) (k : Ev f r) : Ev (fun n => if c then g n else f n) r := by
  simp only [if_neg h]
  exact k
theorem ev_bind_eq {α β : Type} {g : Option α} {f : Nat → α → Option β} {a : α} {r : β} (h : g = some a) (k : Ev (fun n => f n a) r) : Ev (fun n => g.bind (f n)) r := by
  subst h
  exact k
theorem rd_nat (l : List Int) (i : Nat) : rd l (i : Int) = l.getD i 0 := by
  unfold rd
  rw [Int.toNat_natCast]
theorem rd_get (l : List Int) (i : Nat) (h : i < l.length) : rd l (i : Int) = l[i] := by
  rw [rd_nat, List.getD_eq_getElem?_getD, List.getElem?_eq_getElem h]
  rfl
theorem take_set_succ {α : Type} (x l : List α) (i : Nat) (v : α) (hx : i < x.length) (hl : i < l.length) (h : x.take i = l.take i) (hv : v = l[i]) : (x.set i v).take (i + 1) = l.take (i + 1) := by
  rw [List.take_succ_eq_append_getElem (by simpa using hx), List.take_succ_eq_append_getElem hl, List.take_set_of_le (Nat.le_refl i), h, List.getElem_set_self, hv]
theorem eq_of_take {α : Type} {x l : List α} {n : Nat} (hx : x.length = n) (hl : l.length = n) (h : x.take n = l.take n) : x = l := by
  rw [List.take_of_length_le (by omega), List.take_of_length_le (by omega)] at h
  exact h
/-- What the marks are: k, k + 1, .. as bytes. -/
def marks (k : Int) (n : Nat) : List Int := (List.range n).map fun (j : Nat) => (k + (j : Int)) % 256
theorem marks_length (k : Int) (n : Nat) : (marks k n).length = n := by simp [marks]
theorem marks_get (k : Int) (n i : Nat) (h : i < (marks k n).length) : (marks k n)[i] = (k + (i : Int)) % 256 := by simp [marks]
theorem wf_u8 {n : Int} (h : (Lit.int .u8 n).wf = true) : 0 ≤ n ∧ n ≤ 255 := by
  simp [Lit.wf, IntKind.min, IntKind.max, IntKind.signed, IntKind.bits] at h
  omega
theorem wf_i64 {n : Int} (h : (Lit.int .i64 n).wf = true) : -9223372036854775808 ≤ n ∧ n ≤ 9223372036854775807 := by
  simp [Lit.wf, IntKind.min, IntKind.max, IntKind.signed, IntKind.bits] at h
  omega
theorem ev_ite {α : Type} {c : Prop} [Decidable c] {g f : Nat → Option α} {r : α} (h : c → Ev g r) (h' : ¬ c → Ev f r) : Ev (fun n => if c then g n else f n) r := by
  by_cases hc : c
  · exact ev_if_pos hc (h hc)
  · exact ev_if_neg hc (h' hc)
theorem ev_done {α : Type} {a b : α} (h : a = b) : Ev (fun _ => some a) b := h ▸ Ev.now a
theorem ev_of {α : Type} {g : Nat → Option α} {a b : α} (h : Ev g a) (e : a = b) : Ev g b := e ▸ h

-- bytes.lean: the law package's helpers on bytes
theorem toByteS_loop (l : List Int) (hn : l.length ≤ 140737488351232) (d : Nat) : ∀ (x : List Int) (i : Nat), x.length = l.length → i ≤ l.length → l.length - i = d → x.take i = l.take i → Ev (fun k => laws_toByteS.l0 k l x (i : Int)) l := by
  induction d with
  | zero =>
    intro x i hx hi hd ht
    refine Ev.step (fun k => by rw [laws_toByteS.l0]) ?_
    refine ev_if_neg (by omega) ?_
    obtain rfl : i = l.length := by omega
    rw [eq_of_take hx rfl ht]
    exact Ev.now _
  | succ d ih =>
    intro x i hx hi hd ht
    refine Ev.step (fun k => by rw [laws_toByteS.l0]) ?_
    refine ev_if_pos (by omega) (ev_if_pos (by omega) (ev_if_pos (by omega) ?_))
    have h := ih (x.set i (rd l (i : Int))) (i + 1) (by rw [List.length_set]; exact hx) (by omega) (by omega) (take_set_succ x l i _ (by omega) (by omega) ht (rd_get l i (by omega)))
    rw [w64 (by omega) (by omega), Int.toNat_natCast]
    rw [Int.natCast_add, Int.natCast_one] at h
    exact h
theorem toByteS_ev (l : List Int) (hn : l.length ≤ 140737488351232) : Ev (fun k => laws_toByteS.f k l) l := by
  unfold laws_toByteS.f
  refine ev_if_pos (by omega) (ev_if_pos (by omega) ?_)
  exact toByteS_loop l hn l.length _ 0 (by rw [List.length_replicate, Int.toNat_natCast]) (by omega) (by omega) rfl
theorem eqByteS_loop (a b : List Int) (hn : a.length ≤ 140737488351232) (hab : a.length = b.length) (d : Nat) : ∀ (i : Nat), i ≤ a.length → a.length - i = d → a.take i = b.take i → Ev (fun k => laws_eqByteS.l0 k a b (i : Int)) (decide (a = b)) := by
  induction d with
  | zero =>
    intro i hi hd ht
    refine Ev.step (fun k => by rw [laws_eqByteS.l0]) ?_
    refine ev_if_neg (by omega) ?_
    obtain rfl : i = a.length := by omega
    rw [decide_eq_true (eq_of_take rfl hab.symm ht)]
    exact Ev.now _
  | succ d ih =>
    intro i hi hd ht
    refine Ev.step (fun k => by rw [laws_eqByteS.l0]) ?_
    refine ev_if_pos (by omega) (ev_if_pos (by omega) (ev_if_pos (by omega) ?_))
    by_cases e : rd a (i : Int) = rd b (i : Int)
    · refine ev_if_pos e ?_
      have h := ih (i + 1) (by omega) (by omega) (by
        rw [rd_get a i (by omega), rd_get b i (by omega)] at e
        rw [List.take_succ_eq_append_getElem (by omega), List.take_succ_eq_append_getElem (by omega), ht, e])
      rw [w64 (by omega) (by omega)]
      rw [Int.natCast_add, Int.natCast_one] at h
      exact h
    · refine ev_if_neg e ?_
      rw [decide_eq_false (fun h => e (by rw [h]))]
      exact Ev.now _
theorem eqByteS_ev (a b : List Int) (hn : a.length ≤ 140737488351232) : Ev (fun k => laws_eqByteS.f k a b) (decide (a = b)) := by
  by_cases hab : a.length = b.length
  · unfold laws_eqByteS.f
    refine ev_if_pos (by omega) ?_
    exact eqByteS_loop a b hn hab a.length 0 (by omega) (by omega) rfl
  · unfold laws_eqByteS.f
    refine ev_if_neg (by omega) ?_
    rw [decide_eq_false (fun h => hab (by rw [h]))]
    exact Ev.now _
theorem eqByteS_self (a : List Int) (hn : a.length ≤ 140737488351232) : Ev (fun k => laws_eqByteS.f k a a) true := by
  have h := eqByteS_ev a a hn
  rw [decide_eq_true rfl] at h
  exact h

-- bytesequal.lean
theorem bytesEqual_eq (a b : List Int) : bytes_Equal.f a b = some ((strOfNums a).toList == (strOfNums b).toList) := rfl

-- keyok.lean: what a key is
/-- The bytes of keys: letters and '/'. -/
def keyByte (c : Int) : Bool := decide ((97 ≤ c ∧ c ≤ 122) ∨ c = 47)
def keyP (l : List Int) : Bool := decide (1 ≤ l.length ∧ l.length ≤ 20) && l.all keyByte
theorem drop_cons (l : List Int) (i : Nat) (h : i < l.length) : l.drop i = rd l (i : Int) :: l.drop (i + 1) := by
  rw [rd_get l i h]
  exact List.drop_eq_getElem_cons h
theorem specKey_loop (l : List Int) (hn : l.length ≤ 140737488351232) (d : Nat) : ∀ (i : Nat), i ≤ l.length → l.length - i = d → Ev (fun k => spec_l2key.l0 k l (i : Int)) ((l.drop i).all keyByte) := by
  induction d with
  | zero =>
    intro i hi hd
    refine Ev.step (fun k => by rw [spec_l2key.l0]) ?_
    refine ev_if_neg (by omega) ?_
    rw [List.drop_of_length_le (by omega)]
    exact Ev.now _
  | succ d ih =>
    intro i hi hd
    have h := ih (i + 1) (by omega) (by omega)
    rw [Int.natCast_add, Int.natCast_one] at h
    rw [drop_cons l i (by omega), List.all_cons]
    refine Ev.step (fun k => by rw [spec_l2key.l0]) ?_
    rw [w64 (by omega) (by omega)]
    refine ev_if_pos (by omega) (ev_if_pos (by omega) ?_)
    by_cases c1 : rd l (i : Int) < 97
    · refine ev_if_pos c1 ?_
      by_cases c2 : rd l (i : Int) = 47
      · refine ev_if_pos c2 ?_
        rw [show keyByte (rd l (i : Int)) = true from decide_eq_true (.inr c2), Bool.true_and]
        exact h
      · refine ev_if_neg c2 ?_
        rw [show keyByte (rd l (i : Int)) = false from decide_eq_false (by omega), Bool.false_and]
        exact Ev.now _
    · refine ev_if_neg c1 ?_
      by_cases c3 : rd l (i : Int) > 122
      · refine ev_if_pos c3 ?_
        refine ev_if_neg (by omega) ?_
        rw [show keyByte (rd l (i : Int)) = false from decide_eq_false (by omega), Bool.false_and]
        exact Ev.now _
      · refine ev_if_neg c3 ?_
        rw [show keyByte (rd l (i : Int)) = true from decide_eq_true (by omega), Bool.true_and]
        exact h
theorem specKey_ev (l : List Int) (hn : l.length ≤ 140737488351232) : Ev (fun k => spec_l2key.f k l) (keyP l) := by
  unfold spec_l2key.f
  by_cases c : (l.length : Int) < 1
  · refine ev_if_pos c ?_
    refine Ev.step (fun k => by rw [spec_l2key.j0]) ?_
    refine ev_if_pos rfl ?_
    rw [show keyP l = false from by unfold keyP; rw [decide_eq_false (by omega), Bool.false_and]]
    exact Ev.now _
  · refine ev_if_neg c ?_
    refine Ev.step (fun k => by rw [spec_l2key.j0]) ?_
    by_cases c2 : (l.length : Int) > 20
    · refine ev_if_pos (decide_eq_true c2) ?_
      rw [show keyP l = false from by unfold keyP; rw [decide_eq_false (by omega), Bool.false_and]]
      exact Ev.now _
    · refine ev_if_neg (by rw [decide_eq_false c2]; decide) ?_
      rw [show keyP l = l.all keyByte from by unfold keyP; rw [decide_eq_true (by omega), Bool.true_and]]
      exact specKey_loop l hn l.length 0 (by omega) (by omega)
theorem implKey_loop (l : List Int) (hn : l.length ≤ 140737488351232) (d : Nat) : ∀ (i : Nat), i ≤ l.length → l.length - i = d → Ev (fun k => impl_KeyOk.l0 k l l (l.length : Int) (i : Int)) (decide (1 ≤ l.length ∧ l.length ≤ 20) && (l.drop i).all keyByte) := by
  induction d with
  | zero =>
    intro i hi hd
    refine Ev.step (fun k => by rw [impl_KeyOk.l0]) ?_
    refine ev_if_neg (by omega) ?_
    rw [List.drop_of_length_le (by omega), List.all_nil, Bool.and_true]
    unfold impl_within.f
    by_cases c : 1 ≤ (l.length : Int)
    · rw [if_pos c, decide_eq_decide.mpr (show (1 ≤ l.length ∧ l.length ≤ 20) ↔ ((l.length : Int) ≤ 20) by omega)]
      exact Ev.now _
    · rw [if_neg c, decide_eq_false (by omega)]
      exact Ev.now _
  | succ d ih =>
    intro i hi hd
    have h := ih (i + 1) (by omega) (by omega)
    rw [Int.natCast_add, Int.natCast_one] at h
    rw [drop_cons l i (by omega), List.all_cons]
    refine Ev.step (fun k => by rw [impl_KeyOk.l0]) ?_
    rw [w64 (by omega) (by omega)]
    refine ev_if_pos (by omega) (ev_if_pos (by omega) (ev_if_pos (by omega) ?_))
    by_cases c1 : rd l (i : Int) < 97
    · refine ev_if_pos c1 ?_
      by_cases c2 : rd l (i : Int) = 47
      · refine ev_if_pos c2 ?_
        rw [show keyByte (rd l (i : Int)) = true from decide_eq_true (.inr c2), Bool.true_and]
        exact h
      · refine ev_if_neg c2 ?_
        rw [show keyByte (rd l (i : Int)) = false from decide_eq_false (by omega), Bool.false_and, Bool.and_false]
        exact Ev.now _
    · refine ev_if_neg c1 ?_
      by_cases c3 : rd l (i : Int) > 122
      · refine ev_if_pos c3 ?_
        refine ev_if_neg (by omega) ?_
        rw [show keyByte (rd l (i : Int)) = false from decide_eq_false (by omega), Bool.false_and, Bool.and_false]
        exact Ev.now _
      · refine ev_if_neg c3 ?_
        rw [show keyByte (rd l (i : Int)) = true from decide_eq_true (by omega), Bool.true_and]
        exact h
theorem implKey_ev (l : List Int) (hn : l.length ≤ 140737488351232) : Ev (fun k => impl_KeyOk.f k l) (keyP l) :=
  implKey_loop l hn l.length 0 (by omega) (by omega)

-- sizes.lean: how much an argument holds
theorem szByteS_eq (l : List Int) (left : Int) (h0 : 0 ≤ left) (h1 : left ≤ 1048576) (hl : l.length ≤ maxLen) : ∃ r, laws_szByteS.f l left = some r ∧ (0 ≤ r → r ≤ left ∧ (l.length : Int) ≤ left) := by
  unfold laws_szByteS.f
  unfold maxLen at hl
  rw [w64 (by omega) (by omega)]
  by_cases c : left - (l.length : Int) < 0
  · rw [if_pos c]
    exact ⟨-1, rfl, fun h => absurd h (by decide)⟩
  · rw [if_neg c]
    exact ⟨_, rfl, fun _ => ⟨by omega, by omega⟩⟩
theorem szByteS_eq2 (l : List Int) (left : Int) (h0 : 0 ≤ left) (h1 : left ≤ 1048576) (hl : l.length ≤ maxLen) : ∃ r, laws_szByteS.f l left = some r ∧ (0 ≤ r → r + (l.length : Int) = left) := by
  unfold laws_szByteS.f
  unfold maxLen at hl
  rw [w64 (by omega) (by omega)]
  by_cases c : left - (l.length : Int) < 0
  · rw [if_pos c]
    exact ⟨-1, rfl, fun h => absurd h (by decide)⟩
  · rw [if_neg c]
    exact ⟨_, rfl, fun _ => by omega⟩

-- within.lean
theorem within_eq (a b c : Int) : impl_within.f a b c = some (decide (b ≤ a ∧ a ≤ c)) := by
  unfold impl_within.f
  by_cases h : b ≤ a
  · rw [if_pos h]
    by_cases h2 : a ≤ c
    · rw [decide_eq_true h2, decide_eq_true ⟨h, h2⟩]
    · rw [decide_eq_false h2, decide_eq_false (fun z => h2 z.2)]
  · rw [if_neg h, decide_eq_false (fun z => h z.1)]

-- ops.lean: what an operation is
theorem isValue_eq (l : List Int) : impl_isValue.f l = some (decide (l.length ≤ 20)) := by
  unfold impl_isValue.f
  rw [decide_eq_decide.mpr (show ((l.length : Int) ≤ 20) ↔ l.length ≤ 20 by omega)]
theorem l2val_eq (l : List Int) : spec_l2val.f l = some (decide (l.length ≤ 20)) := by
  unfold spec_l2val.f
  rw [decide_eq_decide.mpr (show ((l.length : Int) ≤ 20) ↔ l.length ≤ 20 by omega)]
theorem l2index_eq (n : Int) : spec_l2index.f n = some (decide (0 ≤ n ∧ n ≤ 1000000)) := by
  unfold spec_l2index.f
  by_cases c : n ≥ 0
  · rw [if_pos c, decide_eq_decide.mpr (show (n ≤ 1000000) ↔ (0 ≤ n ∧ n ≤ 1000000) by omega)]
  · rw [if_neg c, decide_eq_false (by omega)]
/-- A valid operation. -/
def opOkP (k : Int) (key val : List Int) (n : Int) : Bool :=
  decide ((k = 0 ∧ key.length = 0 ∧ val.length = 0 ∧ n = 0) ∨ (k = 1 ∧ keyP key = true ∧ val.length ≤ 20 ∧ n = 0) ∨ (k = 2 ∧ keyP key = true ∧ val.length ≤ 20 ∧ 0 ≤ n ∧ n ≤ 1000000) ∨
    (k = 3 ∧ keyP key = true ∧ val.length = 0 ∧ n = 0) ∨ (k = 4 ∧ key.length = 0 ∧ val.length = 0 ∧ 0 ≤ n ∧ n ≤ 1) ∨ (k = 5 ∧ key.length = 0 ∧ val.length = 0 ∧ 1 ≤ n ∧ n ≤ 1000000) ∨
    (k = 6 ∧ keyP key = true ∧ val.length ≤ 20 ∧ 1 ≤ n ∧ n ≤ 1000000) ∨ (k = 7 ∧ keyP key = true ∧ val.length = 0 ∧ 1 ≤ n ∧ n ≤ 1000000))
theorem specOpOk_ev (kd : Int) (key val : List Int) (n : Int) (hk : key.length ≤ 140737488351232) : Ev (fun k => spec_OpOk.f k kd key val n) (opOkP kd key val n) := by
  unfold spec_OpOk.f
  repeat' (first
    | exact ev_done (by grind [opOkP])
    | refine Ev.step (g := fun k => spec_OpOk.j0 k _ _ _ _ _) (fun k => by rw [spec_OpOk.j0]) ?_ | refine Ev.step (g := fun k => spec_OpOk.j1 k _ _ _ _ _) (fun k => by rw [spec_OpOk.j1]) ?_ | refine Ev.step (g := fun k => spec_OpOk.j2 k _ _ _ _ _) (fun k => by rw [spec_OpOk.j2]) ?_ | refine Ev.step (g := fun k => spec_OpOk.j3 k _ _ _ _ _) (fun k => by rw [spec_OpOk.j3]) ?_ | refine Ev.step (g := fun k => spec_OpOk.j4 k _ _ _ _ _) (fun k => by rw [spec_OpOk.j4]) ?_ | refine Ev.step (g := fun k => spec_OpOk.j5 k _ _ _ _ _ _) (fun k => by rw [spec_OpOk.j5]) ?_
    | refine ev_bind_eq (l2val_eq _) ?_
    | refine ev_bind_eq (l2index_eq _) ?_
    | refine Ev.bind (specKey_ev _ hk) ?_
    | refine ev_if_pos (by first | rfl | assumption | omega) ?_
    | refine ev_if_neg (by first | decide | assumption | omega) ?_
    | refine ev_ite (fun hc => ?_) (fun hc => ?_))
theorem implOpOk_ev (kd : Int) (key val : List Int) (n : Int) (hk : key.length ≤ 140737488351232) : Ev (fun k => impl_OpOk.f k kd key val n) (opOkP kd key val n) := by
  unfold impl_OpOk.f
  repeat' (first
    | exact ev_done (by grind [opOkP])
    | refine ev_bind_eq (within_eq _ _ _) ?_
    | refine ev_bind_eq (isValue_eq _) ?_
    | refine Ev.bind (implKey_ev _ hk) ?_
    | refine ev_if_pos (by first | rfl | assumption | omega) ?_
    | refine ev_if_neg (by first | decide | assumption | omega) ?_
    | refine ev_ite (fun hc => ?_) (fun hc => ?_))
theorem toOp_ev (kd : Int) (key val : List Int) (n : Int) (hk : key.length ≤ 140737488351232) (hv : val.length ≤ 140737488351232) : Ev (fun k => laws_toOp.f k kd key val n) (kd, key, val, n) := by
  unfold laws_toOp.f
  exact Ev.bind (toByteS_ev _ hk) (Ev.bind (toByteS_ev _ hv) (Ev.now _))
theorem eqOp_self (kd : Int) (key val : List Int) (n : Int) (hk : key.length ≤ 140737488351232) (hv : val.length ≤ 140737488351232) : Ev (fun k => laws_eqOp.f k kd key val n kd key val n) true := by
  unfold laws_eqOp.f
  exact ev_if_pos rfl (Ev.bind (eqByteS_self _ hk) (ev_if_pos rfl (Ev.bind (eqByteS_self _ hv) (ev_if_pos rfl (ev_if_pos rfl (Ev.now _))))))
theorem szOp_eq (kd : Int) (key val : List Int) (n left : Int) (h0 : 0 ≤ left) (h1 : left ≤ 1048576) (hk : key.length ≤ maxLen) (hv : val.length ≤ maxLen) :
    ∃ r, laws_szOp.f kd key val n left = some r ∧ (0 ≤ r → r ≤ left ∧ (key.length : Int) ≤ left ∧ (val.length : Int) ≤ left) := by
  unfold laws_szOp.f
  obtain ⟨r, e, hr⟩ := szByteS_eq key left h0 h1 hk
  rw [e, Option.bind_some]
  by_cases c : r < 0
  · rw [if_pos c]
    exact ⟨-1, rfl, fun h => absurd h (by decide)⟩
  · rw [if_neg c]
    obtain ⟨q, e2, hq⟩ := szByteS_eq val r (by omega) (by omega) hv
    rw [e2, Option.bind_some]
    by_cases c2 : q < 0
    · rw [if_pos c2]
      exact ⟨-1, rfl, fun h => absurd h (by decide)⟩
    · rw [if_neg c2]
      exact ⟨q, rfl, fun _ => ⟨by omega, by omega, by omega⟩⟩

-- strs.lean: bytes as a string, compared
theorem strOf_list (a : List Int) : (strOfNums a).toList = a.map fun n => UInt8.ofNat n.toNat := Lib.strOfNums_toList a
theorem byte_inj {x y : Int} (h0 : 0 ≤ x) (h1 : x ≤ 255) (h2 : 0 ≤ y) (h3 : y ≤ 255) (h : UInt8.ofNat x.toNat = UInt8.ofNat y.toNat) : x = y := by
  have h4 := congrArg UInt8.toNat h
  simp at h4
  omega
theorem str_inj : ∀ (a b : List Int), (∀ x ∈ a, (Lit.int .u8 x).wf = true) → (∀ x ∈ b, (Lit.int .u8 x).wf = true) → (a.map fun n => UInt8.ofNat n.toNat) = (b.map fun n => UInt8.ofNat n.toNat) → a = b
  | [], [], _, _, _ => rfl
  | [], _ :: _, _, _, h => by simp at h
  | _ :: _, [], _, _, h => by simp at h
  | x :: a, y :: b, ha, hb, h => by
    simp only [List.map_cons, List.cons.injEq] at h
    have hx := wf_u8 (ha x List.mem_cons_self)
    have hy := wf_u8 (hb y List.mem_cons_self)
    rw [byte_inj hx.1 hx.2 hy.1 hy.2 h.1, str_inj a b (fun z hz => ha z (List.mem_cons_of_mem _ hz)) (fun z hz => hb z (List.mem_cons_of_mem _ hz)) h.2]
theorem str_eq (a b : List Int) (ha : ∀ x ∈ a, (Lit.int .u8 x).wf = true) (hb : ∀ x ∈ b, (Lit.int .u8 x).wf = true) : ((strOfNums a).toList == (strOfNums b).toList) = decide (a = b) := by
  rw [strOf_list, strOf_list, Bool.eq_iff_iff]
  simp only [beq_iff_eq, decide_eq_true_eq]
  exact ⟨str_inj a b ha hb, fun h => by rw [h]⟩
theorem str_eq_nil (a : List Int) : ((strOfNums a).toList == (strOfNums []).toList) = decide (a.length = 0) := by
  rw [strOf_list, strOf_list, Bool.eq_iff_iff]
  simp
theorem str_self (a : List Int) : ((strOfNums a).toList == (strOfNums a).toList) = true := by simp

-- cmds.lean: what a command is, and an item of a log
/-- A valid command. -/
def cmdOkP (c r kd : Int) (key val : List Int) (n : Int) : Bool :=
  (decide (c = -1 ∧ r = 0 ∧ kd = 0) && opOkP kd key val n) || (decide (0 ≤ c ∧ c ≤ 3 ∧ 1 ≤ r ∧ r ≤ 1000000) && opOkP kd key val n)
theorem specCmdOk_ev (c r kd : Int) (key val : List Int) (n : Int) (hk : key.length ≤ 140737488351232) : Ev (fun k => spec_CmdOk.f k c r kd key val n) (cmdOkP c r kd key val n) := by
  unfold spec_CmdOk.f
  repeat' (first
    | exact ev_done (by grind [cmdOkP])
    | refine Ev.bind (specOpOk_ev _ _ _ _ hk) ?_
    | refine ev_if_pos (by first | rfl | assumption | omega) ?_
    | refine ev_if_neg (by first | decide | assumption | omega) ?_
    | refine ev_ite (fun hc => ?_) (fun hc => ?_))
theorem cmdSame_eq (c r kd : Int) (key val : List Int) (n : Int) : impl_Cmd_same.f c r kd key val n (-1) 0 0 [] [] 0 = some (decide (c = -1 ∧ r = 0 ∧ kd = 0 ∧ key.length = 0 ∧ val.length = 0 ∧ n = 0)) := by
  unfold impl_Cmd_same.f impl_Op_same.f
  simp only [bytesEqual_eq, str_eq_nil, Option.bind_some]
  repeat' split
  all_goals grind
theorem implCmdOk_ev (c r kd : Int) (key val : List Int) (n : Int) (hk : key.length ≤ 140737488351232) : Ev (fun k => impl_CmdOk.f k c r kd key val n) (cmdOkP c r kd key val n) := by
  unfold impl_CmdOk.f impl_noOp.f
  refine ev_bind_eq rfl ?_
  refine ev_bind_eq (cmdSame_eq _ _ _ _ _ _) ?_
  repeat' (first
    | exact ev_done (by grind [cmdOkP, opOkP])
    | refine ev_bind_eq (within_eq _ _ _) ?_
    | refine Ev.bind (implOpOk_ev _ _ _ _ hk) ?_
    | refine ev_if_pos (by first | rfl | assumption | omega) ?_
    | refine ev_if_neg (by first | decide | assumption | omega) ?_
    | refine ev_ite (fun hc => ?_) (fun hc => ?_))
theorem toCmd_ev (c r kd : Int) (key val : List Int) (n : Int) (hk : key.length ≤ 140737488351232) (hv : val.length ≤ 140737488351232) : Ev (fun k => laws_toCmd.f k c r kd key val n) (c, r, kd, key, val, n) := by
  unfold laws_toCmd.f
  exact Ev.bind (toOp_ev _ _ _ _ hk hv) (Ev.now _)
theorem eqCmd_self (c r kd : Int) (key val : List Int) (n : Int) (hk : key.length ≤ 140737488351232) (hv : val.length ≤ 140737488351232) : Ev (fun k => laws_eqCmd.f k c r kd key val n c r kd key val n) true := by
  unfold laws_eqCmd.f
  exact ev_if_pos rfl (ev_if_pos rfl (Ev.bind (eqOp_self _ _ _ _ hk hv) (ev_if_pos rfl (Ev.now _))))
theorem szCmd_eq (c r kd : Int) (key val : List Int) (n left : Int) (h0 : 0 ≤ left) (h1 : left ≤ 1048576) (hk : key.length ≤ maxLen) (hv : val.length ≤ maxLen) :
    ∃ q, laws_szCmd.f c r kd key val n left = some q ∧ (0 ≤ q → q ≤ left ∧ (key.length : Int) ≤ left ∧ (val.length : Int) ≤ left) := by
  unfold laws_szCmd.f
  obtain ⟨q, e, hq⟩ := szOp_eq kd key val n left h0 h1 hk hv
  rw [e, Option.bind_some]
  by_cases c2 : q < 0
  · rw [if_pos c2]
    exact ⟨-1, rfl, fun h => absurd h (by decide)⟩
  · rw [if_neg c2]
    exact ⟨q, rfl, hq⟩

-- items.lean: an item of a log
/-- A valid item. -/
def itemOkP (t c r kd : Int) (key val : List Int) (n : Int) : Bool := decide (1 ≤ t ∧ t ≤ 100000) && cmdOkP c r kd key val n
theorem specItemOk_ev (t c r kd : Int) (key val : List Int) (n : Int) (hk : key.length ≤ 140737488351232) : Ev (fun k => spec_ItemOk.f k t c r kd key val n) (itemOkP t c r kd key val n) := by
  unfold spec_ItemOk.f
  repeat' (first
    | exact ev_done (by grind [itemOkP])
    | refine Ev.bind (specCmdOk_ev _ _ _ _ _ _ hk) ?_
    | refine ev_ite (fun hc => ?_) (fun hc => ?_))
theorem isTerm_eq (t : Int) : impl_isTerm.f t = some (decide (1 ≤ t ∧ t ≤ 100000)) := by
  unfold impl_isTerm.f
  rw [within_eq]
  rfl
theorem implItemOk_ev (t c r kd : Int) (key val : List Int) (n : Int) (hk : key.length ≤ 140737488351232) : Ev (fun k => impl_ItemOk.f k t c r kd key val n) (itemOkP t c r kd key val n) := by
  unfold impl_ItemOk.f
  refine ev_bind_eq (isTerm_eq t) ?_
  repeat' (first
    | exact ev_done (by grind [itemOkP])
    | refine Ev.bind (implCmdOk_ev _ _ _ _ _ _ hk) ?_
    | refine ev_ite (fun hc => ?_) (fun hc => ?_))
theorem toItem_ev (t c r kd : Int) (key val : List Int) (n : Int) (hk : key.length ≤ 140737488351232) (hv : val.length ≤ 140737488351232) : Ev (fun k => laws_toItem.f k t c r kd key val n) (t, c, r, kd, key, val, n) := by
  unfold laws_toItem.f
  exact Ev.bind (toCmd_ev _ _ _ _ _ _ hk hv) (Ev.now _)
theorem eqItem_self (t c r kd : Int) (key val : List Int) (n : Int) (hk : key.length ≤ 140737488351232) (hv : val.length ≤ 140737488351232) : Ev (fun k => laws_eqItem.f k t c r kd key val n t c r kd key val n) true := by
  unfold laws_eqItem.f
  exact ev_if_pos rfl (Ev.bind (eqCmd_self _ _ _ _ _ _ hk hv) (ev_if_pos rfl (Ev.now _)))
theorem szItem_eq (t c r kd : Int) (key val : List Int) (n left : Int) (h0 : 0 ≤ left) (h1 : left ≤ 1048576) (hk : key.length ≤ maxLen) (hv : val.length ≤ maxLen) :
    ∃ q, laws_szItem.f t c r kd key val n left = some q ∧ (0 ≤ q → q ≤ left ∧ (key.length : Int) ≤ left ∧ (val.length : Int) ≤ left) := by
  unfold laws_szItem.f
  obtain ⟨q, e, hq⟩ := szCmd_eq c r kd key val n left h0 h1 hk hv
  rw [e, Option.bind_some]
  by_cases c2 : q < 0
  · rw [if_pos c2]
    exact ⟨-1, rfl, fun h => absurd h (by decide)⟩
  · rw [if_neg c2]
    exact ⟨q, rfl, hq⟩

-- itemrows.lean: rows of items: how much they hold, their copy, their comparison
/-- A row's entry as the program has it. -/
def cvItem (x : S199) : S147 := ⟨x.f0, ⟨x.f1.f0, x.f1.f1, ⟨x.f1.f2.f0, x.f1.f2.f1, x.f1.f2.f2, x.f1.f2.f3⟩⟩⟩
/-- Its texts are short. -/
def fitItem (x : S147) : Prop := x.f1.f2.f1.length ≤ 1048576 ∧ x.f1.f2.f2.length ≤ 1048576
theorem rd_T50_get (l : List S199) (i : Nat) (h : i < l.length) : rd_T199 l (i : Int) = l[i] := by
  unfold rd_T199
  rw [Int.toNat_natCast]
  simp [List.getD, h]
theorem rd_T54_get (l : List S147) (i : Nat) (h : i < l.length) : rd_T147 l (i : Int) = l[i] := by
  unfold rd_T147
  rw [Int.toNat_natCast]
  simp [List.getD, h]
theorem szItemS_loop (l : List S199) (hl : l.length ≤ maxLen) (hk : ∀ x ∈ l, x.f1.f2.f1.length ≤ maxLen ∧ x.f1.f2.f2.length ≤ maxLen) (d : Nat) : ∀ (i : Nat) (left : Int), i ≤ l.length → l.length - i = d → 0 ≤ left → left ≤ 1048576 →
    ∃ r, Ev (fun k => laws_szItemS.l0 k l left (i : Int)) r ∧ (0 ≤ r → r ≤ left ∧ ∀ x ∈ l.drop i, fitItem (cvItem x)) := by
  induction d with
  | zero =>
    intro i left hi hd h0 h1
    refine ⟨left, Ev.step (fun k => by rw [laws_szItemS.l0]) (ev_if_neg (by omega) (Ev.now _)), fun _ => ⟨by omega, ?_⟩⟩
    rw [List.drop_of_length_le (by omega)]
    simp
  | succ d ih =>
    intro i left hi hd h0 h1
    have hi' : i < l.length := by omega
    have hm := hk l[i] (List.getElem_mem hi')
    obtain ⟨q, e, hq⟩ := szItem_eq l[i].f0 l[i].f1.f0 l[i].f1.f1 l[i].f1.f2.f0 l[i].f1.f2.f1 l[i].f1.f2.f2 l[i].f1.f2.f3 left h0 h1 hm.1 hm.2
    by_cases c : q < 0
    · refine ⟨-1, Ev.step (fun k => by rw [laws_szItemS.l0]) ?_, fun h => absurd h (by decide)⟩
      rw [rd_T50_get l i hi']
      exact ev_if_pos (by omega) (ev_if_pos (by omega) (ev_bind_eq e (ev_if_pos c (Ev.now _))))
    · obtain ⟨q1, q2, q3⟩ := hq (by omega)
      obtain ⟨r, er, hr⟩ := ih (i + 1) q (by omega) (by omega) (by omega) (by omega)
      refine ⟨r, Ev.step (fun k => by rw [laws_szItemS.l0]) ?_, fun h => ?_⟩
      · unfold maxLen at hl
        rw [rd_T50_get l i hi', w64 (by omega) (by omega)]
        refine ev_if_pos (by omega) (ev_if_pos (by omega) (ev_bind_eq e (ev_if_neg c ?_)))
        rw [Int.natCast_add, Int.natCast_one] at er
        exact er
      · obtain ⟨h2, h3⟩ := hr h
        refine ⟨by omega, fun x hx => ?_⟩
        rw [List.drop_eq_getElem_cons hi'] at hx
        rcases List.mem_cons.1 hx with rfl | hx
        · exact ⟨by show l[i].f1.f2.f1.length ≤ 1048576; omega, by show l[i].f1.f2.f2.length ≤ 1048576; omega⟩
        · exact h3 x hx
theorem szItemS_ev (l : List S199) (left : Int) (h0 : 0 ≤ left) (h1 : left ≤ 1048576) (hl : l.length ≤ maxLen) (hk : ∀ x ∈ l, x.f1.f2.f1.length ≤ maxLen ∧ x.f1.f2.f2.length ≤ maxLen) :
    ∃ r, Ev (fun k => laws_szItemS.f k l left) r ∧ (0 ≤ r → r ≤ left ∧ (l.length : Int) ≤ left ∧ ∀ x ∈ l, fitItem (cvItem x)) := by
  unfold laws_szItemS.f
  have hl' := hl
  unfold maxLen at hl'
  rw [w64 (by omega) (by omega)]
  by_cases c : left - (l.length : Int) < 0
  · exact ⟨-1, ev_if_pos c (Ev.now _), fun h => absurd h (by decide)⟩
  · obtain ⟨r, er, hr⟩ := szItemS_loop l hl hk l.length 0 (left - (l.length : Int)) (by omega) (by omega) (by omega) (by omega)
    refine ⟨r, ev_if_neg c er, fun h => ?_⟩
    obtain ⟨a, b⟩ := hr h
    exact ⟨by omega, by omega, by simpa using b⟩
theorem toItemS_loop (l : List S199) (hn : l.length ≤ 1048576) (hk : ∀ x ∈ l, fitItem (cvItem x)) (d : Nat) : ∀ (i : Nat), i ≤ l.length → l.length - i = d →
    Ev (fun k => laws_toItemS.l0 k l ((l.take i).map cvItem ++ List.replicate (l.length - i) z147) (i : Int)) (l.map cvItem) := by
  induction d with
  | zero =>
    intro i hi hd
    refine Ev.step (fun k => by rw [laws_toItemS.l0]) (ev_if_neg (by omega) (ev_done ?_))
    rw [hd, List.replicate_zero, List.append_nil, List.take_of_length_le (by omega)]
  | succ d ih =>
    intro i hi hd
    have hi' : i < l.length := by omega
    have hm := hk l[i] (List.getElem_mem hi')
    have h := ih (i + 1) (by omega) (by omega)
    refine Ev.step (fun k => by rw [laws_toItemS.l0]) ?_
    rw [rd_T50_get l i hi', w64 (by omega) (by omega)]
    refine ev_if_pos (by omega) (ev_if_pos (by omega) (Ev.bind (toItem_ev l[i].f0 l[i].f1.f0 l[i].f1.f1 l[i].f1.f2.f0 l[i].f1.f2.f1 l[i].f1.f2.f2 l[i].f1.f2.f3 (by have := hm.1; simp only [cvItem] at this; omega) (by have := hm.2; simp only [cvItem] at this; omega)) ?_))
    refine ev_if_pos (by rw [List.length_append, List.length_map, List.length_take, List.length_replicate]; omega) ?_
    dsimp only
    rw [Int.natCast_add, Int.natCast_one] at h
    have hs : ((l.take i).map cvItem ++ List.replicate (l.length - i) z147).set ((i : Int).toNat) (cvItem l[i]) = (l.take (i + 1)).map cvItem ++ List.replicate (l.length - (i + 1)) z147 := by
      rw [Int.toNat_natCast, List.set_append_right _ _ (by rw [List.length_map, List.length_take]; omega), List.length_map, List.length_take, Nat.min_eq_left hi, Nat.sub_self,
        show l.length - i = (l.length - (i + 1)) + 1 by omega, List.replicate_succ, List.set_cons_zero, List.take_succ_eq_append_getElem hi', List.map_append, List.append_assoc]
      rfl
    rw [← hs] at h
    exact h
theorem toItemS_ev (l : List S199) (hn : l.length ≤ 1048576) (hk : ∀ x ∈ l, fitItem (cvItem x)) : Ev (fun k => laws_toItemS.f k l) (l.map cvItem) := by
  unfold laws_toItemS.f
  have h := toItemS_loop l hn hk l.length 0 (by omega) (by omega)
  rw [List.take_zero, List.map_nil, List.nil_append, Nat.sub_zero] at h
  refine ev_if_pos (by omega) (ev_if_pos (by omega) ?_)
  rw [Int.toNat_natCast]
  exact h
theorem eqItemS_loop (l : List S147) (hn : l.length ≤ 1048576) (hk : ∀ x ∈ l, fitItem x) (d : Nat) : ∀ (i : Nat), i ≤ l.length → l.length - i = d → Ev (fun k => laws_eqItemS.l0 k l l (i : Int)) true := by
  induction d with
  | zero =>
    intro i hi hd
    exact Ev.step (fun k => by rw [laws_eqItemS.l0]) (ev_if_neg (by omega) (Ev.now _))
  | succ d ih =>
    intro i hi hd
    have hi' : i < l.length := by omega
    have hm := hk l[i] (List.getElem_mem hi')
    have h := ih (i + 1) (by omega) (by omega)
    refine Ev.step (fun k => by rw [laws_eqItemS.l0]) ?_
    rw [rd_T54_get l i hi', w64 (by omega) (by omega)]
    rw [Int.natCast_add, Int.natCast_one] at h
    exact ev_if_pos (by omega) (ev_if_pos (by omega) (ev_if_pos (by omega) (Ev.bind (eqItem_self _ _ _ _ _ _ _ (by have := hm.1; omega) (by have := hm.2; omega)) (ev_if_pos rfl h))))
theorem eqItemS_self (l : List S147) (hn : l.length ≤ 1048576) (hk : ∀ x ∈ l, fitItem x) : Ev (fun k => laws_eqItemS.f k l l) true := by
  unfold laws_eqItemS.f
  exact ev_if_pos rfl (eqItemS_loop l hn hk l.length 0 (by omega) (by omega))

-- itemsz.lean: how much a row of items holds in all
/-- What an item's texts hold. -/
def txts (x : S199) : Nat := x.f1.f2.f1.length + x.f1.f2.f2.length
theorem szItem_eq2 (t c r kd : Int) (key val : List Int) (n left : Int) (h0 : 0 ≤ left) (h1 : left ≤ 1048576) (hk : key.length ≤ maxLen) (hv : val.length ≤ maxLen) :
    ∃ q, laws_szItem.f t c r kd key val n left = some q ∧ (0 ≤ q → q + (key.length : Int) + (val.length : Int) = left) := by
  unfold laws_szItem.f laws_szCmd.f laws_szOp.f
  obtain ⟨r1, e1, hr1⟩ := szByteS_eq2 key left h0 h1 hk
  rw [e1, Option.bind_some]
  by_cases c1 : r1 < 0
  · rw [if_pos c1, Option.bind_some, if_pos (by decide), Option.bind_some, if_pos (by decide)]
    exact ⟨-1, rfl, fun h => absurd h (by decide)⟩
  rw [if_neg c1]
  have := hr1 (by omega)
  obtain ⟨r2, e2, hr2⟩ := szByteS_eq2 val r1 (by omega) (by omega) hv
  rw [e2, Option.bind_some]
  by_cases c2 : r2 < 0
  · rw [if_pos c2, Option.bind_some, if_pos (by decide), Option.bind_some, if_pos (by decide)]
    exact ⟨-1, rfl, fun h => absurd h (by decide)⟩
  rw [if_neg c2, Option.bind_some, if_neg c2, Option.bind_some, if_neg c2]
  exact ⟨r2, rfl, fun _ => by have := hr2 (by omega); omega⟩
theorem szItemS_loop2 (l : List S199) (hl : l.length ≤ maxLen) (hk : ∀ x ∈ l, x.f1.f2.f1.length ≤ maxLen ∧ x.f1.f2.f2.length ≤ maxLen) (d : Nat) : ∀ (i : Nat) (left : Int), i ≤ l.length → l.length - i = d → 0 ≤ left → left ≤ 1048576 →
    ∃ r, Ev (fun k => laws_szItemS.l0 k l left (i : Int)) r ∧ (0 ≤ r → r + (((l.drop i).map txts).sum : Nat) = left) := by
  induction d with
  | zero =>
    intro i left hi hd h0 h1
    refine ⟨left, Ev.step (fun k => by rw [laws_szItemS.l0]) (ev_if_neg (by omega) (Ev.now _)), fun _ => ?_⟩
    rw [List.drop_of_length_le (by omega)]
    simp
  | succ d ih =>
    intro i left hi hd h0 h1
    have hi' : i < l.length := by omega
    have hm := hk l[i] (List.getElem_mem hi')
    obtain ⟨q, e, hq⟩ := szItem_eq2 l[i].f0 l[i].f1.f0 l[i].f1.f1 l[i].f1.f2.f0 l[i].f1.f2.f1 l[i].f1.f2.f2 l[i].f1.f2.f3 left h0 h1 hm.1 hm.2
    by_cases c : q < 0
    · refine ⟨-1, Ev.step (fun k => by rw [laws_szItemS.l0]) ?_, fun h => absurd h (by decide)⟩
      rw [rd_T50_get l i hi']
      exact ev_if_pos (by omega) (ev_if_pos (by omega) (ev_bind_eq e (ev_if_pos c (Ev.now _))))
    · have q1 := hq (by omega)
      obtain ⟨r, er, hr⟩ := ih (i + 1) q (by omega) (by omega) (by omega) (by omega)
      refine ⟨r, Ev.step (fun k => by rw [laws_szItemS.l0]) ?_, fun h => ?_⟩
      · unfold maxLen at hl
        rw [rd_T50_get l i hi', w64 (by omega) (by omega)]
        refine ev_if_pos (by omega) (ev_if_pos (by omega) (ev_bind_eq e (ev_if_neg c ?_)))
        rw [Int.natCast_add, Int.natCast_one] at er
        exact er
      · have h2 := hr h
        rw [List.drop_eq_getElem_cons hi', List.map_cons, List.sum_cons]
        have : txts l[i] = l[i].f1.f2.f1.length + l[i].f1.f2.f2.length := rfl
        omega
theorem szItemS_ev2 (l : List S199) (left : Int) (h0 : 0 ≤ left) (h1 : left ≤ 1048576) (hl : l.length ≤ maxLen) (hk : ∀ x ∈ l, x.f1.f2.f1.length ≤ maxLen ∧ x.f1.f2.f2.length ≤ maxLen) :
    ∃ r, Ev (fun k => laws_szItemS.f k l left) r ∧ (0 ≤ r → r + (l.length : Int) + ((l.map txts).sum : Nat) = left) := by
  unfold laws_szItemS.f
  have hl' := hl
  unfold maxLen at hl'
  rw [w64 (by omega) (by omega)]
  by_cases c : left - (l.length : Int) < 0
  · exact ⟨-1, ev_if_pos c (Ev.now _), fun h => absurd h (by decide)⟩
  · obtain ⟨r, er, hr⟩ := szItemS_loop2 l hl hk l.length 0 (left - (l.length : Int)) (by omega) (by omega) (by omega) (by omega)
    refine ⟨r, ev_if_neg c er, fun h => ?_⟩
    have a := hr h
    rw [List.drop_zero] at a
    omega
theorem txts_mem (l : List S199) (x : S199) (h : x ∈ l) : txts x ≤ (l.map txts).sum := by
  induction l with
  | nil => cases h
  | cons y ys ih =>
    rw [List.map_cons, List.sum_cons]
    rcases List.mem_cons.1 h with rfl | h
    · omega
    · have := ih h
      omega

-- marks.lean: what the laws write into what they are handed, and look for again
theorem markByteS_loop (n : Nat) (k0 : Int) (h0 : 0 ≤ k0) (hk : k0 + n ≤ 4611686018427387904) (d : Nat) : ∀ (x : List Int) (i : Nat), x.length = n → i ≤ n → n - i = d → x.take i = (marks k0 n).take i → Ev (fun k => laws_markByteS.l0 k x (k0 + (i : Int)) (i : Int)) (k0 + (n : Int), marks k0 n) := by
  induction d with
  | zero =>
    intro x i hx hi hd ht
    refine Ev.step (fun k => by rw [laws_markByteS.l0]) ?_
    refine ev_if_neg (by omega) ?_
    obtain rfl : i = n := by omega
    rw [eq_of_take hx (marks_length k0 i) ht]
    exact Ev.now _
  | succ d ih =>
    intro x i hx hi hd ht
    refine Ev.step (fun k => by rw [laws_markByteS.l0]) ?_
    refine ev_if_pos (by omega) (ev_if_pos (by omega) ?_)
    have h := ih (x.set i ((k0 + (i : Int)) % 256)) (i + 1) (by rw [List.length_set]; exact hx) (by omega) (by omega) (take_set_succ x (marks k0 n) i _ (by omega) (by rw [marks_length]; omega) ht (marks_get k0 n i _).symm)
    rw [w64 (by omega) (by omega), w64 (by omega) (by omega), Int.toNat_natCast]
    rw [Int.natCast_add, Int.natCast_one, ← Int.add_assoc] at h
    exact h
theorem markByteS_ev (l : List Int) (k0 : Int) (h0 : 0 ≤ k0) (hk : k0 + l.length ≤ 4611686018427387904) : Ev (fun k => laws_markByteS.f k l k0) (k0 + (l.length : Int), marks k0 l.length) := by
  have h := markByteS_loop l.length k0 h0 hk l.length l 0 rfl (by omega) (by omega) rfl
  simp only [Int.natCast_zero, Int.add_zero] at h
  exact h
theorem heldByteS_loop (n : Nat) (k0 : Int) (h0 : 0 ≤ k0) (hk : k0 + n ≤ 4611686018427387904) (d : Nat) : ∀ (i : Nat), i ≤ n → n - i = d → Ev (fun k => laws_heldByteS.l0 k (marks k0 n) (k0 + (i : Int)) (i : Int)) (k0 + (n : Int)) := by
  induction d with
  | zero =>
    intro i hi hd
    refine Ev.step (fun k => by rw [laws_heldByteS.l0]) ?_
    refine ev_if_neg (by rw [marks_length]; omega) ?_
    obtain rfl : i = n := by omega
    exact Ev.now _
  | succ d ih =>
    intro i hi hd
    refine Ev.step (fun k => by rw [laws_heldByteS.l0]) ?_
    refine ev_if_pos (by rw [marks_length]; omega) (ev_if_pos (by omega) (ev_if_pos (by rw [rd_get _ i (by rw [marks_length]; omega), marks_get]) ?_))
    have h := ih (i + 1) (by omega) (by omega)
    rw [w64 (by omega) (by omega), w64 (by omega) (by omega)]
    rw [Int.natCast_add, Int.natCast_one, ← Int.add_assoc] at h
    exact h
theorem heldByteS_ev (n : Nat) (k0 : Int) (h0 : 0 ≤ k0) (hk : k0 + n ≤ 4611686018427387904) : Ev (fun k => laws_heldByteS.f k (marks k0 n) k0) (k0 + (n : Int)) := by
  have h := heldByteS_loop n k0 h0 hk n 0 (by omega) (by omega)
  simp only [Int.natCast_zero, Int.add_zero] at h
  exact h

-- putnum.lean: how a number is written
/-- A number's bytes: seven bits each, the lowest first; all but the last are raised by 128. -/
def encNum (n : Nat) : List Int := if n < 128 then [(n : Int)] else ((n % 128 + 128 : Nat) : Int) :: encNum (n / 128)
  termination_by n
  decreasing_by omega
theorem encNum_small {n : Nat} (h : n < 128) : encNum n = [(n : Int)] := by rw [encNum, if_pos h]
theorem encNum_big {n : Nat} (h : ¬ n < 128) : encNum n = ((n % 128 + 128 : Nat) : Int) :: encNum (n / 128) := by rw [encNum, if_neg h]
theorem encNum_length (d : Nat) : ∀ n : Nat, n < 128 ^ (d + 1) → (encNum n).length ≤ d + 1 := by
  induction d with
  | zero =>
    intro n h
    rw [encNum_small (by simpa using h)]
    simp
  | succ d ih =>
    intro n h
    by_cases c : n < 128
    · rw [encNum_small c]
      simp
    · rw [encNum_big c, List.length_cons]
      have := ih (n / 128) (by rw [Nat.pow_succ] at h; omega)
      omega
theorem encNum_le {n : Nat} (h : n ≤ 2147483647) : (encNum n).length ≤ 5 := encNum_length 4 n (by omega)
theorem implPut_ev (n : Nat) (hn : n ≤ 2147483647) : ∀ (x : List Int), x.length + (encNum n).length < 140737488355328 → Ev (fun k => impl_putNum.l0 k x (n : Int)) (x ++ encNum n) := by
  induction n using Nat.strongRecOn with
  | _ n ih =>
    intro x hx
    refine Ev.step (fun k => by rw [impl_putNum.l0]) ?_
    by_cases c : n < 128
    · rw [encNum_small c] at hx ⊢
      refine ev_if_neg (by omega) (ev_if_pos (by simp at hx; omega) ?_)
      rw [show (n : Int) % 256 = (n : Int) by omega]
      exact Ev.now _
    · rw [encNum_big c] at hx ⊢
      have h := ih (n / 128) (by omega) (by omega) (x ++ [((n % 128 + 128 : Nat) : Int)]) (by simp at hx ⊢; omega)
      refine ev_if_pos (by omega) (ev_if_pos (by simp at hx; omega) ?_)
      rw [show (Int.tmod (n : Int) 128 + 128) % 256 = ((n % 128 + 128 : Nat) : Int) by rw [Int.tmod_eq_emod_of_nonneg (by omega)]; omega]
      rw [show Int.tdiv (n : Int) 128 = ((n / 128 : Nat) : Int) by rw [Int.tdiv_eq_ediv_of_nonneg (by omega)]; omega, w64 (by omega) (by omega)]
      rw [List.append_assoc, List.singleton_append] at h
      exact h
theorem implPutNum_ev (x : List Int) (n : Nat) (hn : n ≤ 2147483647) (hx : x.length + (encNum n).length < 140737488355328) : Ev (fun k => impl_putNum.f k x (n : Int)) (x ++ encNum n) := implPut_ev n hn x hx
/-- PutNum, as both have it. -/
def putNumP (b : List Int) (n : Int) : List Int := if 0 ≤ n ∧ n ≤ 2147483647 then b ++ encNum n.toNat else b
theorem putNumP_le (b : List Int) (n : Int) : (putNumP b n).length ≤ b.length + 5 := by
  unfold putNumP
  split
  · rename_i h
    have := encNum_le (n := n.toNat) (by omega)
    rw [List.length_append]
    omega
  · omega

-- encs.lean: several numbers, one after another
/-- Numbers, one after another. -/
def encs : List Int → List Int
  | [] => []
  | n :: l => encNum n.toNat ++ encs l
/-- A number that has an encoding. -/
def numOk (n : Int) : Prop := 0 ≤ n ∧ n ≤ 2147483647
theorem encs_le (l : List Int) (h : ∀ n ∈ l, numOk n) : (encs l).length ≤ 5 * l.length := by
  induction l with
  | nil => simp [encs]
  | cons n l ih =>
    have h1 := h n (List.mem_cons_self ..)
    have h2 := ih (fun m hm => h m (List.mem_cons_of_mem _ hm))
    unfold numOk at h1
    have := encNum_le (n := n.toNat) (by omega)
    rw [encs, List.length_append, List.length_cons]
    omega
theorem implPutNum1_ev (b : List Int) (n : Int) (h : numOk n) (hb : b.length ≤ 140737488350000) : Ev (fun k => impl_putNum.f k b n) (b ++ encNum n.toNat) := by
  obtain ⟨m, rfl⟩ := Int.eq_ofNat_of_zero_le h.1
  have h2 := h.2
  have := encNum_le (n := m) (by omega)
  exact implPutNum_ev b m (by omega) (by omega)
theorem vput_ev (l : List Int) (h : ∀ n ∈ l, numOk n) : ∀ (b : List Int), b.length + 5 * l.length ≤ 140737488350000 → Ev (fun k => virtual_put.f k b l) (b ++ encs l) := by
  induction l with
  | nil =>
    intro b _
    rw [encs, List.append_nil]
    exact Ev.now _
  | cons n l ih =>
    intro b hb
    have h1 := h n (List.mem_cons_self ..)
    rw [List.length_cons] at hb
    have hl := h1
    unfold numOk at hl
    have := encNum_le (n := n.toNat) (by omega)
    refine ev_of (b := b ++ encs (n :: l)) (Ev.bind (implPutNum1_ev b n h1 (by omega)) (ih (fun m hm => h m (List.mem_cons_of_mem _ hm)) (b ++ encNum n.toNat) (by rw [List.length_append]; omega))) ?_
    rw [encs, List.append_assoc]

-- msgs.lean: a message
/-- Entries whose terms do not fall, from p on, and none above t. -/
def chainOk (t : Int) : Int → List S147 → Bool
  | _, [] => true
  | p, x :: l => itemOkP x.f0 x.f1.f0 x.f1.f1 x.f1.f2.f0 x.f1.f2.f1 x.f1.f2.f2 x.f1.f2.f3 && (decide (p ≤ x.f0 ∧ x.f0 ≤ t) && chainOk t x.f0 l)
/-- A valid message. -/
def msgP (kd fr dst t ix lt : Int) (n : Nat) (cm : Int) (ok : Bool) : Bool :=
  decide (0 ≤ kd ∧ kd ≤ 3 ∧ 0 ≤ fr ∧ fr ≤ 4 ∧ 0 ≤ dst ∧ dst ≤ 4 ∧ fr ≠ dst ∧ 1 ≤ t ∧ t ≤ 100000 ∧ 0 ≤ ix ∧ ix ≤ 400 ∧ 0 ≤ lt ∧ lt ≤ t ∧ 0 ≤ cm ∧ cm ≤ 400 ∧ n ≤ 4 ∧ (n : Int) ≤ 400 - ix ∧
    (kd = 0 → n = 0 ∧ cm = 0 ∧ ok = false ∧ (ix = 0 ↔ lt = 0)) ∧ (kd = 1 → ix = 0 ∧ lt = 0 ∧ n = 0 ∧ cm = 0) ∧ (kd = 2 → ok = false ∧ (ix = 0 ↔ lt = 0)) ∧ (kd = 3 → lt = 0 ∧ n = 0 ∧ cm = 0))
theorem chainOk_cons (t p : Int) (x : S147) (l : List S147) : chainOk t p (x :: l) = (itemOkP x.f0 x.f1.f0 x.f1.f1 x.f1.f2.f0 x.f1.f2.f1 x.f1.f2.f2 x.f1.f2.f3 && (decide (p ≤ x.f0 ∧ x.f0 ≤ t) && chainOk t x.f0 l)) := rfl
/-- What the reference asks behind the entries. -/
def tailP (kd ix lt : Int) (n : Nat) (cm : Int) (ok : Bool) : Bool :=
  if kd = 0 then decide (n = 0 ∧ cm = 0 ∧ ok = false) else if kd = 1 then decide (ix = 0 ∧ lt = 0 ∧ n = 0 ∧ cm = 0) else if kd = 2 then !ok else decide (lt = 0 ∧ n = 0 ∧ cm = 0)
theorem specMsg_loop (kd fr dst t ix lt : Int) (l : List S147) (cm : Int) (ok : Bool) (hn : l.length ≤ 1048576) (hk : ∀ x ∈ l, fitItem x) (d : Nat) : ∀ (i : Nat) (p : Int), i ≤ l.length → l.length - i = d → lt ≤ p → (i = 0 → p = lt) → (∀ h : 0 < i, p = (rd_T147 l ((i : Int) - 1)).f0) →
    Ev (fun k => spec_MsgOk.l0 k (i : Int) kd fr dst t ix lt l cm ok) (chainOk t p (l.drop i) && tailP kd ix lt l.length cm ok) := by
  induction d with
  | zero =>
    intro i p hi hd _ _ _
    refine Ev.step (fun k => by rw [spec_MsgOk.l0]) ?_
    rw [List.drop_of_length_le (by omega)]
    refine ev_if_neg (by omega) ?_
    repeat' (first
      | exact ev_done (by grind [chainOk, tailP])
      | refine ev_ite (fun hc => ?_) (fun hc => ?_))
  | succ d ih =>
    intro i p hi hd hp hp0 hp1
    have hi' : i < l.length := by omega
    have hm := hk l[i] (List.getElem_mem hi')
    refine Ev.step (fun k => by rw [spec_MsgOk.l0]) ?_
    have hx := rd_T54_get l i hi'
    have h1 := specItemOk_ev l[i].f0 l[i].f1.f0 l[i].f1.f1 l[i].f1.f2.f0 l[i].f1.f2.f1 l[i].f1.f2.f2 l[i].f1.f2.f3 (by have := hm.1; omega)
    rw [hx, List.drop_eq_getElem_cons hi', chainOk_cons, w64 (x := (i : Int) - 1) (by omega) (by omega), w64 (x := (i : Int) + 1) (by omega) (by omega)]
    refine ev_if_pos (by omega) (ev_if_pos (by omega) (Ev.bind h1 ?_))
    generalize itemOkP l[i].f0 l[i].f1.f0 l[i].f1.f1 l[i].f1.f2.f0 l[i].f1.f2.f1 l[i].f1.f2.f2 l[i].f1.f2.f3 = b
    cases b
    · exact ev_if_neg (by decide) (ev_done (by grind))
    refine ev_if_pos rfl ?_
    have h := ih (i + 1) l[i].f0 (by omega) (by omega)
    rw [Int.natCast_add, Int.natCast_one] at h
    have hq : rd_T147 l ((i : Int) + 1 - 1) = l[i] := by rw [Int.add_sub_cancel]; exact hx
    rw [hq] at h
    by_cases c1 : l[i].f0 > t
    · exact ev_if_pos c1 (ev_done (by grind))
    refine ev_if_neg c1 ?_
    by_cases c2 : (i : Int) > 0
    · have hp2 := hp1 (by omega)
      refine ev_if_pos c2 ?_
      refine ev_if_pos (by omega) (ev_if_pos (by omega) ?_)
      rw [← hp2]
      by_cases c3 : p > l[i].f0
      · exact ev_if_pos c3 (ev_done (by grind))
      refine ev_if_neg c3 (ev_if_neg (by omega) ?_)
      exact ev_of (h (by omega) (by omega) (fun _ => rfl)) (by grind)
    · have hp2 := hp0 (by omega)
      refine ev_if_neg c2 ?_
      by_cases c3 : l[i].f0 < lt
      · exact ev_if_pos c3 (ev_done (by grind))
      refine ev_if_neg c3 ?_
      exact ev_of (h (by omega) (by omega) (fun _ => rfl)) (by grind)
theorem implMsg_loop (kd fr dst t ix lt : Int) (l : List S147) (cm : Int) (ok : Bool) (hix : 0 ≤ ix ∧ ix ≤ 400) (hn : l.length ≤ 1048576) (hk : ∀ x ∈ l, fitItem x) (d : Nat) : ∀ (i : Nat) (p : Int), i ≤ l.length → l.length - i = d →
    Ev (fun k => impl_MsgOk.l0 k p l (l.length : Int) (i : Int) kd fr dst t ix lt l cm ok) (chainOk t p (l.drop i) && decide (l.length ≤ 4 ∧ (l.length : Int) ≤ 400 - ix ∧ 0 ≤ cm ∧ cm ≤ 400)) := by
  induction d with
  | zero =>
    intro i p hi hd
    refine Ev.step (fun k => by rw [impl_MsgOk.l0]) ?_
    rw [List.drop_of_length_le (by omega), w64 (x := 400 - ix) (by omega) (by omega)]
    refine ev_if_neg (by omega) ?_
    repeat' (first
      | exact ev_done (by grind [chainOk])
      | refine ev_bind_eq (within_eq _ _ _) ?_
      | refine ev_ite (fun hc => ?_) (fun hc => ?_))
  | succ d ih =>
    intro i p hi hd
    have hi' : i < l.length := by omega
    have hm := hk l[i] (List.getElem_mem hi')
    refine Ev.step (fun k => by rw [impl_MsgOk.l0]) ?_
    have hx := rd_T54_get l i hi'
    have h1 := implItemOk_ev l[i].f0 l[i].f1.f0 l[i].f1.f1 l[i].f1.f2.f0 l[i].f1.f2.f1 l[i].f1.f2.f2 l[i].f1.f2.f3 (by have := hm.1; omega)
    rw [hx, List.drop_eq_getElem_cons hi', chainOk_cons, w64 (by omega) (by omega)]
    refine ev_if_pos (by omega) (ev_if_pos (by omega) (ev_if_pos (by omega) (Ev.bind h1 ?_)))
    generalize itemOkP l[i].f0 l[i].f1.f0 l[i].f1.f1 l[i].f1.f2.f0 l[i].f1.f2.f1 l[i].f1.f2.f2 l[i].f1.f2.f3 = b
    cases b
    · exact ev_if_neg (by decide) (ev_done (by grind))
    refine ev_if_pos rfl (ev_bind_eq (within_eq _ _ _) ?_)
    have h := ih (i + 1) l[i].f0 (by omega) (by omega)
    rw [Int.natCast_add, Int.natCast_one] at h
    by_cases c : p ≤ l[i].f0 ∧ l[i].f0 ≤ t
    · exact ev_if_pos (decide_eq_true c) (ev_of h (by grind))
    · exact ev_if_neg (by rw [decide_eq_false c]; decide) (ev_done (by grind))
theorem l3server_eq (a : Int) : spec_l3server.f a = some (decide (0 ≤ a ∧ a ≤ 4)) := by
  unfold spec_l3server.f
  split <;> (congr 1; grind)
theorem l3term_eq (a : Int) : spec_l3term.f a = some (decide (0 ≤ a ∧ a ≤ 100000)) := by
  unfold spec_l3term.f
  split <;> (congr 1; grind)
theorem l3place_eq (a : Int) : spec_l3place.f a = some (decide (0 ≤ a ∧ a ≤ 400)) := by
  unfold spec_l3place.f
  split <;> (congr 1; grind)
theorem chainOk_nil (t p : Int) (l : List S147) (h : l.length = 0) : chainOk t p l = true := by
  rw [List.length_eq_zero_iff.1 h]
  rfl
set_option maxHeartbeats 4000000 in
theorem specMsgOk_ev (kd fr dst t ix lt : Int) (l : List S147) (cm : Int) (ok : Bool) (hn : l.length ≤ 1048576) (hk : ∀ x ∈ l, fitItem x) :
    Ev (fun k => spec_MsgOk.f k kd fr dst t ix lt l cm ok) (msgP kd fr dst t ix lt l.length cm ok && chainOk t lt l) := by
  have hL := specMsg_loop kd fr dst t ix lt l cm ok hn hk l.length 0 lt (by omega) (by omega) (by omega) (fun _ => rfl) (fun h => absurd h (by omega))
  rw [List.drop_zero] at hL
  have h0 := chainOk_nil t lt l
  have hw : 0 ≤ ix ∧ ix ≤ 400 → wrap64 (400 - ix) = 400 - ix := fun h => w64 (by omega) (by omega)
  unfold spec_MsgOk.f
  generalize chainOk t lt l = ch at hL h0
  repeat' (first
    | exact ev_of hL (by grind [msgP, tailP])
    | exact ev_done (by grind [msgP, tailP])
    | refine ev_bind_eq (l3server_eq _) ?_
    | refine ev_bind_eq (l3term_eq _) ?_
    | refine ev_bind_eq (l3place_eq _) ?_
    | refine Ev.step (g := fun k => spec_MsgOk.j0 k _ _ _ _ _ _ _ _ _ _) (fun k => by rw [spec_MsgOk.j0]) ?_
    | refine Ev.step (g := fun k => spec_MsgOk.j1 k _ _ _ _ _ _ _ _ _ _) (fun k => by rw [spec_MsgOk.j1]) ?_
    | refine ev_ite (fun hc => ?_) (fun hc => ?_))
set_option maxHeartbeats 4000000 in
theorem implMsgOk_ev (kd fr dst t ix lt : Int) (l : List S147) (cm : Int) (ok : Bool) (hn : l.length ≤ 1048576) (hk : ∀ x ∈ l, fitItem x) :
    Ev (fun k => impl_MsgOk.f k kd fr dst t ix lt l cm ok) (msgP kd fr dst t ix lt l.length cm ok && chainOk t lt l) := by
  have hL := fun h => implMsg_loop kd fr dst t ix lt l cm ok h hn hk l.length 0 lt (by omega) (by omega)
  rw [List.drop_zero] at hL
  have h0 := chainOk_nil t lt l
  unfold impl_MsgOk.f
  generalize chainOk t lt l = ch at hL h0
  repeat' (first
    | exact ev_of (hL (by grind)) (by grind [msgP])
    | exact ev_done (by grind [msgP])
    | refine ev_bind_eq (within_eq _ _ _) ?_
    | refine ev_bind_eq (isTerm_eq _) ?_
    | refine Ev.step (g := fun k => impl_MsgOk.j0 k _ _ _ _ _ _ _ _ _ _) (fun k => by rw [impl_MsgOk.j0]) ?_
    | refine Ev.step (g := fun k => impl_MsgOk.j1 k _ _ _ _ _ _ _ _ _ _) (fun k => by rw [impl_MsgOk.j1]) ?_
    | refine Ev.step (g := fun k => impl_MsgOk.j2 k _ _ _ _ _ _ _ _ _ _) (fun k => by rw [impl_MsgOk.j2]) ?_
    | refine Ev.step (g := fun k => impl_MsgOk.j3 k _ _ _ _ _ _ _ _ _ _) (fun k => by rw [impl_MsgOk.j3]) ?_
    | refine ev_ite (fun hc => ?_) (fun hc => ?_))

-- puts.lean: PutText as both have it
/-- PutText, as both have it. -/
def putTextP (b t : List Int) : List Int := if t.length ≤ 20 then b ++ encNum t.length ++ t else b
theorem putTextP_le (b t : List Int) : (putTextP b t).length ≤ b.length + 25 := by
  unfold putTextP
  split
  · have := encNum_le (n := t.length) (by omega)
    rw [List.length_append, List.length_append]
    omega
  · omega
theorem implPutText_ev (b t : List Int) (ht : t.length ≤ 20) (hb : b.length ≤ 140737488350000) : Ev (fun k => impl_putText.f k b t) (b ++ encNum t.length ++ t) := by
  unfold impl_putText.f
  have := encNum_le (n := t.length) (by omega)
  refine Ev.bind (implPutNum_ev b t.length (by omega) (by omega)) (ev_if_pos (by rw [List.length_append]; omega) (Ev.now _))

-- specputnum.lean: the spec's way to write a number
theorem specPut_ev (n : Nat) (hn : n ≤ 2147483647) : ∀ (x : List Int), x.length + (encNum n).length < 140737488355328 → Ev (fun k => spec_PutNum.l0 k (n : Int) x) (x ++ encNum n) := by
  induction n using Nat.strongRecOn with
  | _ n ih =>
    intro x hx
    refine Ev.step (fun k => by rw [spec_PutNum.l0]) ?_
    by_cases c : n < 128
    · rw [encNum_small c] at hx ⊢
      refine ev_if_neg (by omega) (ev_if_pos (by simp at hx; omega) ?_)
      rw [show (n : Int) % 256 = (n : Int) by omega]
      exact Ev.now _
    · rw [encNum_big c] at hx ⊢
      have h := ih (n / 128) (by omega) (by omega) (x ++ [((n % 128 + 128 : Nat) : Int)]) (by simp at hx ⊢; omega)
      refine ev_if_pos (by omega) (ev_if_pos (by simp at hx; omega) ?_)
      rw [show (wrap64 (Int.tmod (n : Int) 128 + 128)) % 256 = ((n % 128 + 128 : Nat) : Int) by rw [Int.tmod_eq_emod_of_nonneg (by omega), w64 (by omega) (by omega)]; omega]
      rw [show Int.tdiv (n : Int) 128 = ((n / 128 : Nat) : Int) by rw [Int.tdiv_eq_ediv_of_nonneg (by omega)]; omega, w64 (by omega) (by omega)]
      rw [List.append_assoc, List.singleton_append] at h
      exact h
theorem specPutNum_ev (b : List Int) (n : Int) (hb : b.length ≤ 140737488350000) : Ev (fun k => spec_PutNum.f k b n) (putNumP b n) := by
  unfold spec_PutNum.f
  refine ev_bind_eq rfl ?_
  refine ev_if_pos (by simp; omega) ?_
  refine ev_bind_eq rfl ?_
  rw [List.nil_append]
  by_cases c0 : n < 0
  · refine ev_if_pos c0 (Ev.step (fun k => by rw [spec_PutNum.j0]) (ev_if_pos rfl ?_))
    rw [putNumP, if_neg (by omega)]
    exact Ev.now _
  · refine ev_if_neg c0 (Ev.step (fun k => by rw [spec_PutNum.j0]) ?_)
    by_cases c1 : n > 2147483647
    · refine ev_if_pos (decide_eq_true c1) ?_
      rw [putNumP, if_neg (by omega)]
      exact Ev.now _
    · refine ev_if_neg (by rw [decide_eq_false c1]; decide) ?_
      rw [putNumP, if_pos (by omega)]
      obtain ⟨m, rfl⟩ := Int.eq_ofNat_of_zero_le (show 0 ≤ n by omega)
      have := encNum_le (n := m) (by omega)
      exact specPut_ev m (by omega) b (by omega)

-- specputs.lean: the reference's PutText
theorem specPutText_ev (b t : List Int) (hb : b.length ≤ 140737488350000) : Ev (fun k => spec_PutText.f k b t) (putTextP b t) := by
  unfold spec_PutText.f putTextP
  by_cases c : t.length ≤ 20
  · rw [if_pos c]
    have := encNum_le (n := t.length) (by omega)
    have hp := specPutNum_ev b t.length hb
    rw [putNumP, if_pos (by omega), Int.toNat_natCast] at hp
    exact ev_if_neg (by omega) (Ev.bind hp (ev_if_pos (by rw [List.length_append]; omega) (Ev.now _)))
  · rw [if_neg c]
    exact ev_if_pos (by omega) (ev_bind_eq rfl (ev_if_pos (by simp; omega) (Ev.now _)))

-- specputs1.lean: the reference's way to write numbers and texts that have an encoding
theorem specPutNum1_ev (b : List Int) (n : Int) (h : numOk n) (hb : b.length ≤ 140737488350000) : Ev (fun k => spec_PutNum.f k b n) (b ++ encs [n]) := by
  have h1 := specPutNum_ev b n hb
  rw [putNumP, if_pos (show 0 ≤ n ∧ n ≤ 2147483647 from h)] at h1
  exact ev_of h1 (by rw [encs, encs, List.append_nil])
/-- A text with its length. -/
def txt (t : List Int) : List Int := encNum t.length ++ t
theorem txt_le (t : List Int) (h : t.length ≤ 20) : (txt t).length ≤ 25 := by
  have := encNum_le (n := t.length) (by omega)
  rw [txt, List.length_append]
  omega
theorem specPutText1_ev (b t : List Int) (h : t.length ≤ 20) (hb : b.length ≤ 140737488350000) : Ev (fun k => spec_PutText.f k b t) (b ++ txt t) := by
  have h1 := specPutText_ev b t hb
  rw [putTextP, if_pos h] at h1
  exact ev_of h1 (by rw [txt, List.append_assoc])
theorem implPutText1_ev (b t : List Int) (h : t.length ≤ 20) (hb : b.length ≤ 140737488350000) : Ev (fun k => impl_putText.f k b t) (b ++ txt t) := ev_of (implPutText_ev b t h hb) (by rw [txt, List.append_assoc])
theorem encs_append (a b : List Int) : encs (a ++ b) = encs a ++ encs b := by
  induction a with
  | nil => rfl
  | cons n l ih => rw [List.cons_append, encs, encs, ih, List.append_assoc]

-- msgbytes.lean: a message's encoding
/-- An entry's encoding. -/
def itemEnc (x : S147) : List Int := encs [x.f0, x.f1.f0 + 1, x.f1.f1, x.f1.f2.f0] ++ txt x.f1.f2.f1 ++ txt x.f1.f2.f2 ++ encs [x.f1.f2.f3]
/-- What a valid entry's numbers and texts are. -/
def itemFit (x : S147) : Prop := 1 ≤ x.f0 ∧ x.f0 ≤ 100000 ∧ -1 ≤ x.f1.f0 ∧ x.f1.f0 ≤ 3 ∧ 0 ≤ x.f1.f1 ∧ x.f1.f1 ≤ 1000000 ∧ 0 ≤ x.f1.f2.f0 ∧ x.f1.f2.f0 ≤ 7 ∧ x.f1.f2.f1.length ≤ 20 ∧ x.f1.f2.f2.length ≤ 20 ∧ 0 ≤ x.f1.f2.f3 ∧ x.f1.f2.f3 ≤ 1000000
theorem opFit (kd : Int) (key val : List Int) (n : Int) (h : opOkP kd key val n = true) : 0 ≤ kd ∧ kd ≤ 7 ∧ key.length ≤ 20 ∧ val.length ≤ 20 ∧ 0 ≤ n ∧ n ≤ 1000000 := by
  have hk : keyP key = true → key.length ≤ 20 := fun h => by
    unfold keyP at h
    rw [Bool.and_eq_true] at h
    exact (of_decide_eq_true h.1).2
  unfold opOkP at h
  have h := of_decide_eq_true h
  rcases h with ⟨a, b, c, d⟩ | ⟨a, b, c, d⟩ | ⟨a, b, c, d⟩ | ⟨a, b, c, d⟩ | ⟨a, b, c, d⟩ | ⟨a, b, c, d⟩ | ⟨a, b, c, d⟩ | ⟨a, b, c, d⟩
  all_goals first | omega | (have := hk b; omega)
theorem itemFit_of (x : S147) (h : itemOkP x.f0 x.f1.f0 x.f1.f1 x.f1.f2.f0 x.f1.f2.f1 x.f1.f2.f2 x.f1.f2.f3 = true) : itemFit x := by
  unfold itemOkP cmdOkP at h
  rw [Bool.and_eq_true, Bool.or_eq_true, Bool.and_eq_true, Bool.and_eq_true] at h
  obtain ⟨h1, h⟩ := h
  have h1 := of_decide_eq_true h1
  unfold itemFit
  rcases h with ⟨a, b⟩ | ⟨a, b⟩
  · have a := of_decide_eq_true a
    have b := opFit _ _ _ _ b
    omega
  · have a := of_decide_eq_true a
    have b := opFit _ _ _ _ b
    omega
theorem chain_fit (t : Int) (l : List S147) : ∀ p, chainOk t p l = true → ∀ x ∈ l, itemFit x := by
  induction l with
  | nil => intro p _ x hx; cases hx
  | cons y ys ih =>
    intro p h x hx
    rw [chainOk_cons, Bool.and_eq_true, Bool.and_eq_true] at h
    rcases List.mem_cons.1 hx with rfl | hx
    · exact itemFit_of _ h.1
    · exact ih _ h.2.2 x hx
theorem nums4 {a b c d : Int} (h1 : numOk a) (h2 : numOk b) (h3 : numOk c) (h4 : numOk d) : ∀ n ∈ [a, b, c, d], numOk n := by
  intro n hn
  simp only [List.mem_cons, List.not_mem_nil, or_false] at hn
  rcases hn with rfl | rfl | rfl | rfl <;> assumption
theorem nums2 {a b : Int} (h1 : numOk a) (h2 : numOk b) : ∀ n ∈ [a, b], numOk n := by
  intro n hn
  simp only [List.mem_cons, List.not_mem_nil, or_false] at hn
  rcases hn with rfl | rfl <;> assumption
theorem nums1 {a : Int} (h1 : numOk a) : ∀ n ∈ [a], numOk n := by
  intro n hn
  simp only [List.mem_cons, List.not_mem_nil, or_false] at hn
  rcases hn with rfl
  assumption
theorem encs1_le {a : Int} (h : numOk a) : (encs [a]).length ≤ 5 := encs_le [a] (nums1 h)
theorem encs2_le {a b : Int} (h1 : numOk a) (h2 : numOk b) : (encs [a, b]).length ≤ 10 := encs_le _ (nums2 h1 h2)
theorem encs4_le {a b c d : Int} (h1 : numOk a) (h2 : numOk b) (h3 : numOk c) (h4 : numOk d) : (encs [a, b, c, d]).length ≤ 20 := encs_le _ (nums4 h1 h2 h3 h4)
theorem item_nums (x : S147) (h : itemFit x) : numOk x.f0 ∧ numOk (x.f1.f0 + 1) ∧ numOk x.f1.f1 ∧ numOk x.f1.f2.f0 ∧ numOk x.f1.f2.f3 := by
  unfold itemFit at h
  unfold numOk
  omega
theorem itemEnc_le (x : S147) (h : itemFit x) : (itemEnc x).length ≤ 75 := by
  obtain ⟨n1, n2, n3, n4, n5⟩ := item_nums x h
  unfold itemFit at h
  have a1 := encs4_le n1 n2 n3 n4
  have a2 := encs1_le n5
  have a3 := txt_le x.f1.f2.f1 (by omega)
  have a4 := txt_le x.f1.f2.f2 (by omega)
  unfold itemEnc
  simp only [List.length_append]
  omega
theorem items_le (l : List S147) (h : ∀ x ∈ l, itemFit x) : ((l.map itemEnc).flatten).length ≤ 75 * l.length := by
  induction l with
  | nil => simp
  | cons x xs ih =>
    have h1 := itemEnc_le x (h x (List.mem_cons_self ..))
    have h2 := ih (fun y hy => h y (List.mem_cons_of_mem _ hy))
    rw [List.map_cons, List.flatten_cons, List.length_append, List.length_cons]
    omega
theorem implItems_loop (l : List S147) (hl : l.length ≤ 4) (hk : ∀ x ∈ l, itemFit x) (d : Nat) : ∀ (i : Nat) (b : List Int), i ≤ l.length → l.length - i = d → b.length + 100 * d ≤ 100000 →
    Ev (fun k => impl_msgBytes.l0 k l (l.length : Int) (i : Int) b) (b ++ ((l.drop i).map itemEnc).flatten) := by
  induction d with
  | zero =>
    intro i b hi hd hb
    refine Ev.step (fun k => by rw [impl_msgBytes.l0]) (ev_if_neg (by omega) (ev_done ?_))
    rw [List.drop_of_length_le (by omega)]
    simp
  | succ d ih =>
    intro i b hi hd hb
    have hi' : i < l.length := by omega
    have hm := hk l[i] (List.getElem_mem hi')
    obtain ⟨n1, n2, n3, n4, n5⟩ := item_nums _ hm
    have he := itemEnc_le _ hm
    have hm' := hm
    unfold itemFit at hm'
    have a1 := encs4_le n1 n2 n3 n4
    have a3 := txt_le l[i].f1.f2.f1 (by omega)
    have a4 := txt_le l[i].f1.f2.f2 (by omega)
    have h := ih (i + 1) (b ++ itemEnc l[i]) (by omega) (by omega) (by rw [List.length_append]; omega)
    refine Ev.step (fun k => by rw [impl_msgBytes.l0]) ?_
    rw [rd_T54_get l i hi', List.drop_eq_getElem_cons hi', w64 (x := (i : Int) + 1) (by omega) (by omega), w64 (x := l[i].f1.f0 + 1) (by omega) (by omega), List.map_cons, List.flatten_cons, ← List.append_assoc]
    refine ev_if_pos (by omega) (ev_if_pos (by omega) (ev_if_pos (by omega) ?_))
    rw [Int.natCast_add, Int.natCast_one] at h
    refine Ev.bind (vput_ev _ (nums4 n1 n2 n3 n4) b (by simp; omega)) ?_
    refine Ev.bind (implPutText1_ev _ _ (by omega) (by rw [List.length_append]; omega)) ?_
    refine Ev.bind (implPutText1_ev _ _ (by omega) (by rw [List.length_append, List.length_append]; omega)) ?_
    refine Ev.bind (ev_of (b := b ++ itemEnc l[i]) (vput_ev _ (nums1 n5) _ (by simp only [List.length_append, List.length_cons, List.length_nil]; omega)) (by simp only [itemEnc, List.append_assoc])) ?_
    exact h
theorem specItem_ev (x : S147) (hm : itemFit x) (b : List Int) (hb : b.length ≤ 100000) : Ev (fun k => spec_l3item.f k b x.f0 x.f1.f0 x.f1.f1 x.f1.f2.f0 x.f1.f2.f1 x.f1.f2.f2 x.f1.f2.f3) (b ++ itemEnc x) := by
  obtain ⟨n1, n2, n3, n4, n5⟩ := item_nums _ hm
  unfold itemFit at hm
  have a1 := encs1_le n1
  have a2 := encs1_le n2
  have a3 := encs1_le n3
  have a4 := encs1_le n4
  have a5 := txt_le x.f1.f2.f1 (by omega)
  have a6 := txt_le x.f1.f2.f2 (by omega)
  unfold spec_l3item.f spec_l3op.f
  rw [w64 (x := x.f1.f0 + 1) (by omega) (by omega)]
  refine Ev.bind (specPutNum1_ev _ _ n1 (by omega)) (Ev.bind (specPutNum1_ev _ _ n2 (by simp only [List.length_append]; omega)) (Ev.bind (specPutNum1_ev _ _ n3 (by simp only [List.length_append]; omega)) (Ev.bind (a := b ++ itemEnc x) ?_ (Ev.now _))))
  refine Ev.bind (specPutNum1_ev _ _ n4 (by simp only [List.length_append]; omega)) (Ev.bind (specPutText1_ev _ _ (by omega) (by simp only [List.length_append]; omega)) (Ev.bind (specPutText1_ev _ _ (by omega) (by simp only [List.length_append]; omega)) (Ev.bind (specPutNum1_ev _ _ n5 (by simp only [List.length_append]; omega)) (ev_done ?_))))
  simp only [itemEnc, encs, List.append_assoc, List.append_nil]
theorem specItems_loop (kd fr dst t ix lt : Int) (l : List S147) (cm : Int) (ok : Bool) (hl : l.length ≤ 4) (hk : ∀ x ∈ l, itemFit x) (d : Nat) : ∀ (i : Nat) (b : List Int), i ≤ l.length → l.length - i = d → b.length + 100 * d ≤ 100000 →
    Ev (fun k => spec_l3bytes.l0 k b (i : Int) kd fr dst t ix lt l cm ok) (b ++ ((l.drop i).map itemEnc).flatten) := by
  induction d with
  | zero =>
    intro i b hi hd hb
    refine Ev.step (fun k => by rw [spec_l3bytes.l0]) (ev_if_neg (by omega) (ev_done ?_))
    rw [List.drop_of_length_le (by omega)]
    simp
  | succ d ih =>
    intro i b hi hd hb
    have hi' : i < l.length := by omega
    have hm := hk l[i] (List.getElem_mem hi')
    have he := itemEnc_le _ hm
    have h := ih (i + 1) (b ++ itemEnc l[i]) (by omega) (by omega) (by rw [List.length_append]; omega)
    refine Ev.step (fun k => by rw [spec_l3bytes.l0]) ?_
    rw [rd_T54_get l i hi', List.drop_eq_getElem_cons hi', w64 (x := (i : Int) + 1) (by omega) (by omega), List.map_cons, List.flatten_cons, ← List.append_assoc]
    rw [Int.natCast_add, Int.natCast_one] at h
    exact ev_if_pos (by omega) (ev_if_pos (by omega) (Ev.bind (specItem_ev _ hm b (by omega)) h))
/-- A message's encoding. -/
def msgEnc (kd fr dst t ix lt : Int) (l : List S147) (cm : Int) (ok : Bool) : List Int :=
  encs [kd, fr, dst, t] ++ (if kd = 0 then encs [ix, lt] else if kd = 1 then encs [if ok then 1 else 0] else if kd = 3 then encs [ix, if ok then 1 else 0] else encs [ix, lt, cm, (l.length : Int)] ++ (l.map itemEnc).flatten)
theorem truth_eq (b : Bool) : impl_truth.f b = some (if b then 1 else 0) := by cases b <;> rfl
theorem numOk_b (b : Bool) : numOk (if b then 1 else 0) := by cases b <;> exact ⟨by decide, by decide⟩
theorem implMsgBytes_ev (kd fr dst t ix lt : Int) (l : List S147) (cm : Int) (ok : Bool) (h : msgP kd fr dst t ix lt l.length cm ok = true) (hk : ∀ x ∈ l, itemFit x) :
    Ev (fun k => impl_msgBytes.f k kd fr dst t ix lt l cm ok) (msgEnc kd fr dst t ix lt l cm ok) := by
  unfold msgP at h
  have h := of_decide_eq_true h
  have m1 : numOk kd := ⟨by omega, by omega⟩
  have m2 : numOk fr := ⟨by omega, by omega⟩
  have m3 : numOk dst := ⟨by omega, by omega⟩
  have m4 : numOk t := ⟨by omega, by omega⟩
  have m5 : numOk ix := ⟨by omega, by omega⟩
  have m6 : numOk lt := ⟨by omega, by omega⟩
  have m7 : numOk cm := ⟨by omega, by omega⟩
  have m8 : numOk (l.length : Int) := ⟨by omega, by omega⟩
  have a1 := encs4_le m1 m2 m3 m4
  have a2 := encs4_le m5 m6 m7 m8
  unfold impl_msgBytes.f msgEnc
  refine Ev.bind (ev_of (b := encs [kd, fr, dst, t]) (vput_ev _ (nums4 m1 m2 m3 m4) [] (by simp)) (List.nil_append _)) ?_
  by_cases c0 : kd = 0
  · rw [if_pos c0]
    exact ev_if_pos c0 (Ev.bind (vput_ev _ (nums2 m5 m6) _ (by simp; omega)) (Ev.now _))
  rw [if_neg c0]
  refine ev_if_neg c0 ?_
  by_cases c1 : kd = 1
  · rw [if_pos c1]
    exact ev_if_pos c1 (ev_bind_eq (truth_eq ok) (Ev.bind (vput_ev _ (nums1 (numOk_b ok)) _ (by simp; omega)) (Ev.now _)))
  rw [if_neg c1]
  refine ev_if_neg c1 ?_
  by_cases c3 : kd = 3
  · rw [if_pos c3]
    exact ev_if_pos c3 (ev_bind_eq (truth_eq ok) (Ev.bind (vput_ev _ (nums2 m5 (numOk_b ok)) _ (by simp; omega)) (Ev.now _)))
  rw [if_neg c3]
  refine ev_if_neg c3 (Ev.bind (vput_ev _ (nums4 m5 m6 m7 m8) _ (by simp; omega)) ?_)
  have hL := implItems_loop l (by omega) hk l.length 0 (encs [kd, fr, dst, t] ++ encs [ix, lt, cm, (l.length : Int)]) (by omega) (by omega) (by rw [List.length_append]; omega)
  rw [List.drop_zero, List.append_assoc] at hL
  exact hL
theorem specMsgBytes_ev (kd fr dst t ix lt : Int) (l : List S147) (cm : Int) (ok : Bool) (h : msgP kd fr dst t ix lt l.length cm ok = true) (hk : ∀ x ∈ l, itemFit x) :
    Ev (fun k => spec_l3bytes.f k kd fr dst t ix lt l cm ok) (msgEnc kd fr dst t ix lt l cm ok) := by
  unfold msgP at h
  have h := of_decide_eq_true h
  have m1 : numOk kd := ⟨by omega, by omega⟩
  have m2 : numOk fr := ⟨by omega, by omega⟩
  have m3 : numOk dst := ⟨by omega, by omega⟩
  have m4 : numOk t := ⟨by omega, by omega⟩
  have m5 : numOk ix := ⟨by omega, by omega⟩
  have m6 : numOk lt := ⟨by omega, by omega⟩
  have m7 : numOk cm := ⟨by omega, by omega⟩
  have m8 : numOk (l.length : Int) := ⟨by omega, by omega⟩
  have a1 := encs1_le m1
  have a2 := encs1_le m2
  have a3 := encs1_le m3
  have a4 := encs1_le m4
  have a5 := encs1_le m5
  have a6 := encs1_le m6
  have a7 := encs1_le m7
  have a8 := encs1_le m8
  have b4 := encs4_le m1 m2 m3 m4
  have b5 := encs4_le m5 m6 m7 m8
  unfold spec_l3bytes.f msgEnc
  refine Ev.bind (specPutNum1_ev _ _ m1 (by simp)) (Ev.bind (specPutNum1_ev _ _ m2 (by simp only [List.length_append, List.length_nil]; omega)) (Ev.bind (specPutNum1_ev _ _ m3 (by simp only [List.length_append, List.length_nil]; omega)) (Ev.bind (ev_of (b := encs [kd, fr, dst, t]) (specPutNum1_ev _ _ m4 (by simp only [List.length_append, List.length_nil]; omega)) (by simp only [encs, List.append_assoc, List.append_nil, List.nil_append])) ?_)))
  have j1 : ∀ b : List Int, b.length ≤ 1000 → Ev (fun k => spec_l3bytes.j1 k b kd fr dst t ix lt l cm ok) (b ++ encs [if ok then 1 else 0]) := by
    intro b hb
    refine Ev.step (fun k => by rw [spec_l3bytes.j1]) ?_
    cases ok with
    | true => exact ev_if_pos rfl (Ev.bind (specPutNum1_ev _ _ (numOk_b true) (by omega)) (Ev.now _))
    | false => exact ev_if_neg (by simp) (Ev.bind (specPutNum1_ev _ _ (numOk_b false) (by omega)) (Ev.now _))
  by_cases c0 : kd = 0
  · rw [if_pos c0]
    exact ev_if_pos c0 (Ev.bind (specPutNum1_ev _ _ m5 (by omega)) (Ev.bind (specPutNum1_ev _ _ m6 (by simp only [List.length_append]; omega)) (ev_done (by simp only [encs, List.append_assoc, List.append_nil]))))
  rw [if_neg c0]
  refine ev_if_neg c0 ?_
  by_cases c2 : kd = 2
  · rw [if_neg (by omega), if_neg (by omega)]
    refine ev_if_pos c2 (Ev.bind (specPutNum1_ev _ _ m5 (by omega)) (Ev.bind (specPutNum1_ev _ _ m6 (by simp only [List.length_append]; omega)) (Ev.bind (specPutNum1_ev _ _ m7 (by simp only [List.length_append]; omega)) (Ev.bind (ev_of (b := encs [kd, fr, dst, t] ++ encs [ix, lt, cm, (l.length : Int)]) (specPutNum1_ev _ _ m8 (by simp only [List.length_append]; omega)) (by simp only [encs, List.append_assoc, List.append_nil])) ?_))))
    have hL := specItems_loop kd fr dst t ix lt l cm ok (by omega) hk l.length 0 (encs [kd, fr, dst, t] ++ encs [ix, lt, cm, (l.length : Int)]) (by omega) (by omega) (by rw [List.length_append]; omega)
    rw [List.drop_zero, List.append_assoc] at hL
    exact hL
  refine ev_if_neg c2 ?_
  by_cases c3 : kd = 3
  · rw [if_neg (by omega), if_pos c3]
    exact ev_if_pos c3 (Ev.bind (specPutNum1_ev _ _ m5 (by omega)) (ev_of (j1 _ (by simp only [List.length_append]; omega)) (by simp only [encs, List.append_assoc, List.append_nil])))
  rw [if_pos (by omega)]
  exact ev_if_neg c3 (j1 _ (by omega))
theorem msgEnc_le (kd fr dst t ix lt : Int) (l : List S147) (cm : Int) (ok : Bool) (h : msgP kd fr dst t ix lt l.length cm ok = true) (hk : ∀ x ∈ l, itemFit x) : (msgEnc kd fr dst t ix lt l cm ok).length ≤ 1000 := by
  unfold msgP at h
  have h := of_decide_eq_true h
  have m1 : numOk kd := ⟨by omega, by omega⟩
  have m2 : numOk fr := ⟨by omega, by omega⟩
  have m3 : numOk dst := ⟨by omega, by omega⟩
  have m4 : numOk t := ⟨by omega, by omega⟩
  have m5 : numOk ix := ⟨by omega, by omega⟩
  have m6 : numOk lt := ⟨by omega, by omega⟩
  have m7 : numOk cm := ⟨by omega, by omega⟩
  have m8 : numOk (l.length : Int) := ⟨by omega, by omega⟩
  have b4 := encs4_le m1 m2 m3 m4
  have b5 := encs4_le m5 m6 m7 m8
  have b6 := encs2_le m5 m6
  have b7 := encs1_le (numOk_b ok)
  have b8 := encs2_le m5 (numOk_b ok)
  have b9 := items_le l hk
  unfold msgEnc
  rw [List.length_append]
  split
  · omega
  split
  · omega
  split
  · omega
  rw [List.length_append]
  omega
theorem msgs_both (kd fr dst t ix lt : Int) (l : List S147) (cm : Int) (ok : Bool) (hn : l.length ≤ 1048576) (hk : ∀ x ∈ l, fitItem x) : ∃ r : List Int × Bool, r.1.length ≤ 1048576 ∧ Ev (fun k => spec_MsgBytes.f k kd fr dst t ix lt l cm ok) r ∧ Ev (fun k => impl_MsgBytes.f k kd fr dst t ix lt l cm ok) r := by
  have e1 := specMsgOk_ev kd fr dst t ix lt l cm ok hn hk
  have e2 := implMsgOk_ev kd fr dst t ix lt l cm ok hn hk
  unfold spec_MsgBytes.f impl_MsgBytes.f
  cases hv : (msgP kd fr dst t ix lt l.length cm ok && chainOk t lt l) with
  | false =>
    rw [hv] at e1 e2
    exact ⟨([], false), by simp, Ev.bind e1 (ev_if_neg (by simp) (Ev.now _)), Ev.bind e2 (ev_if_neg (by simp) (Ev.now _))⟩
  | true =>
    rw [hv] at e1 e2
    rw [Bool.and_eq_true] at hv
    have hf := chain_fit t l lt hv.2
    have hb := msgEnc_le kd fr dst t ix lt l cm ok hv.1 hf
    exact ⟨(msgEnc kd fr dst t ix lt l cm ok, true), by show (msgEnc kd fr dst t ix lt l cm ok).length ≤ 1048576; omega, Ev.bind e1 (ev_if_pos rfl (Ev.bind (specMsgBytes_ev kd fr dst t ix lt l cm ok hv.1 hf) (Ev.now _))), Ev.bind e2 (ev_if_pos rfl (Ev.bind (implMsgBytes_ev kd fr dst t ix lt l cm ok hv.1 hf) (Ev.now _)))⟩

-- small.lean
theorem bool_ne_self (b : Bool) : ¬ ((b != b) = true) := by cases b <;> decide

end Go.Proofs.Ytdgegnakiljfjaa.Pure
