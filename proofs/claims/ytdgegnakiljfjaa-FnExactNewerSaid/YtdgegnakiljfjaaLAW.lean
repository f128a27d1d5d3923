import Derived.Test.YtdgegnakiljfjaaPWx0
import Derived.Test.YtdgegnakiljfjaaPWx1
import Derived.Test.YtdgegnakiljfjaaPWx10
import Derived.Test.YtdgegnakiljfjaaPWx11
import Derived.Test.YtdgegnakiljfjaaPWx2
import Derived.Test.YtdgegnakiljfjaaPWx3
import Derived.Test.YtdgegnakiljfjaaPWx4
import Derived.Test.YtdgegnakiljfjaaPWx5
import Derived.Test.YtdgegnakiljfjaaPWx6
import Derived.Test.YtdgegnakiljfjaaPWx7
import Derived.Test.YtdgegnakiljfjaaPWx8
import Derived.Test.YtdgegnakiljfjaaPWx9
import Derived.Lib.Bytes
namespace Go.Proofs.Ytdgegnakiljfjaa.Pure
open Go.RowKit Go.Proofs.Ytdgegnakiljfjaa.PW Go.Proofs.YtdgegnakiljfjaaW.PrintWords Go.Proofs.YtdgegnakiljfjaaW.PrintLast Go.Proofs.YtdgegnakiljfjaaW.PrintMore
set_option linter.unusedVariables false
set_option linter.unusedSimpArgs false
theorem w64 {x : Int} (h0 : -9223372036854775808 ≤ x) (h1 : x ≤ 9223372036854775807) : wrap64 x = x := by
  unfold wrap64
  omega
theorem ev_if_pos {α : Type} {c : Prop} [Decidable c] {g f : Nat → Option α} {r : α} (h : c) (k : Ev g r) : Ev (fun n => if c then g n else f n) r := by
  simp only [if_pos h]
  exact k
theorem ev_if_neg {α : Type} {c : Prop} [Decidable c] {g f : Nat → Option α} {r : α} (h : ¬ c) (k : Ev f r) : Ev (fun n => if c then g n else f n) r := by
  simp only [if_neg h]
  exact k
theorem ev_bind_eq {α β : Type} {g : Option α} {f : Nat → α → Option β} {a : α} {r : β} (h : g = some a) (k : Ev (fun n => f n a) r) : Ev (fun n => g.bind (f n)) r := by
  subst h
  exact k
theorem rd_nat (l : List Int) (i : Nat) : rd l (i : Int) = l.getD i 0 := by
  unfold rd
  rw [Int.toNat_natCast]
theorem rd_get (l : List Int) (i : Nat) (h : i < l.length) : rd l (i : Int) = l[i] := by
  rw [rd_nat, List.getD_eq_getElem?_getD, List.getElem?_eq_getElem h]
  rfl
theorem take_set_succ {α : Type} (x l : List α) (i : Nat) (v : α) (hx : i < x.length) (hl : i < l.length) (h : x.take i = l.take i) (hv : v = l[i]) : (x.set i v).take (i + 1) = l.take (i + 1) := by
  rw [List.take_succ_eq_append_getElem (by simpa using hx), List.take_succ_eq_append_getElem hl, List.take_set_of_le (Nat.le_refl i), h, List.getElem_set_self, hv]
theorem eq_of_take {α : Type} {x l : List α} {n : Nat} (hx : x.length = n) (hl : l.length = n) (h : x.take n = l.take n) : x = l := by
  rw [List.take_of_length_le (by omega), List.take_of_length_le (by omega)] at h
  exact h
/-- What the marks are: k, k + 1, .. as bytes. -/
def marks (k : Int) (n : Nat) : List Int := (List.range n).map fun (j : Nat) => (k + (j : Int)) % 256
theorem marks_length (k : Int) (n : Nat) : (marks k n).length = n := by simp [marks]
theorem marks_get (k : Int) (n i : Nat) (h : i < (marks k n).length) : (marks k n)[i] = (k + (i : Int)) % 256 := by simp [marks]
theorem wf_u8 {n : Int} (h : (Lit.int .u8 n).wf = true) : 0 ≤ n ∧ n ≤ 255 := by
  simp [Lit.wf, IntKind.min, IntKind.max, IntKind.signed, IntKind.bits] at h
  omega
theorem wf_i64 {n : Int} (h : (Lit.int .i64 n).wf = true) : -9223372036854775808 ≤ n ∧ n ≤ 9223372036854775807 := by
  simp [Lit.wf, IntKind.min, IntKind.max, IntKind.signed, IntKind.bits] at h
  omega
theorem ev_ite {α : Type} {c : Prop} [Decidable c] {g f : Nat → Option α} {r : α} (h : c → Ev g r) (h' : ¬ c → Ev f r) : Ev (fun n => if c then g n else f n) r := by
  by_cases hc : c
  · exact ev_if_pos hc (h hc)
  · exact ev_if_neg hc (h' hc)
theorem ev_done {α : Type} {a b : α} (h : a = b) : Ev (fun _ => some a) b := h ▸ Ev.now a
theorem ev_of {α : Type} {g : Nat → Option α} {a b : α} (h : Ev g a) (e : a = b) : Ev g b := e ▸ h

-- bytesequal.lean
theorem bytesEqual_eq (a b : List Int) : bytes_Equal.f a b = some ((strOfNums a).toList == (strOfNums b).toList) := rfl

-- bytes.lean: the law package's helpers on bytes
theorem toByteS_loop (l : List Int) (hn : l.length ≤ 140737488351232) (d : Nat) : ∀ (x : List Int) (i : Nat), x.length = l.length → i ≤ l.length → l.length - i = d → x.take i = l.take i → Ev (fun k => laws_toByteS.l0 k l x (i : Int)) l := by
  induction d with
  | zero =>
    intro x i hx hi hd ht
    refine Ev.step (fun k => by rw [laws_toByteS.l0]) ?_
    refine ev_if_neg (by omega) ?_
    obtain rfl : i = l.length := by omega
    rw [eq_of_take hx rfl ht]
    exact Ev.now _
  | succ d ih =>
    intro x i hx hi hd ht
    refine Ev.step (fun k => by rw [laws_toByteS.l0]) ?_
    refine ev_if_pos (by omega) (ev_if_pos (by omega) (ev_if_pos (by omega) ?_))
    have h := ih (x.set i (rd l (i : Int))) (i + 1) (by rw [List.length_set]; exact hx) (by omega) (by omega) (take_set_succ x l i _ (by omega) (by omega) ht (rd_get l i (by omega)))
    rw [w64 (by omega) (by omega), Int.toNat_natCast]
    rw [Int.natCast_add, Int.natCast_one] at h
    exact h
theorem toByteS_ev (l : List Int) (hn : l.length ≤ 140737488351232) : Ev (fun k => laws_toByteS.f k l) l := by
  unfold laws_toByteS.f
  refine ev_if_pos (by omega) (ev_if_pos (by omega) ?_)
  exact toByteS_loop l hn l.length _ 0 (by rw [List.length_replicate, Int.toNat_natCast]) (by omega) (by omega) rfl
theorem eqByteS_loop (a b : List Int) (hn : a.length ≤ 140737488351232) (hab : a.length = b.length) (d : Nat) : ∀ (i : Nat), i ≤ a.length → a.length - i = d → a.take i = b.take i → Ev (fun k => laws_eqByteS.l0 k a b (i : Int)) (decide (a = b)) := by
  induction d with
  | zero =>
    intro i hi hd ht
    refine Ev.step (fun k => by rw [laws_eqByteS.l0]) ?_
    refine ev_if_neg (by omega) ?_
    obtain rfl : i = a.length := by omega
    rw [decide_eq_true (eq_of_take rfl hab.symm ht)]
    exact Ev.now _
  | succ d ih =>
    intro i hi hd ht
    refine Ev.step (fun k => by rw [laws_eqByteS.l0]) ?_
    refine ev_if_pos (by omega) (ev_if_pos (by omega) (ev_if_pos (by omega) ?_))
    by_cases e : rd a (i : Int) = rd b (i : Int)
    · refine ev_if_pos e ?_
      have h := ih (i + 1) (by omega) (by omega) (by
        rw [rd_get a i (by omega), rd_get b i (by omega)] at e
        rw [List.take_succ_eq_append_getElem (by omega), List.take_succ_eq_append_getElem (by omega), ht, e])
      rw [w64 (by omega) (by omega)]
      rw [Int.natCast_add, Int.natCast_one] at h
      exact h
    · refine ev_if_neg e ?_
      rw [decide_eq_false (fun h => e (by rw [h]))]
      exact Ev.now _
theorem eqByteS_ev (a b : List Int) (hn : a.length ≤ 140737488351232) : Ev (fun k => laws_eqByteS.f k a b) (decide (a = b)) := by
  by_cases hab : a.length = b.length
  · unfold laws_eqByteS.f
    refine ev_if_pos (by omega) ?_
    exact eqByteS_loop a b hn hab a.length 0 (by omega) (by omega) rfl
  · unfold laws_eqByteS.f
    refine ev_if_neg (by omega) ?_
    rw [decide_eq_false (fun h => hab (by rw [h]))]
    exact Ev.now _
theorem eqByteS_self (a : List Int) (hn : a.length ≤ 140737488351232) : Ev (fun k => laws_eqByteS.f k a a) true := by
  have h := eqByteS_ev a a hn
  rw [decide_eq_true rfl] at h
  exact h

-- keyok.lean: what a key is
/-- The bytes of keys: letters and '/'. -/
def keyByte (c : Int) : Bool := decide ((97 ≤ c ∧ c ≤ 122) ∨ c = 47)
def keyP (l : List Int) : Bool := decide (1 ≤ l.length ∧ l.length ≤ 20) && l.all keyByte
theorem drop_cons (l : List Int) (i : Nat) (h : i < l.length) : l.drop i = rd l (i : Int) :: l.drop (i + 1) := by
  rw [rd_get l i h]
  exact List.drop_eq_getElem_cons h
theorem specKey_loop (l : List Int) (hn : l.length ≤ 140737488351232) (d : Nat) : ∀ (i : Nat), i ≤ l.length → l.length - i = d → Ev (fun k => spec_l2key.l0 k l (i : Int)) ((l.drop i).all keyByte) := by
  induction d with
  | zero =>
    intro i hi hd
    refine Ev.step (fun k => by rw [spec_l2key.l0]) ?_
    refine ev_if_neg (by omega) ?_
    rw [List.drop_of_length_le (by omega)]
    exact Ev.now _
  | succ d ih =>
    intro i hi hd
    have h := ih (i + 1) (by omega) (by omega)
    rw [Int.natCast_add, Int.natCast_one] at h
    rw [drop_cons l i (by omega), List.all_cons]
    refine Ev.step (fun k => by rw [spec_l2key.l0]) ?_
    rw [w64 (by omega) (by omega)]
    refine ev_if_pos (by omega) (ev_if_pos (by omega) ?_)
    by_cases c1 : rd l (i : Int) < 97
    · refine ev_if_pos c1 ?_
      by_cases c2 : rd l (i : Int) = 47
      · refine ev_if_pos c2 ?_
        rw [show keyByte (rd l (i : Int)) = true from decide_eq_true (.inr c2), Bool.true_and]
        exact h
      · refine ev_if_neg c2 ?_
        rw [show keyByte (rd l (i : Int)) = false from decide_eq_false (by omega), Bool.false_and]
        exact Ev.now _
    · refine ev_if_neg c1 ?_
      by_cases c3 : rd l (i : Int) > 122
      · refine ev_if_pos c3 ?_
        refine ev_if_neg (by omega) ?_
        rw [show keyByte (rd l (i : Int)) = false from decide_eq_false (by omega), Bool.false_and]
        exact Ev.now _
      · refine ev_if_neg c3 ?_
        rw [show keyByte (rd l (i : Int)) = true from decide_eq_true (by omega), Bool.true_and]
        exact h
theorem specKey_ev (l : List Int) (hn : l.length ≤ 140737488351232) : Ev (fun k => spec_l2key.f k l) (keyP l) := by
  unfold spec_l2key.f
  by_cases c : (l.length : Int) < 1
  · refine ev_if_pos c ?_
    refine Ev.step (fun k => by rw [spec_l2key.j0]) ?_
    refine ev_if_pos rfl ?_
    rw [show keyP l = false from by unfold keyP; rw [decide_eq_false (by omega), Bool.false_and]]
    exact Ev.now _
  · refine ev_if_neg c ?_
    refine Ev.step (fun k => by rw [spec_l2key.j0]) ?_
    by_cases c2 : (l.length : Int) > 20
    · refine ev_if_pos (decide_eq_true c2) ?_
      rw [show keyP l = false from by unfold keyP; rw [decide_eq_false (by omega), Bool.false_and]]
      exact Ev.now _
    · refine ev_if_neg (by rw [decide_eq_false c2]; decide) ?_
      rw [show keyP l = l.all keyByte from by unfold keyP; rw [decide_eq_true (by omega), Bool.true_and]]
      exact specKey_loop l hn l.length 0 (by omega) (by omega)
theorem implKey_loop (l : List Int) (hn : l.length ≤ 140737488351232) (d : Nat) : ∀ (i : Nat), i ≤ l.length → l.length - i = d → Ev (fun k => impl_KeyOk.l0 k l l (l.length : Int) (i : Int)) (decide (1 ≤ l.length ∧ l.length ≤ 20) && (l.drop i).all keyByte) := by
  induction d with
  | zero =>
    intro i hi hd
    refine Ev.step (fun k => by rw [impl_KeyOk.l0]) ?_
    refine ev_if_neg (by omega) ?_
    rw [List.drop_of_length_le (by omega), List.all_nil, Bool.and_true]
    unfold impl_within.f
    by_cases c : 1 ≤ (l.length : Int)
    · rw [if_pos c, decide_eq_decide.mpr (show (1 ≤ l.length ∧ l.length ≤ 20) ↔ ((l.length : Int) ≤ 20) by omega)]
      exact Ev.now _
    · rw [if_neg c, decide_eq_false (by omega)]
      exact Ev.now _
  | succ d ih =>
    intro i hi hd
    have h := ih (i + 1) (by omega) (by omega)
    rw [Int.natCast_add, Int.natCast_one] at h
    rw [drop_cons l i (by omega), List.all_cons]
    refine Ev.step (fun k => by rw [impl_KeyOk.l0]) ?_
    rw [w64 (by omega) (by omega)]
    refine ev_if_pos (by omega) (ev_if_pos (by omega) (ev_if_pos (by omega) ?_))
    by_cases c1 : rd l (i : Int) < 97
    · refine ev_if_pos c1 ?_
      by_cases c2 : rd l (i : Int) = 47
      · refine ev_if_pos c2 ?_
        rw [show keyByte (rd l (i : Int)) = true from decide_eq_true (.inr c2), Bool.true_and]
        exact h
      · refine ev_if_neg c2 ?_
        rw [show keyByte (rd l (i : Int)) = false from decide_eq_false (by omega), Bool.false_and, Bool.and_false]
        exact Ev.now _
    · refine ev_if_neg c1 ?_
      by_cases c3 : rd l (i : Int) > 122
      · refine ev_if_pos c3 ?_
        refine ev_if_neg (by omega) ?_
        rw [show keyByte (rd l (i : Int)) = false from decide_eq_false (by omega), Bool.false_and, Bool.and_false]
        exact Ev.now _
      · refine ev_if_neg c3 ?_
        rw [show keyByte (rd l (i : Int)) = true from decide_eq_true (by omega), Bool.true_and]
        exact h
theorem implKey_ev (l : List Int) (hn : l.length ≤ 140737488351232) : Ev (fun k => impl_KeyOk.f k l) (keyP l) :=
  implKey_loop l hn l.length 0 (by omega) (by omega)

-- sizes.lean: how much an argument holds
theorem szByteS_eq (l : List Int) (left : Int) (h0 : 0 ≤ left) (h1 : left ≤ 1048576) (hl : l.length ≤ maxLen) : ∃ r, laws_szByteS.f l left = some r ∧ (0 ≤ r → r ≤ left ∧ (l.length : Int) ≤ left) := by
  unfold laws_szByteS.f
  unfold maxLen at hl
  rw [w64 (by omega) (by omega)]
  by_cases c : left - (l.length : Int) < 0
  · rw [if_pos c]
    exact ⟨-1, rfl, fun h => absurd h (by decide)⟩
  · rw [if_neg c]
    exact ⟨_, rfl, fun _ => ⟨by omega, by omega⟩⟩
theorem szByteS_eq2 (l : List Int) (left : Int) (h0 : 0 ≤ left) (h1 : left ≤ 1048576) (hl : l.length ≤ maxLen) : ∃ r, laws_szByteS.f l left = some r ∧ (0 ≤ r → r + (l.length : Int) = left) := by
  unfold laws_szByteS.f
  unfold maxLen at hl
  rw [w64 (by omega) (by omega)]
  by_cases c : left - (l.length : Int) < 0
  · rw [if_pos c]
    exact ⟨-1, rfl, fun h => absurd h (by decide)⟩
  · rw [if_neg c]
    exact ⟨_, rfl, fun _ => by omega⟩

-- within.lean
theorem within_eq (a b c : Int) : impl_within.f a b c = some (decide (b ≤ a ∧ a ≤ c)) := by
  unfold impl_within.f
  by_cases h : b ≤ a
  · rw [if_pos h]
    by_cases h2 : a ≤ c
    · rw [decide_eq_true h2, decide_eq_true ⟨h, h2⟩]
    · rw [decide_eq_false h2, decide_eq_false (fun z => h2 z.2)]
  · rw [if_neg h, decide_eq_false (fun z => h z.1)]

-- ops.lean: what an operation is
theorem isValue_eq (l : List Int) : impl_isValue.f l = some (decide (l.length ≤ 20)) := by
  unfold impl_isValue.f
  rw [decide_eq_decide.mpr (show ((l.length : Int) ≤ 20) ↔ l.length ≤ 20 by omega)]
theorem l2val_eq (l : List Int) : spec_l2val.f l = some (decide (l.length ≤ 20)) := by
  unfold spec_l2val.f
  rw [decide_eq_decide.mpr (show ((l.length : Int) ≤ 20) ↔ l.length ≤ 20 by omega)]
theorem l2index_eq (n : Int) : spec_l2index.f n = some (decide (0 ≤ n ∧ n ≤ 1000000)) := by
  unfold spec_l2index.f
  by_cases c : n ≥ 0
  · rw [if_pos c, decide_eq_decide.mpr (show (n ≤ 1000000) ↔ (0 ≤ n ∧ n ≤ 1000000) by omega)]
  · rw [if_neg c, decide_eq_false (by omega)]
/-- A valid operation. -/
def opOkP (k : Int) (key val : List Int) (n : Int) : Bool :=
  decide ((k = 0 ∧ key.length = 0 ∧ val.length = 0 ∧ n = 0) ∨ (k = 1 ∧ keyP key = true ∧ val.length ≤ 20 ∧ n = 0) ∨ (k = 2 ∧ keyP key = true ∧ val.length ≤ 20 ∧ 0 ≤ n ∧ n ≤ 1000000) ∨
    (k = 3 ∧ keyP key = true ∧ val.length = 0 ∧ n = 0) ∨ (k = 4 ∧ key.length = 0 ∧ val.length = 0 ∧ 0 ≤ n ∧ n ≤ 1) ∨ (k = 5 ∧ key.length = 0 ∧ val.length = 0 ∧ 1 ≤ n ∧ n ≤ 1000000) ∨
    (k = 6 ∧ keyP key = true ∧ val.length ≤ 20 ∧ 1 ≤ n ∧ n ≤ 1000000) ∨ (k = 7 ∧ keyP key = true ∧ val.length = 0 ∧ 1 ≤ n ∧ n ≤ 1000000))
theorem specOpOk_ev (kd : Int) (key val : List Int) (n : Int) (hk : key.length ≤ 140737488351232) : Ev (fun k => spec_OpOk.f k kd key val n) (opOkP kd key val n) := by
  unfold spec_OpOk.f
  repeat' (first
    | exact ev_done (by grind [opOkP])
    | refine Ev.step (g := fun k => spec_OpOk.j0 k _ _ _ _ _) (fun k => by rw [spec_OpOk.j0]) ?_ | refine Ev.step (g := fun k => spec_OpOk.j1 k _ _ _ _ _) (fun k => by rw [spec_OpOk.j1]) ?_ | refine Ev.step (g := fun k => spec_OpOk.j2 k _ _ _ _ _) (fun k => by rw [spec_OpOk.j2]) ?_ | refine Ev.step (g := fun k => spec_OpOk.j3 k _ _ _ _ _) (fun k => by rw [spec_OpOk.j3]) ?_ | refine Ev.step (g := fun k => spec_OpOk.j4 k _ _ _ _ _) (fun k => by rw [spec_OpOk.j4]) ?_ | refine Ev.step (g := fun k => spec_OpOk.j5 k _ _ _ _ _ _) (fun k => by rw [spec_OpOk.j5]) ?_
    | refine ev_bind_eq (l2val_eq _) ?_
    | refine ev_bind_eq (l2index_eq _) ?_
    | refine Ev.bind (specKey_ev _ hk) ?_
    | refine ev_if_pos (by first | rfl | assumption | omega) ?_
    | refine ev_if_neg (by first | decide | assumption | omega) ?_
    | refine ev_ite (fun hc => ?_) (fun hc => ?_))
theorem implOpOk_ev (kd : Int) (key val : List Int) (n : Int) (hk : key.length ≤ 140737488351232) : Ev (fun k => impl_OpOk.f k kd key val n) (opOkP kd key val n) := by
  unfold impl_OpOk.f
  repeat' (first
    | exact ev_done (by grind [opOkP])
    | refine ev_bind_eq (within_eq _ _ _) ?_
    | refine ev_bind_eq (isValue_eq _) ?_
    | refine Ev.bind (implKey_ev _ hk) ?_
    | refine ev_if_pos (by first | rfl | assumption | omega) ?_
    | refine ev_if_neg (by first | decide | assumption | omega) ?_
    | refine ev_ite (fun hc => ?_) (fun hc => ?_))
theorem toOp_ev (kd : Int) (key val : List Int) (n : Int) (hk : key.length ≤ 140737488351232) (hv : val.length ≤ 140737488351232) : Ev (fun k => laws_toOp.f k kd key val n) (kd, key, val, n) := by
  unfold laws_toOp.f
  exact Ev.bind (toByteS_ev _ hk) (Ev.bind (toByteS_ev _ hv) (Ev.now _))
theorem eqOp_self (kd : Int) (key val : List Int) (n : Int) (hk : key.length ≤ 140737488351232) (hv : val.length ≤ 140737488351232) : Ev (fun k => laws_eqOp.f k kd key val n kd key val n) true := by
  unfold laws_eqOp.f
  exact ev_if_pos rfl (Ev.bind (eqByteS_self _ hk) (ev_if_pos rfl (Ev.bind (eqByteS_self _ hv) (ev_if_pos rfl (ev_if_pos rfl (Ev.now _))))))
theorem szOp_eq (kd : Int) (key val : List Int) (n left : Int) (h0 : 0 ≤ left) (h1 : left ≤ 1048576) (hk : key.length ≤ maxLen) (hv : val.length ≤ maxLen) :
    ∃ r, laws_szOp.f kd key val n left = some r ∧ (0 ≤ r → r ≤ left ∧ (key.length : Int) ≤ left ∧ (val.length : Int) ≤ left) := by
  unfold laws_szOp.f
  obtain ⟨r, e, hr⟩ := szByteS_eq key left h0 h1 hk
  rw [e, Option.bind_some]
  by_cases c : r < 0
  · rw [if_pos c]
    exact ⟨-1, rfl, fun h => absurd h (by decide)⟩
  · rw [if_neg c]
    obtain ⟨q, e2, hq⟩ := szByteS_eq val r (by omega) (by omega) hv
    rw [e2, Option.bind_some]
    by_cases c2 : q < 0
    · rw [if_pos c2]
      exact ⟨-1, rfl, fun h => absurd h (by decide)⟩
    · rw [if_neg c2]
      exact ⟨q, rfl, fun _ => ⟨by omega, by omega, by omega⟩⟩

-- strs.lean: bytes as a string, compared
theorem strOf_list (a : List Int) : (strOfNums a).toList = a.map fun n => UInt8.ofNat n.toNat := Lib.strOfNums_toList a
theorem byte_inj {x y : Int} (h0 : 0 ≤ x) (h1 : x ≤ 255) (h2 : 0 ≤ y) (h3 : y ≤ 255) (h : UInt8.ofNat x.toNat = UInt8.ofNat y.toNat) : x = y := by
  have h4 := congrArg UInt8.toNat h
  simp at h4
  omega
theorem str_inj : ∀ (a b : List Int), (∀ x ∈ a, (Lit.int .u8 x).wf = true) → (∀ x ∈ b, (Lit.int .u8 x).wf = true) → (a.map fun n => UInt8.ofNat n.toNat) = (b.map fun n => UInt8.ofNat n.toNat) → a = b
  | [], [], _, _, _ => rfl
  | [], _ :: _, _, _, h => by simp at h
  | _ :: _, [], _, _, h => by simp at h
  | x :: a, y :: b, ha, hb, h => by
    simp only [List.map_cons, List.cons.injEq] at h
    have hx := wf_u8 (ha x List.mem_cons_self)
    have hy := wf_u8 (hb y List.mem_cons_self)
    rw [byte_inj hx.1 hx.2 hy.1 hy.2 h.1, str_inj a b (fun z hz => ha z (List.mem_cons_of_mem _ hz)) (fun z hz => hb z (List.mem_cons_of_mem _ hz)) h.2]
theorem str_eq (a b : List Int) (ha : ∀ x ∈ a, (Lit.int .u8 x).wf = true) (hb : ∀ x ∈ b, (Lit.int .u8 x).wf = true) : ((strOfNums a).toList == (strOfNums b).toList) = decide (a = b) := by
  rw [strOf_list, strOf_list, Bool.eq_iff_iff]
  simp only [beq_iff_eq, decide_eq_true_eq]
  exact ⟨str_inj a b ha hb, fun h => by rw [h]⟩
theorem str_eq_nil (a : List Int) : ((strOfNums a).toList == (strOfNums []).toList) = decide (a.length = 0) := by
  rw [strOf_list, strOf_list, Bool.eq_iff_iff]
  simp
theorem str_self (a : List Int) : ((strOfNums a).toList == (strOfNums a).toList) = true := by simp

-- cmds.lean: what a command is, and an item of a log
/-- A valid command. -/
def cmdOkP (c r kd : Int) (key val : List Int) (n : Int) : Bool :=
  (decide (c = -1 ∧ r = 0 ∧ kd = 0) && opOkP kd key val n) || (decide (0 ≤ c ∧ c ≤ 3 ∧ 1 ≤ r ∧ r ≤ 1000000) && opOkP kd key val n)
theorem specCmdOk_ev (c r kd : Int) (key val : List Int) (n : Int) (hk : key.length ≤ 140737488351232) : Ev (fun k => spec_CmdOk.f k c r kd key val n) (cmdOkP c r kd key val n) := by
  unfold spec_CmdOk.f
  repeat' (first
    | exact ev_done (by grind [cmdOkP])
    | refine Ev.bind (specOpOk_ev _ _ _ _ hk) ?_
    | refine ev_if_pos (by first | rfl | assumption | omega) ?_
    | refine ev_if_neg (by first | decide | assumption | omega) ?_
    | refine ev_ite (fun hc => ?_) (fun hc => ?_))
theorem cmdSame_eq (c r kd : Int) (key val : List Int) (n : Int) : impl_Cmd_same.f c r kd key val n (-1) 0 0 [] [] 0 = some (decide (c = -1 ∧ r = 0 ∧ kd = 0 ∧ key.length = 0 ∧ val.length = 0 ∧ n = 0)) := by
  unfold impl_Cmd_same.f impl_Op_same.f
  simp only [bytesEqual_eq, str_eq_nil, Option.bind_some]
  repeat' split
  all_goals grind
theorem implCmdOk_ev (c r kd : Int) (key val : List Int) (n : Int) (hk : key.length ≤ 140737488351232) : Ev (fun k => impl_CmdOk.f k c r kd key val n) (cmdOkP c r kd key val n) := by
  unfold impl_CmdOk.f impl_noOp.f
  refine ev_bind_eq rfl ?_
  refine ev_bind_eq (cmdSame_eq _ _ _ _ _ _) ?_
  repeat' (first
    | exact ev_done (by grind [cmdOkP, opOkP])
    | refine ev_bind_eq (within_eq _ _ _) ?_
    | refine Ev.bind (implOpOk_ev _ _ _ _ hk) ?_
    | refine ev_if_pos (by first | rfl | assumption | omega) ?_
    | refine ev_if_neg (by first | decide | assumption | omega) ?_
    | refine ev_ite (fun hc => ?_) (fun hc => ?_))
theorem toCmd_ev (c r kd : Int) (key val : List Int) (n : Int) (hk : key.length ≤ 140737488351232) (hv : val.length ≤ 140737488351232) : Ev (fun k => laws_toCmd.f k c r kd key val n) (c, r, kd, key, val, n) := by
  unfold laws_toCmd.f
  exact Ev.bind (toOp_ev _ _ _ _ hk hv) (Ev.now _)
theorem eqCmd_self (c r kd : Int) (key val : List Int) (n : Int) (hk : key.length ≤ 140737488351232) (hv : val.length ≤ 140737488351232) : Ev (fun k => laws_eqCmd.f k c r kd key val n c r kd key val n) true := by
  unfold laws_eqCmd.f
  exact ev_if_pos rfl (ev_if_pos rfl (Ev.bind (eqOp_self _ _ _ _ hk hv) (ev_if_pos rfl (Ev.now _))))
theorem szCmd_eq (c r kd : Int) (key val : List Int) (n left : Int) (h0 : 0 ≤ left) (h1 : left ≤ 1048576) (hk : key.length ≤ maxLen) (hv : val.length ≤ maxLen) :
    ∃ q, laws_szCmd.f c r kd key val n left = some q ∧ (0 ≤ q → q ≤ left ∧ (key.length : Int) ≤ left ∧ (val.length : Int) ≤ left) := by
  unfold laws_szCmd.f
  obtain ⟨q, e, hq⟩ := szOp_eq kd key val n left h0 h1 hk hv
  rw [e, Option.bind_some]
  by_cases c2 : q < 0
  · rw [if_pos c2]
    exact ⟨-1, rfl, fun h => absurd h (by decide)⟩
  · rw [if_neg c2]
    exact ⟨q, rfl, hq⟩

-- items.lean: an item of a log
/-- A valid item. -/
def itemOkP (t c r kd : Int) (key val : List Int) (n : Int) : Bool := decide (1 ≤ t ∧ t ≤ 100000) && cmdOkP c r kd key val n
theorem specItemOk_ev (t c r kd : Int) (key val : List Int) (n : Int) (hk : key.length ≤ 140737488351232) : Ev (fun k => spec_ItemOk.f k t c r kd key val n) (itemOkP t c r kd key val n) := by
  unfold spec_ItemOk.f
  repeat' (first
    | exact ev_done (by grind [itemOkP])
    | refine Ev.bind (specCmdOk_ev _ _ _ _ _ _ hk) ?_
    | refine ev_ite (fun hc => ?_) (fun hc => ?_))
theorem isTerm_eq (t : Int) : impl_isTerm.f t = some (decide (1 ≤ t ∧ t ≤ 100000)) := by
  unfold impl_isTerm.f
  rw [within_eq]
  rfl
theorem implItemOk_ev (t c r kd : Int) (key val : List Int) (n : Int) (hk : key.length ≤ 140737488351232) : Ev (fun k => impl_ItemOk.f k t c r kd key val n) (itemOkP t c r kd key val n) := by
  unfold impl_ItemOk.f
  refine ev_bind_eq (isTerm_eq t) ?_
  repeat' (first
    | exact ev_done (by grind [itemOkP])
    | refine Ev.bind (implCmdOk_ev _ _ _ _ _ _ hk) ?_
    | refine ev_ite (fun hc => ?_) (fun hc => ?_))
theorem toItem_ev (t c r kd : Int) (key val : List Int) (n : Int) (hk : key.length ≤ 140737488351232) (hv : val.length ≤ 140737488351232) : Ev (fun k => laws_toItem.f k t c r kd key val n) (t, c, r, kd, key, val, n) := by
  unfold laws_toItem.f
  exact Ev.bind (toCmd_ev _ _ _ _ _ _ hk hv) (Ev.now _)
theorem eqItem_self (t c r kd : Int) (key val : List Int) (n : Int) (hk : key.length ≤ 140737488351232) (hv : val.length ≤ 140737488351232) : Ev (fun k => laws_eqItem.f k t c r kd key val n t c r kd key val n) true := by
  unfold laws_eqItem.f
  exact ev_if_pos rfl (Ev.bind (eqCmd_self _ _ _ _ _ _ hk hv) (ev_if_pos rfl (Ev.now _)))
theorem szItem_eq (t c r kd : Int) (key val : List Int) (n left : Int) (h0 : 0 ≤ left) (h1 : left ≤ 1048576) (hk : key.length ≤ maxLen) (hv : val.length ≤ maxLen) :
    ∃ q, laws_szItem.f t c r kd key val n left = some q ∧ (0 ≤ q → q ≤ left ∧ (key.length : Int) ≤ left ∧ (val.length : Int) ≤ left) := by
  unfold laws_szItem.f
  obtain ⟨q, e, hq⟩ := szCmd_eq c r kd key val n left h0 h1 hk hv
  rw [e, Option.bind_some]
  by_cases c2 : q < 0
  · rw [if_pos c2]
    exact ⟨-1, rfl, fun h => absurd h (by decide)⟩
  · rw [if_neg c2]
    exact ⟨q, rfl, hq⟩

-- itemrows.lean: rows of items: how much they hold, their copy, their comparison
/-- A row's entry as the program has it. -/
def cvItem (x : S199) : S147 := ⟨x.f0, ⟨x.f1.f0, x.f1.f1, ⟨x.f1.f2.f0, x.f1.f2.f1, x.f1.f2.f2, x.f1.f2.f3⟩⟩⟩
/-- Its texts are short. -/
def fitItem (x : S147) : Prop := x.f1.f2.f1.length ≤ 1048576 ∧ x.f1.f2.f2.length ≤ 1048576
theorem rd_T50_get (l : List S199) (i : Nat) (h : i < l.length) : rd_T199 l (i : Int) = l[i] := by
  unfold rd_T199
  rw [Int.toNat_natCast]
  simp [List.getD, h]
theorem rd_T54_get (l : List S147) (i : Nat) (h : i < l.length) : rd_T147 l (i : Int) = l[i] := by
  unfold rd_T147
  rw [Int.toNat_natCast]
  simp [List.getD, h]
theorem szItemS_loop (l : List S199) (hl : l.length ≤ maxLen) (hk : ∀ x ∈ l, x.f1.f2.f1.length ≤ maxLen ∧ x.f1.f2.f2.length ≤ maxLen) (d : Nat) : ∀ (i : Nat) (left : Int), i ≤ l.length → l.length - i = d → 0 ≤ left → left ≤ 1048576 →
    ∃ r, Ev (fun k => laws_szItemS.l0 k l left (i : Int)) r ∧ (0 ≤ r → r ≤ left ∧ ∀ x ∈ l.drop i, fitItem (cvItem x)) := by
  induction d with
  | zero =>
    intro i left hi hd h0 h1
    refine ⟨left, Ev.step (fun k => by rw [laws_szItemS.l0]) (ev_if_neg (by omega) (Ev.now _)), fun _ => ⟨by omega, ?_⟩⟩
    rw [List.drop_of_length_le (by omega)]
    simp
  | succ d ih =>
    intro i left hi hd h0 h1
    have hi' : i < l.length := by omega
    have hm := hk l[i] (List.getElem_mem hi')
    obtain ⟨q, e, hq⟩ := szItem_eq l[i].f0 l[i].f1.f0 l[i].f1.f1 l[i].f1.f2.f0 l[i].f1.f2.f1 l[i].f1.f2.f2 l[i].f1.f2.f3 left h0 h1 hm.1 hm.2
    by_cases c : q < 0
    · refine ⟨-1, Ev.step (fun k => by rw [laws_szItemS.l0]) ?_, fun h => absurd h (by decide)⟩
      rw [rd_T50_get l i hi']
      exact ev_if_pos (by omega) (ev_if_pos (by omega) (ev_bind_eq e (ev_if_pos c (Ev.now _))))
    · obtain ⟨q1, q2, q3⟩ := hq (by omega)
      obtain ⟨r, er, hr⟩ := ih (i + 1) q (by omega) (by omega) (by omega) (by omega)
      refine ⟨r, Ev.step (fun k => by rw [laws_szItemS.l0]) ?_, fun h => ?_⟩
      · unfold maxLen at hl
        rw [rd_T50_get l i hi', w64 (by omega) (by omega)]
        refine ev_if_pos (by omega) (ev_if_pos (by omega) (ev_bind_eq e (ev_if_neg c ?_)))
        rw [Int.natCast_add, Int.natCast_one] at er
        exact er
      · obtain ⟨h2, h3⟩ := hr h
        refine ⟨by omega, fun x hx => ?_⟩
        rw [List.drop_eq_getElem_cons hi'] at hx
        rcases List.mem_cons.1 hx with rfl | hx
        · exact ⟨by show l[i].f1.f2.f1.length ≤ 1048576; omega, by show l[i].f1.f2.f2.length ≤ 1048576; omega⟩
        · exact h3 x hx
theorem szItemS_ev (l : List S199) (left : Int) (h0 : 0 ≤ left) (h1 : left ≤ 1048576) (hl : l.length ≤ maxLen) (hk : ∀ x ∈ l, x.f1.f2.f1.length ≤ maxLen ∧ x.f1.f2.f2.length ≤ maxLen) :
    ∃ r, Ev (fun k => laws_szItemS.f k l left) r ∧ (0 ≤ r → r ≤ left ∧ (l.length : Int) ≤ left ∧ ∀ x ∈ l, fitItem (cvItem x)) := by
  unfold laws_szItemS.f
  have hl' := hl
  unfold maxLen at hl'
  rw [w64 (by omega) (by omega)]
  by_cases c : left - (l.length : Int) < 0
  · exact ⟨-1, ev_if_pos c (Ev.now _), fun h => absurd h (by decide)⟩
  · obtain ⟨r, er, hr⟩ := szItemS_loop l hl hk l.length 0 (left - (l.length : Int)) (by omega) (by omega) (by omega) (by omega)
    refine ⟨r, ev_if_neg c er, fun h => ?_⟩
    obtain ⟨a, b⟩ := hr h
    exact ⟨by omega, by omega, by simpa using b⟩
theorem toItemS_loop (l : List S199) (hn : l.length ≤ 1048576) (hk : ∀ x ∈ l, fitItem (cvItem x)) (d : Nat) : ∀ (i : Nat), i ≤ l.length → l.length - i = d →
    Ev (fun k => laws_toItemS.l0 k l ((l.take i).map cvItem ++ List.replicate (l.length - i) z147) (i : Int)) (l.map cvItem) := by
  induction d with
  | zero =>
    intro i hi hd
    refine Ev.step (fun k => by rw [laws_toItemS.l0]) (ev_if_neg (by omega) (ev_done ?_))
    rw [hd, List.replicate_zero, List.append_nil, List.take_of_length_le (by omega)]
  | succ d ih =>
    intro i hi hd
    have hi' : i < l.length := by omega
    have hm := hk l[i] (List.getElem_mem hi')
    have h := ih (i + 1) (by omega) (by omega)
    refine Ev.step (fun k => by rw [laws_toItemS.l0]) ?_
    rw [rd_T50_get l i hi', w64 (by omega) (by omega)]
    refine ev_if_pos (by omega) (ev_if_pos (by omega) (Ev.bind (toItem_ev l[i].f0 l[i].f1.f0 l[i].f1.f1 l[i].f1.f2.f0 l[i].f1.f2.f1 l[i].f1.f2.f2 l[i].f1.f2.f3 (by have := hm.1; simp only [cvItem] at this; omega) (by have := hm.2; simp only [cvItem] at this; omega)) ?_))
    refine ev_if_pos (by rw [List.length_append, List.length_map, List.length_take, List.length_replicate]; omega) ?_
    dsimp only
    rw [Int.natCast_add, Int.natCast_one] at h
    have hs : ((l.take i).map cvItem ++ List.replicate (l.length - i) z147).set ((i : Int).toNat) (cvItem l[i]) = (l.take (i + 1)).map cvItem ++ List.replicate (l.length - (i + 1)) z147 := by
      rw [Int.toNat_natCast, List.set_append_right _ _ (by rw [List.length_map, List.length_take]; omega), List.length_map, List.length_take, Nat.min_eq_left hi, Nat.sub_self,
        show l.length - i = (l.length - (i + 1)) + 1 by omega, List.replicate_succ, List.set_cons_zero, List.take_succ_eq_append_getElem hi', List.map_append, List.append_assoc]
      rfl
    rw [← hs] at h
    exact h
theorem toItemS_ev (l : List S199) (hn : l.length ≤ 1048576) (hk : ∀ x ∈ l, fitItem (cvItem x)) : Ev (fun k => laws_toItemS.f k l) (l.map cvItem) := by
  unfold laws_toItemS.f
  have h := toItemS_loop l hn hk l.length 0 (by omega) (by omega)
  rw [List.take_zero, List.map_nil, List.nil_append, Nat.sub_zero] at h
  refine ev_if_pos (by omega) (ev_if_pos (by omega) ?_)
  rw [Int.toNat_natCast]
  exact h
theorem eqItemS_loop (l : List S147) (hn : l.length ≤ 1048576) (hk : ∀ x ∈ l, fitItem x) (d : Nat) : ∀ (i : Nat), i ≤ l.length → l.length - i = d → Ev (fun k => laws_eqItemS.l0 k l l (i : Int)) true := by
  induction d with
  | zero =>
    intro i hi hd
    exact Ev.step (fun k => by rw [laws_eqItemS.l0]) (ev_if_neg (by omega) (Ev.now _))
  | succ d ih =>
    intro i hi hd
    have hi' : i < l.length := by omega
    have hm := hk l[i] (List.getElem_mem hi')
    have h := ih (i + 1) (by omega) (by omega)
    refine Ev.step (fun k => by rw [laws_eqItemS.l0]) ?_
    rw [rd_T54_get l i hi', w64 (by omega) (by omega)]
    rw [Int.natCast_add, Int.natCast_one] at h
    exact ev_if_pos (by omega) (ev_if_pos (by omega) (ev_if_pos (by omega) (Ev.bind (eqItem_self _ _ _ _ _ _ _ (by have := hm.1; omega) (by have := hm.2; omega)) (ev_if_pos rfl h))))
theorem eqItemS_self (l : List S147) (hn : l.length ≤ 1048576) (hk : ∀ x ∈ l, fitItem x) : Ev (fun k => laws_eqItemS.f k l l) true := by
  unfold laws_eqItemS.f
  exact ev_if_pos rfl (eqItemS_loop l hn hk l.length 0 (by omega) (by omega))

-- bools.lean: rows of marks: their size, copy, comparison
theorem rdb_get (l : List Bool) (i : Nat) (h : i < l.length) : rdOf false l (i : Int) = l[i] := by
  unfold rdOf
  rw [Int.toNat_natCast]
  simp [List.getD, h]
theorem szBoolS_eq (l : List Bool) (left : Int) (h0 : 0 ≤ left) (h1 : left ≤ 1048576) (hl : l.length ≤ maxLen) : ∃ r, laws_szBoolS.f l left = some r ∧ (0 ≤ r → r ≤ left ∧ (l.length : Int) ≤ left) := by
  unfold laws_szBoolS.f
  unfold maxLen at hl
  rw [w64 (by omega) (by omega)]
  by_cases c : left - (l.length : Int) < 0
  · rw [if_pos c]
    exact ⟨-1, rfl, fun h => absurd h (by decide)⟩
  · rw [if_neg c]
    exact ⟨_, rfl, fun _ => ⟨by omega, by omega⟩⟩
theorem toBoolS_loop (l : List Bool) (hn : l.length ≤ 1048576) (d : Nat) : ∀ (i : Nat), i ≤ l.length → l.length - i = d →
    Ev (fun k => laws_toBoolS.l0 k l (l.take i ++ List.replicate (l.length - i) false) (i : Int)) l := by
  induction d with
  | zero =>
    intro i hi hd
    refine Ev.step (fun k => by rw [laws_toBoolS.l0]) (ev_if_neg (by omega) (ev_done ?_))
    rw [hd, List.replicate_zero, List.append_nil, List.take_of_length_le (by omega)]
  | succ d ih =>
    intro i hi hd
    have hi' : i < l.length := by omega
    have h := ih (i + 1) (by omega) (by omega)
    refine Ev.step (fun k => by rw [laws_toBoolS.l0]) ?_
    rw [rdb_get l i hi', w64 (x := (i : Int) + 1) (by omega) (by omega)]
    refine ev_if_pos (by omega) (ev_if_pos (by omega) ?_)
    refine ev_if_pos (by rw [List.length_append, List.length_take, List.length_replicate]; omega) ?_
    rw [Int.natCast_add, Int.natCast_one] at h
    have hs : (l.take i ++ List.replicate (l.length - i) false).set ((i : Int).toNat) l[i] = l.take (i + 1) ++ List.replicate (l.length - (i + 1)) false := by
      rw [Int.toNat_natCast, List.set_append_right _ _ (by rw [List.length_take]; omega), List.length_take, Nat.min_eq_left hi, Nat.sub_self,
        show l.length - i = (l.length - (i + 1)) + 1 by omega, List.replicate_succ, List.set_cons_zero, List.take_succ_eq_append_getElem hi', List.append_assoc]
      rfl
    rw [← hs] at h
    exact h
theorem toBoolS_ev (l : List Bool) (hn : l.length ≤ 1048576) : Ev (fun k => laws_toBoolS.f k l) l := by
  unfold laws_toBoolS.f
  have h := toBoolS_loop l hn l.length 0 (by omega) (by omega)
  rw [List.take_zero, List.nil_append, Nat.sub_zero] at h
  refine ev_if_pos (by omega) (ev_if_pos (by omega) ?_)
  rw [Int.toNat_natCast]
  exact h
theorem eqBoolS_loop (l : List Bool) (hn : l.length ≤ 1048576) (d : Nat) : ∀ (i : Nat), i ≤ l.length → l.length - i = d → Ev (fun k => laws_eqBoolS.l0 k l l (i : Int)) true := by
  induction d with
  | zero =>
    intro i hi hd
    exact Ev.step (fun k => by rw [laws_eqBoolS.l0]) (ev_if_neg (by omega) (Ev.now _))
  | succ d ih =>
    intro i hi hd
    have hi' : i < l.length := by omega
    have h := ih (i + 1) (by omega) (by omega)
    refine Ev.step (fun k => by rw [laws_eqBoolS.l0]) ?_
    rw [w64 (x := (i : Int) + 1) (by omega) (by omega)]
    rw [Int.natCast_add, Int.natCast_one] at h
    exact ev_if_pos (by omega) (ev_if_pos (by omega) (ev_if_pos (by omega) (ev_if_neg (by simp) h)))
theorem eqBoolS_self (l : List Bool) (hn : l.length ≤ 1048576) : Ev (fun k => laws_eqBoolS.f k l l) true := by
  unfold laws_eqBoolS.f
  have e : Ev (fun k => laws_eqBoolS.l0 k l l 0) true := eqBoolS_loop l hn l.length 0 (by omega) (by omega)
  exact ev_if_pos rfl e

-- ints.lean: rows of numbers: their size, copy, comparison
theorem szIntS_eq (l : List Int) (left : Int) (h0 : 0 ≤ left) (h1 : left ≤ 1048576) (hl : l.length ≤ maxLen) : ∃ r, laws_szIntS.f l left = some r ∧ (0 ≤ r → r ≤ left ∧ (l.length : Int) ≤ left) := by
  unfold laws_szIntS.f
  unfold maxLen at hl
  rw [w64 (by omega) (by omega)]
  by_cases c : left - (l.length : Int) < 0
  · rw [if_pos c]
    exact ⟨-1, rfl, fun h => absurd h (by decide)⟩
  · rw [if_neg c]
    exact ⟨_, rfl, fun _ => ⟨by omega, by omega⟩⟩
theorem toIntS_loop (l : List Int) (hn : l.length ≤ 1048576) (d : Nat) : ∀ (i : Nat), i ≤ l.length → l.length - i = d →
    Ev (fun k => laws_toIntS.l0 k l (l.take i ++ List.replicate (l.length - i) 0) (i : Int)) l := by
  induction d with
  | zero =>
    intro i hi hd
    refine Ev.step (fun k => by rw [laws_toIntS.l0]) (ev_if_neg (by omega) (ev_done ?_))
    rw [hd, List.replicate_zero, List.append_nil, List.take_of_length_le (by omega)]
  | succ d ih =>
    intro i hi hd
    have hi' : i < l.length := by omega
    have h := ih (i + 1) (by omega) (by omega)
    refine Ev.step (fun k => by rw [laws_toIntS.l0]) ?_
    rw [rd_get l i hi', w64 (x := (i : Int) + 1) (by omega) (by omega)]
    refine ev_if_pos (by omega) (ev_if_pos (by omega) ?_)
    refine ev_if_pos (by rw [List.length_append, List.length_take, List.length_replicate]; omega) ?_
    rw [Int.natCast_add, Int.natCast_one] at h
    have hs : (l.take i ++ List.replicate (l.length - i) (0 : Int)).set ((i : Int).toNat) l[i] = l.take (i + 1) ++ List.replicate (l.length - (i + 1)) 0 := by
      rw [Int.toNat_natCast, List.set_append_right _ _ (by rw [List.length_take]; omega), List.length_take, Nat.min_eq_left hi, Nat.sub_self,
        show l.length - i = (l.length - (i + 1)) + 1 by omega, List.replicate_succ, List.set_cons_zero, List.take_succ_eq_append_getElem hi', List.append_assoc]
      rfl
    rw [← hs] at h
    exact h
theorem toIntS_ev (l : List Int) (hn : l.length ≤ 1048576) : Ev (fun k => laws_toIntS.f k l) l := by
  unfold laws_toIntS.f
  have h := toIntS_loop l hn l.length 0 (by omega) (by omega)
  rw [List.take_zero, List.nil_append, Nat.sub_zero] at h
  refine ev_if_pos (by omega) (ev_if_pos (by omega) ?_)
  rw [Int.toNat_natCast]
  exact h
theorem eqIntS_loop (l : List Int) (hn : l.length ≤ 1048576) (d : Nat) : ∀ (i : Nat), i ≤ l.length → l.length - i = d → Ev (fun k => laws_eqIntS.l0 k l l (i : Int)) true := by
  induction d with
  | zero =>
    intro i hi hd
    exact Ev.step (fun k => by rw [laws_eqIntS.l0]) (ev_if_neg (by omega) (Ev.now _))
  | succ d ih =>
    intro i hi hd
    have hi' : i < l.length := by omega
    have h := ih (i + 1) (by omega) (by omega)
    refine Ev.step (fun k => by rw [laws_eqIntS.l0]) ?_
    rw [w64 (x := (i : Int) + 1) (by omega) (by omega)]
    rw [Int.natCast_add, Int.natCast_one] at h
    exact ev_if_pos (by omega) (ev_if_pos (by omega) (ev_if_pos (by omega) (ev_if_pos rfl h)))
theorem eqIntS_self (l : List Int) (hn : l.length ≤ 1048576) : Ev (fun k => laws_eqIntS.f k l l) true := by
  unfold laws_eqIntS.f
  have e : Ev (fun k => laws_eqIntS.l0 k l l 0) true := eqIntS_loop l hn l.length 0 (by omega) (by omega)
  exact ev_if_pos rfl e

-- nodes.lean: which servers' states are valid: told once for both programs
/-- An item of a server's log, beside the one ahead. -/
def LogP (log : List S147) (term : Int) (i : Nat) (h : i < log.length) : Prop :=
  itemOkP log[i].f0 log[i].f1.f0 log[i].f1.f1 log[i].f1.f2.f0 log[i].f1.f2.f1 log[i].f1.f2.f2 log[i].f1.f2.f3 = true ∧ log[i].f0 ≤ term ∧ (0 < i → (log[i - 1]'(by omega)).f0 ≤ log[i].f0)
def LogFrom (log : List S147) (term : Int) (i : Nat) : Prop := ∀ j, i ≤ j → (h : j < log.length) → LogP log term j h
theorem logFrom_end (log : List S147) (term : Int) (i : Nat) (h : log.length ≤ i) : LogFrom log term i := fun j h1 h2 => absurd h2 (by omega)
theorem logFrom_step (log : List S147) (term : Int) (i : Nat) (h : i < log.length) : LogFrom log term i ↔ LogP log term i h ∧ LogFrom log term (i + 1) := by
  constructor
  · intro g
    exact ⟨g i (Nat.le_refl _) h, fun j h1 h2 => g j (by omega) h2⟩
  · rintro ⟨a, b⟩ j h1 h2
    by_cases e : j = i
    · subst e
      exact a
    · exact b j (by omega) h2
theorem item_term {t c r kd : Int} {key val : List Int} {n : Int} (h : itemOkP t c r kd key val n = true) : 1 ≤ t := by
  unfold itemOkP at h
  rw [Bool.and_eq_true, decide_eq_true_iff] at h
  exact h.1.1
/-- What is told of one of the servers. -/
def SrvP (len role : Int) (votes : List Bool) (next mat : List Int) (i : Int) : Prop :=
  (role = 2 → 1 ≤ rd next i ∧ rd next i ≤ len + 1 ∧ 0 ≤ rd mat i ∧ rd mat i ≤ len) ∧ (role ≠ 2 → rd next i = 0 ∧ rd mat i = 0)
def VoteP (role : Int) (votes : List Bool) (i : Int) : Prop := role = 0 → rdOf false votes i = false
def NodeP (id term vote : Int) (log : List S147) (commit role lead wait : Int) (votes : List Bool) (next mat : List Int) (sv : Int) : Prop :=
  (1 ≤ sv ∧ sv ≤ 5) ∧ (0 ≤ id ∧ id < sv) ∧ (0 ≤ term ∧ term ≤ 100000) ∧ (-1 ≤ vote ∧ vote < sv) ∧ (-1 ≤ lead ∧ lead < sv) ∧ (log.length : Int) ≤ 400 ∧ LogFrom log term 0 ∧
    (0 ≤ commit ∧ commit ≤ (log.length : Int)) ∧ (0 ≤ role ∧ role ≤ 2) ∧ (0 ≤ wait ∧ wait ≤ 20) ∧ (votes.length : Int) = sv ∧ (next.length : Int) = sv ∧ (mat.length : Int) = sv ∧
    (role ≠ 0 → 1 ≤ term ∧ vote = id) ∧ (role = 2 → lead = id) ∧ ∀ i : Int, 0 ≤ i → i < sv → SrvP (log.length : Int) role votes next mat i ∧ VoteP role votes i

-- nodeimpl.lean: the program's own look at a server's state
theorem containsTrue_loop (l : List Bool) (hn : l.length ≤ 1048576) (d : Nat) : ∀ (i : Nat), i ≤ l.length → l.length - i = d →
    ∃ q, Ev (fun k => slices_Index_bool_bool.l0 k l true (l.length : Int) (i : Int)) q ∧ (q ≥ 0 ↔ ∃ j : Nat, i ≤ j ∧ j < l.length ∧ rdOf false l (j : Int) = true) := by
  induction d with
  | zero =>
    intro i hi hd
    refine ⟨-1, Ev.step (fun k => by rw [slices_Index_bool_bool.l0]) (ev_if_neg (by omega) (Ev.now _)), ⟨fun h => absurd h (by decide), ?_⟩⟩
    rintro ⟨j, h1, h2, _⟩
    omega
  | succ d ih =>
    intro i hi hd
    have hi' : i < l.length := by omega
    obtain ⟨q, e, hq⟩ := ih (i + 1) (by omega) (by omega)
    rw [Int.natCast_add, Int.natCast_one] at e
    by_cases c : rdOf false l (i : Int) = true
    · refine ⟨(i : Int), Ev.step (fun k => by rw [slices_Index_bool_bool.l0]) ?_, ⟨fun _ => ⟨i, Nat.le_refl _, hi', c⟩, fun _ => by omega⟩⟩
      exact ev_if_pos (by omega) (ev_if_pos (by omega) (ev_if_pos (by omega) (ev_if_pos (by simp [c]) (Ev.now _))))
    · refine ⟨q, Ev.step (fun k => by rw [slices_Index_bool_bool.l0]) ?_, hq.trans ⟨fun ⟨j, h1, h2, h3⟩ => ⟨j, by omega, h2, h3⟩, fun ⟨j, h1, h2, h3⟩ => ?_⟩⟩
      · rw [w64 (x := (i : Int) + 1) (by omega) (by omega)]
        exact ev_if_pos (by omega) (ev_if_pos (by omega) (ev_if_pos (by omega) (ev_if_neg (by simp [c]) e)))
      · by_cases z : j = i
        · subst z
          exact absurd h3 c
        · exact ⟨j, by omega, h2, h3⟩
theorem containsTrue_ev (l : List Bool) (hn : l.length ≤ 1048576) : ∃ b, Ev (fun k => slices_Contains_bool_bool.f k l true) b ∧ (b = true ↔ ∃ j : Nat, j < l.length ∧ rdOf false l (j : Int) = true) := by
  obtain ⟨q, e, hq⟩ := containsTrue_loop l hn l.length 0 (by omega) (by omega)
  have e : Ev (fun k => slices_Index_bool_bool.l0 k l true (l.length : Int) 0) q := e
  unfold slices_Contains_bool_bool.f slices_Index_bool_bool.f
  refine ⟨decide (q ≥ 0), Ev.bind e (Ev.now _), ?_⟩
  rw [decide_eq_true_iff, hq]
  exact ⟨fun ⟨j, _, h2, h3⟩ => ⟨j, h2, h3⟩, fun ⟨j, h2, h3⟩ => ⟨j, by omega, h2, h3⟩⟩
set_option maxHeartbeats 4000000 in
theorem implNode_srv (id term vote : Int) (log : List S147) (commit role lead wait : Int) (votes : List Bool) (next mat : List Int) (sv : Int) (hs : sv ≤ 5) (hn : log.length ≤ 1048576) (hx : (next.length : Int) = sv) (hm : (mat.length : Int) = sv) (d : Nat) :
    ∀ (i : Int), 0 ≤ i → i ≤ sv → (sv - i).toNat = d →
    ∃ q, Ev (fun k => impl_NodeOk.l1 k sv i id term vote log commit role lead wait votes next mat) q ∧ (q = true ↔ ∀ j, i ≤ j → j < sv → SrvP (log.length : Int) role votes next mat j) := by
  induction d with
  | zero =>
    intro i h0 hi hd
    exact ⟨true, Ev.step (fun k => by rw [impl_NodeOk.l1]) (ev_if_neg (by omega) (Ev.now _)), ⟨fun _ j h1 h2 => by omega, fun _ => rfl⟩⟩
  | succ d ih =>
    intro i h0 hi hd
    obtain ⟨q, e, hq⟩ := ih (i + 1) (by omega) (by omega) (by omega)
    have e' : Ev (fun k => impl_NodeOk.l1 k sv (wrap64 (i + 1)) id term vote log commit role lead wait votes next mat) q := by
      rw [w64 (x := i + 1) (by omega) (by omega)]
      exact e
    by_cases P : SrvP (log.length : Int) role votes next mat i
    · refine ⟨q, ?_, hq.trans ⟨fun h => fun j h1 h2 => ?_, fun h => fun j h1 h2 => h j (by omega) h2⟩⟩
      · obtain ⟨p1, p2⟩ := P
        refine Ev.step (g := fun k => impl_NodeOk.l1 k _ _ _ _ _ _ _ _ _ _ _ _ _) (fun k => by rw [impl_NodeOk.l1]) ?_
        rw [w64 (x := (log.length : Int) + 1) (by omega) (by omega)]
        repeat' (first
          | exact e'
          | refine ev_bind_eq (within_eq _ _ _) ?_
          | refine ev_ite (fun hc => ?_) (fun hc => ?_)
          | (exfalso; grind))
      · by_cases z : j = i
        · subst z
          exact P
        · exact h j (by omega) h2
    · refine ⟨false, ?_, ⟨fun h => absurd h (by simp), fun h => absurd (h i (by omega) (by omega)) P⟩⟩
      have P' : ¬ ((role = 2 → 1 ≤ rd next i ∧ rd next i ≤ (log.length : Int) + 1 ∧ 0 ≤ rd mat i ∧ rd mat i ≤ (log.length : Int)) ∧ (role ≠ 2 → rd next i = 0 ∧ rd mat i = 0)) := P
      refine Ev.step (g := fun k => impl_NodeOk.l1 k _ _ _ _ _ _ _ _ _ _ _ _ _) (fun k => by rw [impl_NodeOk.l1]) ?_
      rw [w64 (x := (log.length : Int) + 1) (by omega) (by omega)]
      repeat' (first
        | exact Ev.now _
        | refine ev_bind_eq (within_eq _ _ _) ?_
        | refine ev_ite (fun hc => ?_) (fun hc => ?_)
        | (exfalso; grind))
theorem implNode_log (id term vote : Int) (log : List S147) (commit role lead wait : Int) (votes : List Bool) (next mat : List Int) (sv : Int) (hn : log.length ≤ 1048576) (hf : ∀ x ∈ log, fitItem x) (b : Bool)
    (hb : ∀ p : Int, Ev (fun k => impl_NodeOk.l0 k sv p log (log.length : Int) ((log.length : Nat) : Int) id term vote log commit role lead wait votes next mat) b) (d : Nat) :
    ∀ (i : Nat) (p : Int), i ≤ log.length → log.length - i = d → (i = 0 → p = 1) → (0 < i → ∀ h : i - 1 < log.length, p = log[i - 1].f0) →
    (LogFrom log term i → Ev (fun k => impl_NodeOk.l0 k sv p log (log.length : Int) (i : Int) id term vote log commit role lead wait votes next mat) b) ∧ (¬ LogFrom log term i → Ev (fun k => impl_NodeOk.l0 k sv p log (log.length : Int) (i : Int) id term vote log commit role lead wait votes next mat) false) := by
  induction d with
  | zero =>
    intro i p hi hd hp0 hp1
    have : i = log.length := by omega
    subst this
    exact ⟨fun _ => hb p, fun h => absurd (logFrom_end log term _ (Nat.le_refl _)) h⟩
  | succ d ih =>
    intro i p hi hd hp0 hp1
    have hi' : i < log.length := by omega
    obtain ⟨h1, h2⟩ := ih (i + 1) log[i].f0 (by omega) (by omega) (by omega) (fun _ h => by simp)
    rw [Int.natCast_add, Int.natCast_one] at h1 h2
    have S := logFrom_step log term i hi'
    have fi := hf log[i] (List.getElem_mem hi')
    have e := implItemOk_ev log[i].f0 log[i].f1.f0 log[i].f1.f1 log[i].f1.f2.f0 log[i].f1.f2.f1 log[i].f1.f2.f2 log[i].f1.f2.f3 (by have := fi.1; omega)
    have key : ∀ q : Bool, (LogP log term i hi' → Ev (fun k => impl_NodeOk.l0 k sv log[i].f0 log (log.length : Int) ((i : Int) + 1) id term vote log commit role lead wait votes next mat) q) → (¬ LogP log term i hi' → q = false) → Ev (fun k => impl_NodeOk.l0 k sv p log (log.length : Int) (i : Int) id term vote log commit role lead wait votes next mat) q := by
      intro q hq hq'
      refine Ev.step (fun k => by rw [impl_NodeOk.l0]) ?_
      rw [rd_T54_get log i hi', w64 (x := (i : Int) + 1) (by omega) (by omega)]
      refine ev_if_pos (by omega) (ev_if_pos (by omega) (ev_if_pos (by omega) (Ev.bind e ?_)))
      by_cases c1 : itemOkP log[i].f0 log[i].f1.f0 log[i].f1.f1 log[i].f1.f2.f0 log[i].f1.f2.f1 log[i].f1.f2.f2 log[i].f1.f2.f3 = true
      case neg => exact ev_if_neg c1 (ev_done (hq' (fun h => c1 h.1)).symm)
      refine ev_if_pos c1 (ev_bind_eq (within_eq _ _ _) ?_)
      have t1 := item_term c1
      by_cases c2 : p ≤ log[i].f0 ∧ log[i].f0 ≤ term
      · refine ev_if_pos (decide_eq_true c2) (hq ⟨c1, c2.2, fun c3 => ?_⟩)
        rw [← hp1 c3 (by omega)]
        exact c2.1
      · refine ev_if_neg (by rw [decide_eq_false c2]; simp) (ev_done (hq' (fun h => c2 ⟨?_, h.2.1⟩)).symm)
        by_cases c3 : 0 < i
        · rw [hp1 c3 (by omega)]
          exact h.2.2 c3
        · rw [hp0 (by omega)]
          exact t1
    constructor
    · intro h
      exact key b (fun _ => h1 (S.1 h).2) (fun g => absurd (S.1 h).1 g)
    · intro h
      exact key false (fun g => h2 (fun z => h (S.2 ⟨g, z⟩))) (fun _ => rfl)
theorem votes_all (votes : List Bool) (sv : Int) (hv : (votes.length : Int) = sv) : (¬ ∃ j : Nat, j < votes.length ∧ rdOf false votes (j : Int) = true) ↔ ∀ i : Int, 0 ≤ i → i < sv → rdOf false votes i = false := by
  constructor
  · intro h i h0 h1
    have ei : i = ((i.toNat : Nat) : Int) := by omega
    rw [ei]
    by_cases c : rdOf false votes ((i.toNat : Nat) : Int) = true
    · exact absurd ⟨i.toNat, by omega, c⟩ h
    · simpa using c
  · rintro h ⟨j, hj, c⟩
    have := h (j : Int) (by omega) (by omega)
    rw [this] at c
    exact absurd c (by simp)
set_option maxHeartbeats 8000000 in
theorem implNodeOk_ev (id term vote : Int) (log : List S147) (commit role lead wait : Int) (votes : List Bool) (next mat : List Int) (sv : Int) (hw : -9223372036854775808 ≤ sv ∧ sv ≤ 9223372036854775807) (hn : log.length ≤ 1048576) (hvn : votes.length ≤ 1048576) (hf : ∀ x ∈ log, fitItem x) :
    ∃ b, Ev (fun k => impl_NodeOk.f k id term vote log commit role lead wait votes next mat sv) b ∧ (b = true ↔ NodeP id term vote log commit role lead wait votes next mat sv) := by
  have T : Ev (fun k => impl_NodeOk.j0 k sv true id term vote log commit role lead wait votes next mat) false := Ev.step (fun k => by rw [impl_NodeOk.j0]) (ev_if_pos rfl (Ev.now _))
  have T2 : Ev (fun k => impl_NodeOk.j2 k sv true id term vote log commit role lead wait votes next mat) false := Ev.step (fun k => by rw [impl_NodeOk.j2]) (ev_if_pos rfl (Ev.now _))
  have T3 : Ev (fun k => impl_NodeOk.j3 k sv true id term vote log commit role lead wait votes next mat) false := Ev.step (fun k => by rw [impl_NodeOk.j3]) (ev_if_pos rfl (Ev.now _))
  have e0 : impl_isServer.f id sv = some (decide ((1 ≤ sv ∧ sv ≤ 5) ∧ 0 ≤ id ∧ id < sv)) := by
    unfold impl_isServer.f
    rw [within_eq, Option.bind_some]
    by_cases c : 1 ≤ sv ∧ sv ≤ 5
    · rw [if_pos (decide_eq_true c), within_eq, Option.bind_some, w64 (x := sv - 1) (by omega) (by omega)]
      congr 1
      rw [decide_eq_decide]
      omega
    · rw [if_neg (by rw [decide_eq_false c]; simp)]
      congr 1
      rw [eq_comm, decide_eq_false_iff_not]
      exact fun h => c h.1
  by_cases N1 : (1 ≤ sv ∧ sv ≤ 5) ∧ (0 ≤ id ∧ id < sv)
  case neg =>
    refine ⟨false, ?_, ⟨fun h => absurd h (by simp), fun h => absurd ⟨h.1, h.2.1⟩ N1⟩⟩
    unfold impl_NodeOk.f
    refine ev_bind_eq e0 (ev_if_neg (by rw [decide_eq_false N1]; simp) T)
  have w1 : wrap64 (sv - 1) = sv - 1 := w64 (by omega) (by omega)
  by_cases N2 : (0 ≤ term ∧ term ≤ 100000) ∧ (-1 ≤ vote ∧ vote < sv) ∧ (-1 ≤ lead ∧ lead < sv) ∧ (log.length : Int) ≤ 400
  case neg =>
    refine ⟨false, ?_, ⟨fun h => absurd h (by simp), fun h => ?_⟩⟩
    · unfold impl_NodeOk.f
      refine ev_bind_eq e0 (ev_if_pos (decide_eq_true N1) ?_)
      rw [w1]
      repeat' (first
        | exact T
        | refine ev_bind_eq (within_eq _ _ _) ?_
        | refine ev_ite (fun hc => ?_) (fun hc => ?_)
        | (rw [show decide ((log.length : Int) > 400) = true by grind]; exact T)
        | (exfalso; grind))
    · obtain ⟨_, _, a3, a4, a5, a6, _⟩ := h
      exact absurd ⟨a3, a4, a5, a6⟩ N2
  have walk : ∀ x, Ev (fun k => impl_NodeOk.l0 k sv 1 log (log.length : Int) ((0 : Nat) : Int) id term vote log commit role lead wait votes next mat) x → Ev (fun k => impl_NodeOk.f k id term vote log commit role lead wait votes next mat sv) x := by
    intro x F
    have F : Ev (fun k => impl_NodeOk.l0 k sv 1 log (log.length : Int) 0 id term vote log commit role lead wait votes next mat) x := F
    have G : Ev (fun k => impl_NodeOk.j0 k sv false id term vote log commit role lead wait votes next mat) x := Ev.step (fun k => by rw [impl_NodeOk.j0]) (ev_if_neg (by simp) F)
    unfold impl_NodeOk.f
    refine ev_bind_eq e0 (ev_if_pos (decide_eq_true N1) ?_)
    rw [w1]
    repeat' (first
      | exact G
      | refine ev_bind_eq (within_eq _ _ _) ?_
      | refine ev_ite (fun hc => ?_) (fun hc => ?_)
      | (rw [show decide ((log.length : Int) > 400) = false by grind]; exact G)
      | (exfalso; grind))
  have tail : ∃ q, (∀ p : Int, Ev (fun k => impl_NodeOk.l0 k sv p log (log.length : Int) ((log.length : Nat) : Int) id term vote log commit role lead wait votes next mat) q) ∧
      (q = true ↔ ((0 ≤ commit ∧ commit ≤ (log.length : Int)) ∧ (0 ≤ role ∧ role ≤ 2) ∧ (0 ≤ wait ∧ wait ≤ 20) ∧ (votes.length : Int) = sv ∧ (next.length : Int) = sv ∧ (mat.length : Int) = sv) ∧
        (role ≠ 0 → 1 ≤ term ∧ vote = id) ∧ (role = 2 → lead = id) ∧ ∀ i : Int, 0 ≤ i → i < sv → SrvP (log.length : Int) role votes next mat i ∧ VoteP role votes i) := by
    by_cases N3 : (0 ≤ commit ∧ commit ≤ (log.length : Int)) ∧ (0 ≤ role ∧ role ≤ 2) ∧ (0 ≤ wait ∧ wait ≤ 20) ∧ (votes.length : Int) = sv ∧ (next.length : Int) = sv ∧ (mat.length : Int) = sv
    case neg =>
      refine ⟨false, fun p => ?_, ⟨fun h => absurd h (by simp), fun h => absurd h.1 N3⟩⟩
      refine Ev.step (g := fun k => impl_NodeOk.l0 k _ _ _ _ _ _ _ _ _ _ _ _ _ _ _ _) (fun k => by rw [impl_NodeOk.l0]) ?_
      refine ev_if_neg (by omega) ?_
      repeat' (first
        | exact T2
        | refine ev_bind_eq (within_eq _ _ _) ?_
        | refine ev_ite (fun hc => ?_) (fun hc => ?_)
        | (rw [show ((mat.length : Int) != sv) = true by grind]; exact T2)
        | (exfalso; grind))
    obtain ⟨q, eq, hq⟩ := implNode_srv id term vote log commit role lead wait votes next mat sv N1.1.2 hn N3.2.2.2.2.1 N3.2.2.2.2.2 (sv - 0).toNat 0 (by omega) (by omega) rfl
    have F3 : Ev (fun k => impl_NodeOk.j3 k sv false id term vote log commit role lead wait votes next mat) q := Ev.step (fun k => by rw [impl_NodeOk.j3]) (ev_if_neg (by simp) eq)
    obtain ⟨v, ev, hv⟩ := containsTrue_ev votes hvn
    have hva := votes_all votes sv N3.2.2.2.1
    by_cases N4 : (role ≠ 0 → 1 ≤ term ∧ vote = id) ∧ (role = 2 → lead = id) ∧ (role = 0 → v ≠ true)
    · have F2 : Ev (fun k => impl_NodeOk.j2 k sv false id term vote log commit role lead wait votes next mat) q := by
        obtain ⟨n1, n2, n3⟩ := N4
        refine Ev.step (g := fun k => impl_NodeOk.j2 k _ _ _ _ _ _ _ _ _ _ _ _ _) (fun k => by rw [impl_NodeOk.j2]) ?_
        refine ev_if_neg (by simp) ?_
        repeat' (first
          | exact F3
          | refine Ev.bind ev ?_
          | refine ev_ite (fun hc => ?_) (fun hc => ?_)
          | (rw [show (lead != id) = false by grind]; exact F3)
          | (exfalso; grind))
      refine ⟨q, fun p => ?_, hq.trans ⟨fun h => ⟨N3, N4.1, N4.2.1, fun i h0 h1 => ⟨h i h0 h1, fun c => ?_⟩⟩, fun h i h0 h1 => (h.2.2.2 i h0 h1).1⟩⟩
      · refine Ev.step (g := fun k => impl_NodeOk.l0 k _ _ _ _ _ _ _ _ _ _ _ _ _ _ _ _) (fun k => by rw [impl_NodeOk.l0]) ?_
        refine ev_if_neg (by omega) ?_
        repeat' (first
          | exact F2
          | refine ev_bind_eq (within_eq _ _ _) ?_
          | refine ev_ite (fun hc => ?_) (fun hc => ?_)
          | (rw [show ((mat.length : Int) != sv) = false by grind]; exact F2)
          | (exfalso; grind))
      · exact hva.1 (fun z => N4.2.2 c (hv.2 z)) i h0 h1
    · have G2 : Ev (fun k => impl_NodeOk.j2 k sv false id term vote log commit role lead wait votes next mat) false := by
        refine Ev.step (g := fun k => impl_NodeOk.j2 k _ _ _ _ _ _ _ _ _ _ _ _ _) (fun k => by rw [impl_NodeOk.j2]) ?_
        refine ev_if_neg (by simp) ?_
        repeat' (first
          | exact T3
          | refine Ev.bind ev ?_
          | refine ev_ite (fun hc => ?_) (fun hc => ?_)
          | (rw [show (lead != id) = true by grind]; exact T3)
          | (exfalso; grind))
      refine ⟨false, fun p => ?_, ⟨fun h => absurd h (by simp), fun h => absurd ⟨h.2.1, h.2.2.1, fun c z => ?_⟩ N4⟩⟩
      · refine Ev.step (g := fun k => impl_NodeOk.l0 k _ _ _ _ _ _ _ _ _ _ _ _ _ _ _ _) (fun k => by rw [impl_NodeOk.l0]) ?_
        refine ev_if_neg (by omega) ?_
        repeat' (first
          | exact G2
          | refine ev_bind_eq (within_eq _ _ _) ?_
          | refine ev_ite (fun hc => ?_) (fun hc => ?_)
          | (rw [show ((mat.length : Int) != sv) = false by grind]; exact G2)
          | (exfalso; grind))
      · exact absurd (hv.1 z) (hva.2 (fun i h0 h1 => (h.2.2.2 i h0 h1).2 c))
  obtain ⟨q, eq, hq⟩ := tail
  obtain ⟨l1, l2⟩ := implNode_log id term vote log commit role lead wait votes next mat sv hn hf q eq log.length 0 1 (by omega) (by omega) (fun _ => rfl) (fun h => absurd h (by omega))
  by_cases L : LogFrom log term 0
  · refine ⟨q, walk q (l1 L), hq.trans ⟨fun h => ?_, fun h => ?_⟩⟩
    · obtain ⟨⟨b1, b2, b3, b4, b5, b6⟩, c1, c2, c3⟩ := h
      exact ⟨N1.1, N1.2, N2.1, N2.2.1, N2.2.2.1, N2.2.2.2, L, b1, b2, b3, b4, b5, b6, c1, c2, c3⟩
    · obtain ⟨_, _, _, _, _, _, _, b1, b2, b3, b4, b5, b6, c1, c2, c3⟩ := h
      exact ⟨⟨b1, b2, b3, b4, b5, b6⟩, c1, c2, c3⟩
  · refine ⟨false, walk false (l2 L), ⟨fun h => absurd h (by simp), fun h => ?_⟩⟩
    obtain ⟨_, _, _, _, _, _, a, _⟩ := h
    exact absurd a L

-- nodespec.lean: the reference's look at a server's state
theorem specNode_log (id term vote : Int) (log : List S147) (commit role lead wait : Int) (votes : List Bool) (next mat : List Int) (sv : Int) (hn : log.length ≤ 1048576) (hf : ∀ x ∈ log, fitItem x) (b : Bool)
    (hb : Ev (fun k => if role = 0 then (spec_NodeOk.j2 k sv false id term vote log commit role lead wait votes next mat) else (if term < 1 then (spec_NodeOk.j2 k sv true id term vote log commit role lead wait votes next mat) else (spec_NodeOk.j2 k sv (vote != id) id term vote log commit role lead wait votes next mat))) b) (d : Nat) :
    ∀ (i : Nat), i ≤ log.length → log.length - i = d →
    (LogFrom log term i → Ev (fun k => spec_NodeOk.l0 k sv (i : Int) id term vote log commit role lead wait votes next mat) b) ∧ (¬ LogFrom log term i → Ev (fun k => spec_NodeOk.l0 k sv (i : Int) id term vote log commit role lead wait votes next mat) false) := by
  induction d with
  | zero =>
    intro i hi hd
    exact ⟨fun _ => Ev.step (fun k => by rw [spec_NodeOk.l0]) (ev_if_neg (by omega) hb), fun h => absurd (logFrom_end log term i (by omega)) h⟩
  | succ d ih =>
    intro i hi hd
    have hi' : i < log.length := by omega
    obtain ⟨h1, h2⟩ := ih (i + 1) (by omega) (by omega)
    rw [Int.natCast_add, Int.natCast_one] at h1 h2
    have S := logFrom_step log term i hi'
    have fi := hf log[i] (List.getElem_mem hi')
    have e := specItemOk_ev log[i].f0 log[i].f1.f0 log[i].f1.f1 log[i].f1.f2.f0 log[i].f1.f2.f1 log[i].f1.f2.f2 log[i].f1.f2.f3 (by have := fi.1; omega)
    have ei : 0 < i → (i : Int) - 1 = ((i - 1 : Nat) : Int) := by omega
    have key : ∀ q : Bool, (LogP log term i hi' → Ev (fun k => spec_NodeOk.l0 k sv ((i : Int) + 1) id term vote log commit role lead wait votes next mat) q) → (¬ LogP log term i hi' → q = false) → Ev (fun k => spec_NodeOk.l0 k sv (i : Int) id term vote log commit role lead wait votes next mat) q := by
      intro q hq hq'
      refine Ev.step (fun k => by rw [spec_NodeOk.l0]) ?_
      rw [rd_T54_get log i hi', w64 (x := (i : Int) + 1) (by omega) (by omega)]
      refine ev_if_pos (by omega) (ev_if_pos (by omega) (Ev.bind e ?_))
      by_cases c1 : itemOkP log[i].f0 log[i].f1.f0 log[i].f1.f1 log[i].f1.f2.f0 log[i].f1.f2.f1 log[i].f1.f2.f2 log[i].f1.f2.f3 = true
      case neg => exact ev_if_neg c1 (ev_done (hq' (fun h => c1 h.1)).symm)
      refine ev_if_pos c1 ?_
      by_cases c2 : log[i].f0 > term
      · exact ev_if_pos c2 (ev_done (hq' (fun h => by have := h.2.1; omega)).symm)
      refine ev_if_neg c2 ?_
      by_cases c3 : 0 < i
      · refine ev_if_pos (by omega) ?_
        rw [w64 (x := (i : Int) - 1) (by omega) (by omega), ei c3, rd_T54_get log (i - 1) (by omega)]
        refine ev_if_pos (by omega) (ev_if_pos (by omega) ?_)
        by_cases c4 : log[i - 1].f0 > log[i].f0
        · exact ev_if_pos c4 (ev_done (hq' (fun h => by have := h.2.2 c3; omega)).symm)
        · exact ev_if_neg c4 (hq ⟨c1, by omega, fun _ => by omega⟩)
      · exact ev_if_neg (by omega) (hq ⟨c1, by omega, fun h => absurd h c3⟩)
    constructor
    · intro h
      exact key b (fun _ => h1 (S.1 h).2) (fun g => absurd (S.1 h).1 g)
    · intro h
      exact key false (fun g => h2 (fun z => h (S.2 ⟨g, z⟩))) (fun _ => rfl)
set_option maxHeartbeats 4000000 in
theorem specNode_srv (id term vote : Int) (log : List S147) (commit role lead wait : Int) (votes : List Bool) (next mat : List Int) (sv : Int) (hs : sv ≤ 5) (hn : log.length ≤ 1048576) (hv : (votes.length : Int) = sv) (hx : (next.length : Int) = sv) (hm : (mat.length : Int) = sv) (b : Bool)
    (hb : b = true ↔ (role = 2 → lead = id)) (d : Nat) :
    ∀ (i : Int), 0 ≤ i → i ≤ sv → (sv - i).toNat = d →
    ∃ q, Ev (fun k => spec_NodeOk.l1 k sv i id term vote log commit role lead wait votes next mat) q ∧ (q = true ↔ (role = 2 → lead = id) ∧ ∀ j, i ≤ j → j < sv → SrvP (log.length : Int) role votes next mat j ∧ VoteP role votes j) := by
  induction d with
  | zero =>
    intro i h0 hi hd
    refine ⟨b, Ev.step (fun k => by rw [spec_NodeOk.l1]) (ev_if_neg (by omega) ?_), hb.trans ⟨fun h => ⟨h, fun j h1 h2 => by omega⟩, fun h => h.1⟩⟩
    by_cases c : role = 2
    · refine ev_if_pos c (ev_done ?_)
      rw [Bool.eq_iff_iff, beq_iff_eq, hb]
      exact ⟨fun h _ => h, fun h => h c⟩
    · refine ev_if_neg c (ev_done ?_)
      exact (hb.2 (fun h => absurd h c)).symm
  | succ d ih =>
    intro i h0 hi hd
    obtain ⟨q, e, hq⟩ := ih (i + 1) (by omega) (by omega) (by omega)
    have e' : Ev (fun k => spec_NodeOk.l1 k sv (wrap64 (i + 1)) id term vote log commit role lead wait votes next mat) q := by
      rw [w64 (x := i + 1) (by omega) (by omega)]
      exact e
    by_cases P : SrvP (log.length : Int) role votes next mat i ∧ VoteP role votes i
    · refine ⟨q, ?_, hq.trans ⟨fun h => ⟨h.1, fun j h1 h2 => ?_⟩, fun h => ⟨h.1, fun j h1 h2 => h.2 j (by omega) h2⟩⟩⟩
      · obtain ⟨⟨p1, p2⟩, p3⟩ := P
        unfold VoteP at p3
        refine Ev.step (g := fun k => spec_NodeOk.l1 k _ _ _ _ _ _ _ _ _ _ _ _ _) (fun k => by rw [spec_NodeOk.l1]) ?_
        rw [w64 (x := (log.length : Int) + 1) (by omega) (by omega)]
        repeat' (first
          | exact e'
          | refine Ev.step (g := fun k => spec_NodeOk.j4 k _ _ _ _ _ _ _ _ _ _ _ _ _ _) (fun k => by rw [spec_NodeOk.j4]) ?_
          | refine Ev.step (g := fun k => spec_NodeOk.j5 k _ _ _ _ _ _ _ _ _ _ _ _ _ _) (fun k => by rw [spec_NodeOk.j5]) ?_
          | refine ev_ite (fun hc => ?_) (fun hc => ?_)
          | (exfalso; grind))
      · by_cases z : j = i
        · subst z
          exact P
        · exact h.2 j (by omega) h2
    · refine ⟨false, ?_, ⟨fun h => absurd h (by simp), fun h => absurd (h.2 i (by omega) (by omega)) P⟩⟩
      have P' : ¬ (((role = 2 → 1 ≤ rd next i ∧ rd next i ≤ (log.length : Int) + 1 ∧ 0 ≤ rd mat i ∧ rd mat i ≤ (log.length : Int)) ∧ (role ≠ 2 → rd next i = 0 ∧ rd mat i = 0)) ∧ (role = 0 → rdOf false votes i = false)) := P
      refine Ev.step (g := fun k => spec_NodeOk.l1 k _ _ _ _ _ _ _ _ _ _ _ _ _) (fun k => by rw [spec_NodeOk.l1]) ?_
      rw [w64 (x := (log.length : Int) + 1) (by omega) (by omega)]
      repeat' (first
        | exact Ev.now _
        | refine Ev.step (g := fun k => spec_NodeOk.j4 k _ _ _ _ _ _ _ _ _ _ _ _ _ _) (fun k => by rw [spec_NodeOk.j4]) ?_
        | refine Ev.step (g := fun k => spec_NodeOk.j5 k _ _ _ _ _ _ _ _ _ _ _ _ _ _) (fun k => by rw [spec_NodeOk.j5]) ?_
        | refine ev_ite (fun hc => ?_) (fun hc => ?_)
        | (exfalso; grind))
set_option maxHeartbeats 8000000 in
theorem specNodeOk_ev (id term vote : Int) (log : List S147) (commit role lead wait : Int) (votes : List Bool) (next mat : List Int) (sv : Int) (hn : log.length ≤ 1048576) (hf : ∀ x ∈ log, fitItem x) :
    ∃ b, Ev (fun k => spec_NodeOk.f k id term vote log commit role lead wait votes next mat sv) b ∧ (b = true ↔ NodeP id term vote log commit role lead wait votes next mat sv) := by
  have T : Ev (fun k => spec_NodeOk.j0 k sv true id term vote log commit role lead wait votes next mat) false := Ev.step (fun k => by rw [spec_NodeOk.j0]) (ev_if_pos rfl (Ev.now _))
  have e1 : spec_l4servers.f sv = some (decide (1 ≤ sv ∧ sv ≤ 5)) := by
    unfold spec_l4servers.f
    by_cases c : sv ≥ 1 <;> simp [c] <;> omega
  have e2 : spec_l3term.f term = some (decide (0 ≤ term ∧ term ≤ 100000)) := by
    unfold spec_l3term.f
    by_cases c : term ≥ 0 <;> simp [c] <;> omega
  have e3 : ∀ x, spec_l4who.f x sv = some (decide (-1 ≤ x ∧ x < sv)) := by
    intro x
    unfold spec_l4who.f
    by_cases c : x ≥ -1 <;> simp [c] <;> omega
  by_cases N : (1 ≤ sv ∧ sv ≤ 5) ∧ (0 ≤ id ∧ id < sv) ∧ (0 ≤ term ∧ term ≤ 100000) ∧ (-1 ≤ vote ∧ vote < sv) ∧ (-1 ≤ lead ∧ lead < sv) ∧ (log.length : Int) ≤ 400 ∧
      (0 ≤ commit ∧ commit ≤ (log.length : Int)) ∧ (0 ≤ role ∧ role ≤ 2) ∧ (0 ≤ wait ∧ wait ≤ 20) ∧ (votes.length : Int) = sv ∧ (next.length : Int) = sv ∧ (mat.length : Int) = sv
  · have R : ∃ q, (LogFrom log term 0 → Ev (fun k => spec_NodeOk.j0 k sv false id term vote log commit role lead wait votes next mat) q) ∧ (¬ LogFrom log term 0 → Ev (fun k => spec_NodeOk.j0 k sv false id term vote log commit role lead wait votes next mat) false) ∧
        (q = true ↔ (role ≠ 0 → 1 ≤ term ∧ vote = id) ∧ (role = 2 → lead = id) ∧ ∀ i : Int, 0 ≤ i → i < sv → SrvP (log.length : Int) role votes next mat i ∧ VoteP role votes i) := by
      have tail : ∃ q, Ev (fun k => if role = 0 then (spec_NodeOk.j2 k sv false id term vote log commit role lead wait votes next mat) else (if term < 1 then (spec_NodeOk.j2 k sv true id term vote log commit role lead wait votes next mat) else (spec_NodeOk.j2 k sv (vote != id) id term vote log commit role lead wait votes next mat))) q ∧
          (q = true ↔ (role ≠ 0 → 1 ≤ term ∧ vote = id) ∧ (role = 2 → lead = id) ∧ ∀ i : Int, 0 ≤ i → i < sv → SrvP (log.length : Int) role votes next mat i ∧ VoteP role votes i) := by
        have bb : ∃ b : Bool, b = true ↔ (role = 2 → lead = id) := ⟨decide (role = 2 → lead = id), by rw [decide_eq_true_iff]⟩
        obtain ⟨b, hb⟩ := bb
        obtain ⟨q, e, hq⟩ := specNode_srv id term vote log commit role lead wait votes next mat sv N.1.2 hn N.2.2.2.2.2.2.2.2.2.1 N.2.2.2.2.2.2.2.2.2.2.1 N.2.2.2.2.2.2.2.2.2.2.2 b hb (sv - 0).toNat 0 (by omega) (by omega) rfl
        have F : Ev (fun k => spec_NodeOk.j2 k sv false id term vote log commit role lead wait votes next mat) q := Ev.step (fun k => by rw [spec_NodeOk.j2]) (ev_if_neg (by simp) e)
        have G : Ev (fun k => spec_NodeOk.j2 k sv true id term vote log commit role lead wait votes next mat) false := Ev.step (fun k => by rw [spec_NodeOk.j2]) (ev_if_pos rfl (Ev.now _))
        by_cases c0 : role = 0
        · exact ⟨q, ev_if_pos c0 F, hq.trans ⟨fun h => ⟨fun z => absurd c0 z, h⟩, fun h => h.2⟩⟩
        by_cases c1 : term < 1
        · exact ⟨false, ev_if_neg c0 (ev_if_pos c1 G), ⟨fun h => absurd h (by simp), fun h => by have := (h.1 c0).1; omega⟩⟩
        by_cases c2 : vote = id
        · refine ⟨q, ev_if_neg c0 (ev_if_neg c1 ?_), hq.trans ⟨fun h => ⟨fun _ => ⟨by omega, c2⟩, h⟩, fun h => h.2⟩⟩
          rw [show (vote != id) = false by simp [c2]]
          exact F
        · refine ⟨false, ev_if_neg c0 (ev_if_neg c1 ?_), ⟨fun h => absurd h (by simp), fun h => absurd (h.1 c0).2 c2⟩⟩
          rw [show (vote != id) = true by simp [c2]]
          exact G
      obtain ⟨q, eq, hq⟩ := tail
      obtain ⟨l1, l2⟩ := specNode_log id term vote log commit role lead wait votes next mat sv hn hf q eq log.length 0 (by omega) (by omega)
      have J : ∀ x, Ev (fun k => spec_NodeOk.l0 k sv ((0 : Nat) : Int) id term vote log commit role lead wait votes next mat) x → Ev (fun k => spec_NodeOk.j0 k sv false id term vote log commit role lead wait votes next mat) x := by
        intro x h
        have h : Ev (fun k => spec_NodeOk.l0 k sv 0 id term vote log commit role lead wait votes next mat) x := h
        exact Ev.step (fun k => by rw [spec_NodeOk.j0]) (ev_if_neg (by simp) h)
      exact ⟨q, fun h => J _ (l1 h), fun h => J _ (l2 h), hq⟩
    obtain ⟨q, r1, r2, hq⟩ := R
    have walk : ∀ x, Ev (fun k => spec_NodeOk.j0 k sv false id term vote log commit role lead wait votes next mat) x → Ev (fun k => spec_NodeOk.f k id term vote log commit role lead wait votes next mat sv) x := by
      intro x F
      unfold spec_NodeOk.f
      repeat' (first
        | exact F
        | refine ev_bind_eq e1 ?_
        | refine ev_bind_eq e2 ?_
        | refine ev_bind_eq (e3 _) ?_
        | refine ev_ite (fun hc => ?_) (fun hc => ?_)
        | (rw [show ((mat.length : Int) != sv) = false by simp; omega]; exact F)
        | (exfalso; grind))
    by_cases L : LogFrom log term 0
    · refine ⟨q, walk q (r1 L), hq.trans ⟨fun h => ?_, fun h => ?_⟩⟩
      · exact ⟨N.1, N.2.1, N.2.2.1, N.2.2.2.1, N.2.2.2.2.1, N.2.2.2.2.2.1, L, N.2.2.2.2.2.2.1, N.2.2.2.2.2.2.2.1, N.2.2.2.2.2.2.2.2.1, N.2.2.2.2.2.2.2.2.2.1, N.2.2.2.2.2.2.2.2.2.2.1, N.2.2.2.2.2.2.2.2.2.2.2, h.1, h.2.1, h.2.2⟩
      · obtain ⟨_, _, _, _, _, _, _, _, _, _, _, _, _, a, b, c⟩ := h
        exact ⟨a, b, c⟩
    · refine ⟨false, walk false (r2 L), ⟨fun h => absurd h (by simp), fun h => ?_⟩⟩
      obtain ⟨_, _, _, _, _, _, a, _⟩ := h
      exact absurd a L
  · refine ⟨false, ?_, ⟨fun h => absurd h (by simp), fun h => ?_⟩⟩
    · unfold spec_NodeOk.f
      repeat' (first
        | exact T
        | refine ev_bind_eq e1 ?_
        | refine ev_bind_eq e2 ?_
        | refine ev_bind_eq (e3 _) ?_
        | refine ev_ite (fun hc => ?_) (fun hc => ?_)
        | (rw [show ((mat.length : Int) != sv) = true by grind]; exact T)
        | (exfalso; grind))
    · obtain ⟨a1, a2, a3, a4, a5, a6, _, a8, a9, a10, a11, a12, a13, _⟩ := h
      exact absurd ⟨a1, a2, a3, a4, a5, a6, a8, a9, a10, a11, a12, a13⟩ N

-- nodelaw.lean: a server's state: its size, its copy, its comparison; both programs' answers
theorem szNode_ev (x0 : S43) (h : okS43 x0) : ∃ r, Ev (fun k => laws_szNode.f k x0.f0 x0.f1 x0.f2 x0.f3 x0.f4 x0.f5 x0.f6 x0.f7 x0.f8 x0.f9 x0.f10 1048576) r ∧
    (0 ≤ r → x0.f3.length ≤ 1048576 ∧ (∀ x ∈ x0.f3, fitItem (cvItem x)) ∧ x0.f8.length ≤ 1048576 ∧ x0.f9.length ≤ 1048576 ∧ x0.f10.length ≤ 1048576) := by
  obtain ⟨_, _, _, ⟨h3, g3⟩, _, _, _, _, ⟨h8, _⟩, ⟨h9, _⟩, h10, _⟩ := h
  unfold laws_szNode.f
  obtain ⟨q, e, hq⟩ := szItemS_ev x0.f3 1048576 (by decide) (by decide) h3 (fun x hx => ⟨(g3 x hx).2.2.2.2.1.1, (g3 x hx).2.2.2.2.2.1.1⟩)
  by_cases c : q < 0
  · exact ⟨-1, Ev.bind e (ev_if_pos c (Ev.now _)), fun h => absurd h (by decide)⟩
  obtain ⟨q1, q2, q3⟩ := hq (by omega)
  obtain ⟨q', e', hq'⟩ := szBoolS_eq x0.f8 q (by omega) (by omega) h8
  by_cases c' : q' < 0
  · exact ⟨-1, Ev.bind e (ev_if_neg c (ev_bind_eq e' (ev_if_pos c' (Ev.now _)))), fun h => absurd h (by decide)⟩
  obtain ⟨r1, r2⟩ := hq' (by omega)
  obtain ⟨q2', e2, hq2⟩ := szIntS_eq x0.f9 q' (by omega) (by omega) h9
  by_cases c2 : q2' < 0
  · exact ⟨-1, Ev.bind e (ev_if_neg c (ev_bind_eq e' (ev_if_neg c' (ev_bind_eq e2 (ev_if_pos c2 (Ev.now _)))))), fun h => absurd h (by decide)⟩
  obtain ⟨s1, s2⟩ := hq2 (by omega)
  obtain ⟨q3', e3, hq3⟩ := szIntS_eq x0.f10 q2' (by omega) (by omega) h10
  by_cases c3 : q3' < 0
  · exact ⟨-1, Ev.bind e (ev_if_neg c (ev_bind_eq e' (ev_if_neg c' (ev_bind_eq e2 (ev_if_neg c2 (ev_bind_eq e3 (ev_if_pos c3 (Ev.now _)))))))), fun h => absurd h (by decide)⟩
  obtain ⟨u1, u2⟩ := hq3 (by omega)
  exact ⟨q3', Ev.bind e (ev_if_neg c (ev_bind_eq e' (ev_if_neg c' (ev_bind_eq e2 (ev_if_neg c2 (ev_bind_eq e3 (ev_if_neg c3 (Ev.now _)))))))), fun h => ⟨by omega, q3, by omega, by omega, by omega⟩⟩
theorem toNode_ev (a0 a1 a2 : Int) (l3 : List S199) (a4 a5 a6 a7 : Int) (l8 : List Bool) (l9 l10 : List Int) (h3 : l3.length ≤ 1048576) (g3 : ∀ x ∈ l3, fitItem (cvItem x)) (h8 : l8.length ≤ 1048576) (h9 : l9.length ≤ 1048576) (h10 : l10.length ≤ 1048576) :
    Ev (fun k => laws_toNode.f k a0 a1 a2 l3 a4 a5 a6 a7 l8 l9 l10) (a0, a1, a2, l3.map cvItem, a4, a5, a6, a7, l8, l9, l10) := by
  unfold laws_toNode.f
  refine Ev.bind (toItemS_ev l3 h3 g3) ?_
  refine Ev.bind (toBoolS_ev l8 h8) ?_
  refine Ev.bind (toIntS_ev l9 h9) ?_
  refine Ev.bind (toIntS_ev l10 h10) ?_
  exact Ev.now _
theorem eqNode_self (a0 a1 a2 : Int) (l3 : List S147) (a4 a5 a6 a7 : Int) (l8 : List Bool) (l9 l10 : List Int) (h3 : l3.length ≤ 1048576) (g3 : ∀ x ∈ l3, fitItem x) (h8 : l8.length ≤ 1048576) (h9 : l9.length ≤ 1048576) (h10 : l10.length ≤ 1048576) :
    Ev (fun k => laws_eqNode.f k a0 a1 a2 l3 a4 a5 a6 a7 l8 l9 l10 a0 a1 a2 l3 a4 a5 a6 a7 l8 l9 l10) true := by
  unfold laws_eqNode.f
  exact ev_if_pos rfl (ev_if_pos rfl (ev_if_pos rfl (Ev.bind (eqItemS_self l3 h3 g3) (ev_if_pos rfl (ev_if_pos rfl (ev_if_pos rfl (ev_if_pos rfl (ev_if_pos rfl (Ev.bind (eqBoolS_self l8 h8) (ev_if_pos rfl (Ev.bind (eqIntS_self l9 h9) (ev_if_pos rfl (Ev.bind (eqIntS_self l10 h10) (ev_if_pos rfl (Ev.now _)))))))))))))))
theorem nodes_same (id term vote : Int) (log : List S147) (commit role lead wait : Int) (votes : List Bool) (next mat : List Int) (sv : Int) (hw : (Lit.int .i64 sv).wf = true) (hn : log.length ≤ 1048576) (hvn : votes.length ≤ 1048576) (hf : ∀ x ∈ log, fitItem x) :
    ∃ b, Ev (fun k => spec_NodeOk.f k id term vote log commit role lead wait votes next mat sv) b ∧ Ev (fun k => impl_NodeOk.f k id term vote log commit role lead wait votes next mat sv) b ∧ (b = true ↔ NodeP id term vote log commit role lead wait votes next mat sv) := by
  obtain ⟨b, e, h⟩ := specNodeOk_ev id term vote log commit role lead wait votes next mat sv hn hf
  obtain ⟨v, e', h'⟩ := implNodeOk_ev id term vote log commit role lead wait votes next mat sv (wf_i64 hw) hn hvn hf
  have same : v = b := by
    have : v = true ↔ b = true := h'.trans h.symm
    cases v <;> cases b <;> simp_all
  exact ⟨b, e, same ▸ e', h⟩

-- termat.lean: the term at a place of a log
theorem termAt_eq (a0 a1 a2 : Int) (l3 : List S147) (a4 a5 a6 a7 : Int) (l8 : List Bool) (l9 l10 : List Int) (p : Int) (hw : -9223372036854775808 ≤ p ∧ p ≤ 9223372036854775807) (h3 : l3.length ≤ 1048576) :
    ∃ v, spec_l4termAt.f a0 a1 a2 l3 a4 a5 a6 a7 l8 l9 l10 p = some (v, a0, a1, a2, a4, a5, a6, a7) ∧ impl_Node_termAt.f a0 a1 a2 l3 a4 a5 a6 a7 l8 l9 l10 p = some v := by
  unfold spec_l4termAt.f impl_Node_termAt.f
  rw [within_eq, Option.bind_some]
  by_cases c1 : p < 1
  · rw [if_pos c1, if_neg (by rw [decide_eq_false (by omega)]; simp)]
    exact ⟨0, rfl, rfl⟩
  by_cases c2 : p > (l3.length : Int)
  · rw [if_neg c1, if_pos c2, if_neg (by rw [decide_eq_false (by omega)]; simp)]
    exact ⟨0, rfl, rfl⟩
  rw [if_neg c1, if_neg c2, if_pos (decide_eq_true (by omega)), w64 (x := p - 1) (by omega) (by omega), if_pos (by omega), if_pos (by omega), if_pos (by omega), if_pos (by omega)]
  exact ⟨_, rfl, rfl⟩

end Go.Proofs.Ytdgegnakiljfjaa.Pure
