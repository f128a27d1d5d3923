import Derived.Test.YtoaddpfoecggpaaPWx0
import Derived.Test.YtoaddpfoecggpaaPWx1
import Derived.Test.YtoaddpfoecggpaaPWx10
import Derived.Test.YtoaddpfoecggpaaPWx2
import Derived.Test.YtoaddpfoecggpaaPWx3
import Derived.Test.YtoaddpfoecggpaaPWx4
import Derived.Test.YtoaddpfoecggpaaPWx5
import Derived.Test.YtoaddpfoecggpaaPWx6
import Derived.Test.YtoaddpfoecggpaaPWx7
import Derived.Test.YtoaddpfoecggpaaPWx8
import Derived.Test.YtoaddpfoecggpaaPWx9
import Derived.Lib.Bytes
namespace Go.Proofs.Ytoaddpfoecggpaa.Pure
open Go.RowKit Go.Proofs.Ytoaddpfoecggpaa.PW Go.Proofs.YtoaddpfoecggpaaW.PrintWords Go.Proofs.YtoaddpfoecggpaaW.PrintLast Go.Proofs.YtoaddpfoecggpaaW.PrintMore
set_option linter.unusedVariables false
set_option linter.unusedSimpArgs false
theorem w64 {x : Int} (h0 : -9223372036854775808 ≤ x) (h1 : x ≤ 9223372036854775807) : wrap64 x = x := by
 unfold wrap64
 omega
theorem ev_if_pos {α : Type} {c : Prop} [Decidable c] {g f : Nat → Option α} {r : α} (h : c) (k : Ev g r) : Ev (fun n => if c then g n else f n) r := by
 simp only [if_pos h]
 exact k
theorem ev_if_neg {α : Type} {c : Prop} [Decidable c] {g f : Nat → Option α} {r : α} (h : ¬ c) (k : Ev f r) : Ev (fun n => if c then g n else f n) r := by
 simp only [if_neg h]
 exact k
theorem ev_bind_eq {α β : Type} {g : Option α} {f : Nat → α → Option β} {a : α} {r : β} (h : g = some a) (k : Ev (fun n => f n a) r) : Ev (fun n => g.bind (f n)) r := by
 subst h
 exact k
theorem rd_nat (l : List Int) (i : Nat) : rd l (i : Int) = l.getD i 0 := by
 unfold rd
 rw [Int.toNat_natCast]
theorem rd_get (l : List Int) (i : Nat) (h : i < l.length) : rd l (i : Int) = l[i] := by
 rw [rd_nat, List.getD_eq_getElem?_getD, List.getElem?_eq_getElem h]
 rfl
theorem take_set_succ {α : Type} (x l : List α) (i : Nat) (v : α) (hx : i < x.length) (hl : i < l.length) (h : x.take i = l.take i) (hv : v = l[i]) : (x.set i v).take (i + 1) = l.take (i + 1) := by
 rw [List.take_succ_eq_append_getElem (by simpa using hx), List.take_succ_eq_append_getElem hl, List.take_set_of_le (Nat.le_refl i), h, List.getElem_set_self, hv]
theorem eq_of_take {α : Type} {x l : List α} {n : Nat} (hx : x.length = n) (hl : l.length = n) (h : x.take n = l.take n) : x = l := by
 rw [List.take_of_length_le (by omega), List.take_of_length_le (by omega)] at h
 exact h
/-- What the marks are: k, k + 1, .. as bytes. -/
def marks (k : Int) (n : Nat) : List Int := (List.range n).map fun (j : Nat) => (k + (j : Int)) % 256
theorem marks_length (k : Int) (n : Nat) : (marks k n).length = n := by simp [marks]
theorem marks_get (k : Int) (n i : Nat) (h : i < (marks k n).length) : (marks k n)[i] = (k + (i : Int)) % 256 := by simp [marks]
theorem wf_u8 {n : Int} (h : (Lit.int .u8 n).wf = true) : 0 ≤ n ∧ n ≤ 255 := by
 simp [Lit.wf, IntKind.min, IntKind.max, IntKind.signed, IntKind.bits] at h
 omega
theorem ev_ite {α : Type} {c : Prop} [Decidable c] {g f : Nat → Option α} {r : α} (h : c → Ev g r) (h' : ¬ c → Ev f r) : Ev (fun n => if c then g n else f n) r := by
 by_cases hc : c
 ·exact ev_if_pos hc (h hc)
 ·exact ev_if_neg hc (h' hc)
theorem ev_done {α : Type} {a b : α} (h : a = b) : Ev (fun _ => some a) b := h ▸ Ev.now a
theorem ev_of {α : Type} {g : Nat → Option α} {a b : α} (h : Ev g a) (e : a = b) : Ev g b := e ▸ h
-- bytes.lean: the law package's helpers on bytes
theorem toByteS_loop (l : List Int) (hn : l.length ≤ 140737488351232) (d : Nat) : ∀ (x : List Int) (i : Nat), x.length = l.length → i ≤ l.length → l.length - i = d → x.take i = l.take i → Ev (fun k => laws_toByteS.l0 k l x (i : Int)) l := by
 induction d with
 | zero =>
  intro x i hx hi hd ht
  refine Ev.step (fun k => by rw [laws_toByteS.l0]) ?_
  refine ev_if_neg (by omega) ?_
  obtain rfl : i = l.length := by omega
  rw [eq_of_take hx rfl ht]
  exact Ev.now _
 | succ d ih =>
  intro x i hx hi hd ht
  refine Ev.step (fun k => by rw [laws_toByteS.l0]) ?_
  refine ev_if_pos (by omega) (ev_if_pos (by omega) (ev_if_pos (by omega) ?_))
  have h := ih (x.set i (rd l (i : Int))) (i + 1) (by rw [List.length_set]; exact hx) (by omega) (by omega) (take_set_succ x l i _ (by omega) (by omega) ht (rd_get l i (by omega)))
  rw [w64 (by omega) (by omega), Int.toNat_natCast]
  rw [Int.natCast_add, Int.natCast_one] at h
  exact h
theorem toByteS_ev (l : List Int) (hn : l.length ≤ 140737488351232) : Ev (fun k => laws_toByteS.f k l) l := by
 unfold laws_toByteS.f
 refine ev_if_pos (by omega) (ev_if_pos (by omega) ?_)
 exact toByteS_loop l hn l.length _ 0 (by rw [List.length_replicate, Int.toNat_natCast]) (by omega) (by omega) rfl
theorem eqByteS_loop (a b : List Int) (hn : a.length ≤ 140737488351232) (hab : a.length = b.length) (d : Nat) : ∀ (i : Nat), i ≤ a.length → a.length - i = d → a.take i = b.take i → Ev (fun k => laws_eqByteS.l0 k a b (i : Int)) (decide (a = b)) := by
 induction d with
 | zero =>
  intro i hi hd ht
  refine Ev.step (fun k => by rw [laws_eqByteS.l0]) ?_
  refine ev_if_neg (by omega) ?_
  obtain rfl : i = a.length := by omega
  rw [decide_eq_true (eq_of_take rfl hab.symm ht)]
  exact Ev.now _
 | succ d ih =>
  intro i hi hd ht
  refine Ev.step (fun k => by rw [laws_eqByteS.l0]) ?_
  refine ev_if_pos (by omega) (ev_if_pos (by omega) (ev_if_pos (by omega) ?_))
  by_cases e : rd a (i : Int) = rd b (i : Int)
  ·refine ev_if_pos e ?_
   have h := ih (i + 1) (by omega) (by omega) (by
    rw [rd_get a i (by omega), rd_get b i (by omega)] at e
    rw [List.take_succ_eq_append_getElem (by omega), List.take_succ_eq_append_getElem (by omega), ht, e])
   rw [w64 (by omega) (by omega)]
   rw [Int.natCast_add, Int.natCast_one] at h
   exact h
  ·refine ev_if_neg e ?_
   rw [decide_eq_false (fun h => e (by rw [h]))]
   exact Ev.now _
theorem eqByteS_ev (a b : List Int) (hn : a.length ≤ 140737488351232) : Ev (fun k => laws_eqByteS.f k a b) (decide (a = b)) := by
 by_cases hab : a.length = b.length
 ·unfold laws_eqByteS.f
  refine ev_if_pos (by omega) ?_
  exact eqByteS_loop a b hn hab a.length 0 (by omega) (by omega) rfl
 ·unfold laws_eqByteS.f
  refine ev_if_neg (by omega) ?_
  rw [decide_eq_false (fun h => hab (by rw [h]))]
  exact Ev.now _
theorem eqByteS_self (a : List Int) (hn : a.length ≤ 140737488351232) : Ev (fun k => laws_eqByteS.f k a a) true := by
 have h := eqByteS_ev a a hn
 rw [decide_eq_true rfl] at h
 exact h
-- marks.lean: what the laws write into what they are handed, and look for again
theorem markByteS_loop (n : Nat) (k0 : Int) (h0 : 0 ≤ k0) (hk : k0 + n ≤ 4611686018427387904) (d : Nat) : ∀ (x : List Int) (i : Nat), x.length = n → i ≤ n → n - i = d → x.take i = (marks k0 n).take i → Ev (fun k => laws_markByteS.l0 k x (k0 + (i : Int)) (i : Int)) (k0 + (n : Int), marks k0 n) := by
 induction d with
 | zero =>
  intro x i hx hi hd ht
  refine Ev.step (fun k => by rw [laws_markByteS.l0]) ?_
  refine ev_if_neg (by omega) ?_
  obtain rfl : i = n := by omega
  rw [eq_of_take hx (marks_length k0 i) ht]
  exact Ev.now _
 | succ d ih =>
  intro x i hx hi hd ht
  refine Ev.step (fun k => by rw [laws_markByteS.l0]) ?_
  refine ev_if_pos (by omega) (ev_if_pos (by omega) ?_)
  have h := ih (x.set i ((k0 + (i : Int)) % 256)) (i + 1) (by rw [List.length_set]; exact hx) (by omega) (by omega) (take_set_succ x (marks k0 n) i _ (by omega) (by rw [marks_length]; omega) ht (marks_get k0 n i _).symm)
  rw [w64 (by omega) (by omega), w64 (by omega) (by omega), Int.toNat_natCast]
  rw [Int.natCast_add, Int.natCast_one, ← Int.add_assoc] at h
  exact h
theorem markByteS_ev (l : List Int) (k0 : Int) (h0 : 0 ≤ k0) (hk : k0 + l.length ≤ 4611686018427387904) : Ev (fun k => laws_markByteS.f k l k0) (k0 + (l.length : Int), marks k0 l.length) := by
 have h := markByteS_loop l.length k0 h0 hk l.length l 0 rfl (by omega) (by omega) rfl
 simp only [Int.natCast_zero, Int.add_zero] at h
 exact h
theorem heldByteS_loop (n : Nat) (k0 : Int) (h0 : 0 ≤ k0) (hk : k0 + n ≤ 4611686018427387904) (d : Nat) : ∀ (i : Nat), i ≤ n → n - i = d → Ev (fun k => laws_heldByteS.l0 k (marks k0 n) (k0 + (i : Int)) (i : Int)) (k0 + (n : Int)) := by
 induction d with
 | zero =>
  intro i hi hd
  refine Ev.step (fun k => by rw [laws_heldByteS.l0]) ?_
  refine ev_if_neg (by rw [marks_length]; omega) ?_
  obtain rfl : i = n := by omega
  exact Ev.now _
 | succ d ih =>
  intro i hi hd
  refine Ev.step (fun k => by rw [laws_heldByteS.l0]) ?_
  refine ev_if_pos (by rw [marks_length]; omega) (ev_if_pos (by omega) (ev_if_pos (by rw [rd_get _ i (by rw [marks_length]; omega), marks_get]) ?_))
  have h := ih (i + 1) (by omega) (by omega)
  rw [w64 (by omega) (by omega), w64 (by omega) (by omega)]
  rw [Int.natCast_add, Int.natCast_one, ← Int.add_assoc] at h
  exact h
theorem heldByteS_ev (n : Nat) (k0 : Int) (h0 : 0 ≤ k0) (hk : k0 + n ≤ 4611686018427387904) : Ev (fun k => laws_heldByteS.f k (marks k0 n) k0) (k0 + (n : Int)) := by
 have h := heldByteS_loop n k0 h0 hk n 0 (by omega) (by omega)
 simp only [Int.natCast_zero, Int.add_zero] at h
 exact h
-- bytesp.lean: lists of bytes
def Bytes (l : List Int) : Prop := ∀ x ∈ l, (Lit.int .u8 x).wf = true
theorem bytes_nil : Bytes [] := fun x hx => by cases hx
theorem bytes_append {a b : List Int} (ha : Bytes a) (hb : Bytes b) : Bytes (a ++ b) := fun x hx => (List.mem_append.1 hx).elim (ha x) (hb x)
theorem bytes_take {a : List Int} (n : Nat) (ha : Bytes a) : Bytes (a.take n) := fun x hx => ha x (List.mem_of_mem_take hx)
-- treeok.lean: which trees are valid: told once for both programs
/-- Of a tree with so many levels left (25 at the root): is each part of it well formed? -/
def okD : Nat → S30 → Prop
 | 0, _ => False
 | r + 1, t => (t.f0.length = 0 ↔ r = 24) ∧ (t.f1 = true → 0 ≤ t.f2 ∧ t.f2 ≤ 2147483647) ∧ (t.f1 = false → t.f2 = 0) ∧ (r = 24 ∨ t.f1 = true ∨ 2 ≤ t.f3.length) ∧
   ∀ j, (h : j < t.f3.length) → okD r t.f3[j] ∧ (0 < j → rd (t.f3[j - 1]'(by omega)).f0 0 < rd t.f3[j].f0 0)
/-- How many parts it has. -/
def cntD : Nat → S30 → Nat
 | 0, _ => 1
 | r + 1, t => 1 + (t.f3.map (cntD r)).sum
/-- How long its longest key is. -/
def longD : Nat → S30 → Nat
 | 0, t => t.f0.length
 | r + 1, t => t.f0.length + (t.f3.map (longD r)).foldr max 0
/-- Its kids from one on. -/
def okFrom (r : Nat) (ks : List S30) (i : Nat) : Prop := ∀ j, i ≤ j → (h : j < ks.length) → okD r ks[j] ∧ (0 < j → rd (ks[j - 1]'(by omega)).f0 0 < rd ks[j].f0 0)
def cntFrom (r : Nat) (ks : List S30) (i : Nat) : Nat := ((ks.drop i).map (cntD r)).sum
def longFrom (r : Nat) (ks : List S30) (i : Nat) : Nat := ((ks.drop i).map (longD r)).foldr max 0
theorem okD_edge {r : Nat} {t : S30} (h : okD r t) (hr : r < 25) : 0 < t.f0.length := by
 cases r with
 | zero => exact h.elim
 | succ r =>
  have := h.1
  omega
theorem cntFrom_end (r : Nat) (ks : List S30) (i : Nat) (h : ks.length ≤ i) : cntFrom r ks i = 0 := by
 unfold cntFrom
 rw [List.drop_of_length_le h]
 rfl
theorem cntFrom_step (r : Nat) (ks : List S30) (i : Nat) (h : i < ks.length) : cntFrom r ks i = cntD r ks[i] + cntFrom r ks (i + 1) := by
 unfold cntFrom
 rw [List.drop_eq_getElem_cons h, List.map_cons, List.sum_cons]
theorem longFrom_end (r : Nat) (ks : List S30) (i : Nat) (h : ks.length ≤ i) : longFrom r ks i = 0 := by
 unfold longFrom
 rw [List.drop_of_length_le h]
 rfl
theorem longFrom_step (r : Nat) (ks : List S30) (i : Nat) (h : i < ks.length) : longFrom r ks i = max (longD r ks[i]) (longFrom r ks (i + 1)) := by
 unfold longFrom
 rw [List.drop_eq_getElem_cons h, List.map_cons, List.foldr_cons]
theorem okFrom_end (r : Nat) (ks : List S30) (i : Nat) (h : ks.length ≤ i) : okFrom r ks i := fun j h1 h2 => absurd h2 (by omega)
theorem okFrom_step (r : Nat) (ks : List S30) (i : Nat) (h : i < ks.length) : okFrom r ks i ↔ (okD r ks[i] ∧ (0 < i → rd (ks[i - 1]'(by omega)).f0 0 < rd ks[i].f0 0)) ∧ okFrom r ks (i + 1) := by
 constructor
 ·intro g
  exact ⟨g i (Nat.le_refl _) h, fun j h1 h2 => g j (by omega) h2⟩
 ·rintro ⟨a, b⟩ j h1 h2
  by_cases e : j = i
  ·subst e
   exact a
  ·exact b j (by omega) h2
theorem okD_succ (r : Nat) (t : S30) : okD (r + 1) t ↔ (t.f0.length = 0 ↔ r = 24) ∧ (t.f1 = true → 0 ≤ t.f2 ∧ t.f2 ≤ 2147483647) ∧ (t.f1 = false → t.f2 = 0) ∧ (r = 24 ∨ t.f1 = true ∨ 2 ≤ t.f3.length) ∧ okFrom r t.f3 0 := by
 rw [okD]
 unfold okFrom
 constructor
 ·rintro ⟨a, b, c, d, e⟩
  exact ⟨a, b, c, d, fun j _ h => e j h⟩
 ·rintro ⟨a, b, c, d, e⟩
  exact ⟨a, b, c, d, fun j h => e j (by omega) h⟩
theorem cntD_succ (r : Nat) (t : S30) : cntD (r + 1) t = 1 + cntFrom r t.f3 0 := by rw [cntD, cntFrom, List.drop_zero]
theorem longD_succ (r : Nat) (t : S30) : longD (r + 1) t = t.f0.length + longFrom r t.f3 0 := by rw [longD, longFrom, List.drop_zero]
theorem cntD_pos (r : Nat) (t : S30) : 0 < cntD r t := by
 cases r
 ·rw [cntD]; omega
 ·rw [cntD_succ]; omega
-- entries.lean: the keys of a valid tree, in order
/-- A part's entries, with what stands ahead. -/
def entsD : Nat → List Int → S30 → List S84
 | 0, _, _ => []
 | r + 1, ahead, t => (if t.f1 = true then [⟨ahead ++ t.f0, t.f2⟩] else []) ++ (t.f3.map (entsD r (ahead ++ t.f0))).flatten
def entsFrom (r : Nat) (ahead : List Int) (ks : List S30) (i : Nat) : List S84 := ((ks.drop i).map (entsD r ahead)).flatten
/-- How many there are. -/
def sizeD : Nat → S30 → Nat
 | 0, _ => 0
 | r + 1, t => (if t.f1 = true then 1 else 0) + (t.f3.map (sizeD r)).sum
def sizeFrom (r : Nat) (ks : List S30) (i : Nat) : Nat := ((ks.drop i).map (sizeD r)).sum
theorem entsFrom_end (r : Nat) (ahead : List Int) (ks : List S30) (i : Nat) (h : ks.length ≤ i) : entsFrom r ahead ks i = [] := by
 unfold entsFrom
 rw [List.drop_of_length_le h]
 rfl
theorem entsFrom_step (r : Nat) (ahead : List Int) (ks : List S30) (i : Nat) (h : i < ks.length) : entsFrom r ahead ks i = entsD r ahead ks[i] ++ entsFrom r ahead ks (i + 1) := by
 unfold entsFrom
 rw [List.drop_eq_getElem_cons h, List.map_cons, List.flatten_cons]
theorem sizeFrom_end (r : Nat) (ks : List S30) (i : Nat) (h : ks.length ≤ i) : sizeFrom r ks i = 0 := by
 unfold sizeFrom
 rw [List.drop_of_length_le h]
 rfl
theorem sizeFrom_step (r : Nat) (ks : List S30) (i : Nat) (h : i < ks.length) : sizeFrom r ks i = sizeD r ks[i] + sizeFrom r ks (i + 1) := by
 unfold sizeFrom
 rw [List.drop_eq_getElem_cons h, List.map_cons, List.sum_cons]
theorem entsD_succ (r : Nat) (ahead : List Int) (t : S30) : entsD (r + 1) ahead t = (if t.f1 = true then [⟨ahead ++ t.f0, t.f2⟩] else []) ++ entsFrom r (ahead ++ t.f0) t.f3 0 := by rw [entsD, entsFrom, List.drop_zero]
theorem sizeD_succ (r : Nat) (t : S30) : sizeD (r + 1) t = (if t.f1 = true then 1 else 0) + sizeFrom r t.f3 0 := by rw [sizeD, sizeFrom, List.drop_zero]
theorem sum_le (f g : S30 → Nat) (l : List S30) (h : ∀ x ∈ l, f x ≤ g x) : (l.map f).sum ≤ (l.map g).sum := by
 induction l with
 | nil => simp
 | cons x xs ih =>
  rw [List.map_cons, List.map_cons, List.sum_cons, List.sum_cons]
  have a := h x (List.mem_cons_self ..)
  have b := ih (fun y hy => h y (List.mem_cons_of_mem _ hy))
  omega
theorem sizeD_le (r : Nat) : ∀ t : S30, sizeD r t ≤ cntD r t := by
 induction r with
 | zero => intro t; rw [sizeD]; omega
 | succ r ih =>
  intro t
  rw [sizeD, cntD]
  have := sum_le (sizeD r) (cntD r) t.f3 (fun x _ => ih x)
  split <;> omega
theorem length_flatten_map (f : S30 → List S84) (g : S30 → Nat) (l : List S30) (h : ∀ x ∈ l, (f x).length = g x) : (l.map f).flatten.length = (l.map g).sum := by
 induction l with
 | nil => simp
 | cons x xs ih =>
  rw [List.map_cons, List.map_cons, List.flatten_cons, List.sum_cons, List.length_append, h x (List.mem_cons_self ..), ih (fun y hy => h y (List.mem_cons_of_mem _ hy))]
theorem entsD_length (r : Nat) : ∀ (ahead : List Int) (t : S30), (entsD r ahead t).length = sizeD r t := by
 induction r with
 | zero => intro ahead t; rw [entsD, sizeD]; rfl
 | succ r ih =>
  intro ahead t
  rw [entsD, sizeD, List.length_append, length_flatten_map _ (sizeD r) t.f3 (fun x _ => ih _ x)]
  split <;> simp
theorem sizeFrom_le (r : Nat) (ks : List S30) (i : Nat) : sizeFrom r ks i ≤ cntFrom r ks i := sum_le (sizeD r) (cntD r) _ (fun x _ => sizeD_le r x)
-- strs.lean: bytes as a string, compared
theorem strOf_list (a : List Int) : (strOfNums a).toList = a.map fun n => UInt8.ofNat n.toNat := Lib.strOfNums_toList a
theorem byte_inj {x y : Int} (h0 : 0 ≤ x) (h1 : x ≤ 255) (h2 : 0 ≤ y) (h3 : y ≤ 255) (h : UInt8.ofNat x.toNat = UInt8.ofNat y.toNat) : x = y := by
 have h4 := congrArg UInt8.toNat h
 simp at h4
 omega
theorem str_inj : ∀ (a b : List Int), (∀ x ∈ a, (Lit.int .u8 x).wf = true) → (∀ x ∈ b, (Lit.int .u8 x).wf = true) → (a.map fun n => UInt8.ofNat n.toNat) = (b.map fun n => UInt8.ofNat n.toNat) → a = b
 | [], [], _, _, _ => rfl
 | [], _ :: _, _, _, h => by simp at h
 | _ :: _, [], _, _, h => by simp at h
 | x :: a, y :: b, ha, hb, h => by
  simp only [List.map_cons, List.cons.injEq] at h
  have hx := wf_u8 (ha x List.mem_cons_self)
  have hy := wf_u8 (hb y List.mem_cons_self)
  rw [byte_inj hx.1 hx.2 hy.1 hy.2 h.1, str_inj a b (fun z hz => ha z (List.mem_cons_of_mem _ hz)) (fun z hz => hb z (List.mem_cons_of_mem _ hz)) h.2]
theorem str_eq (a b : List Int) (ha : ∀ x ∈ a, (Lit.int .u8 x).wf = true) (hb : ∀ x ∈ b, (Lit.int .u8 x).wf = true) : ((strOfNums a).toList == (strOfNums b).toList) = decide (a = b) := by
 rw [strOf_list, strOf_list, Bool.eq_iff_iff]
 simp only [beq_iff_eq, decide_eq_true_eq]
 exact ⟨str_inj a b ha hb, fun h => by rw [h]⟩
-- hasprefix.lean: HasPrefix of bytes
def hasP (a p : List Int) : Bool := decide (p.length ≤ a.length ∧ a.take p.length = p)
theorem implHasPrefix_eq (a p : List Int) (ha : Bytes a) (hp : Bytes p) : impl_HasPrefix.f a p = some (hasP a p) := by
 unfold impl_HasPrefix.f bytes_HasPrefix.f bytes_Equal.f hasP
 by_cases c : (a.length : Int) ≥ (p.length : Int)
 ·rw [if_pos c, if_pos (by omega), if_pos (by omega), Int.toNat_natCast, str_eq _ _ (bytes_take _ ha) hp]
  have hc : p.length ≤ a.length := by omega
  simp [hc]
 ·rw [if_neg c, decide_eq_false (fun h => c (by omega))]
  rfl
-- lcp.lean: how long two texts begin alike
def lcp : List Int → List Int → Nat
 | x :: a, y :: b => if x = y then lcp a b + 1 else 0
 | _, _ => 0
theorem lcp_le : ∀ a b : List Int, lcp a b ≤ a.length ∧ lcp a b ≤ b.length
 | [], b => by simp [lcp]
 | _ :: _, [] => by simp [lcp]
 | x :: a, y :: b => by
  have := lcp_le a b
  unfold lcp
  split
  ·simp; omega
  ·simp
theorem lcp_comm : ∀ a b : List Int, lcp a b = lcp b a
 | [], [] => rfl
 | [], _ :: _ => rfl
 | _ :: _, [] => rfl
 | x :: a, y :: b => by
  have := lcp_comm a b
  unfold lcp
  by_cases h : x = y
  ·rw [if_pos h, if_pos h.symm, this]
  ·rw [if_neg h, if_neg (fun z => h z.symm)]
theorem lcp_prefix : ∀ c p : List Int, (lcp c p = p.length) ↔ (p.length ≤ c.length ∧ c.take p.length = p)
 | [], [] => by simp [lcp]
 | [], y :: p => by simp [lcp]
 | x :: c, [] => by simp [lcp]
 | x :: c, y :: p => by
  have ih := lcp_prefix c p
  unfold lcp
  by_cases h : x = y
  ·rw [if_pos h, List.length_cons, List.length_cons, List.take_succ_cons, h]
   constructor
   ·intro z
    obtain ⟨z1, z2⟩ := ih.1 (by omega)
    exact ⟨by omega, by rw [z2]⟩
   ·intro ⟨z1, z2⟩
    have := ih.2 ⟨by omega, by simpa using z2⟩
    omega
  ·rw [if_neg h]
   constructor
   ·intro z
    simp at z
   ·intro ⟨z1, z2⟩
    rw [List.length_cons, List.take_succ_cons] at z2
    simp at z2
    exact absurd z2.1 h
theorem lcp_drop (a b : List Int) (i : Nat) (hi : i < a.length) (hj : i < b.length) (h : a[i] = b[i]) : lcp (a.drop i) (b.drop i) = lcp (a.drop (i + 1)) (b.drop (i + 1)) + 1 := by
 rw [List.drop_eq_getElem_cons hi, List.drop_eq_getElem_cons hj, lcp, if_pos h]
theorem implCommon_loop (a b : List Int) (hn : a.length ≤ 140737488351232) (d : Nat) : ∀ (i : Nat), i ≤ a.length → a.length - i = d → Ev (fun k => impl_Common.l0 k a b (i : Int)) ((i : Int) + (lcp (a.drop i) (b.drop i) : Int)) := by
 induction d with
 | zero =>
  intro i hi hd
  refine Ev.step (fun k => by rw [impl_Common.l0]) ?_
  refine ev_if_neg (by omega) (ev_done ?_)
  rw [List.drop_of_length_le (by omega)]
  simp [lcp]
 | succ d ih =>
  intro i hi hd
  refine Ev.step (fun k => by rw [impl_Common.l0]) ?_
  refine ev_if_pos (by omega) ?_
  by_cases hb : (i : Int) < (b.length : Int)
  ·refine ev_if_pos hb (ev_if_pos (by omega) ?_)
   by_cases e : rd a (i : Int) = rd b (i : Int)
   ·refine ev_if_pos e ?_
    have h := ih (i + 1) (by omega) (by omega)
    rw [w64 (by omega) (by omega)]
    rw [rd_get a i (by omega), rd_get b i (by omega)] at e
    rw [lcp_drop a b i (by omega) (by omega) e]
    rw [Int.natCast_add, Int.natCast_one] at h ⊢
    refine ev_of h (by omega)
   ·refine ev_if_neg e (ev_done ?_)
    rw [rd_get a i (by omega), rd_get b i (by omega)] at e
    rw [List.drop_eq_getElem_cons (show i < a.length by omega), List.drop_eq_getElem_cons (show i < b.length by omega), lcp, if_neg e]
    simp
  ·refine ev_if_neg hb (ev_done ?_)
   rw [List.drop_of_length_le (l := b) (by omega)]
   cases a.drop i <;> simp [lcp]
theorem implCommon_ev (a b : List Int) (hn : a.length ≤ 140737488351232) : Ev (fun k => impl_Common.f k a b) (lcp a b : Int) := by
 have h := implCommon_loop a b hn a.length 0 (by omega) (by omega)
 unfold impl_Common.f
 simp only [Int.natCast_zero, Int.zero_add, List.drop_zero] at h
 exact h
-- lcpspec.lean: the reference's Common
theorem specCommon_loop (a b : List Int) (hn : a.length ≤ 140737488351232) (d : Nat) : ∀ (i : Nat), i ≤ a.length → a.length - i = d → Ev (fun k => spec_Common.l0 k a b (i : Int)) ((i : Int) + (lcp (a.drop i) (b.drop i) : Int)) := by
 induction d with
 | zero =>
  intro i hi hd
  refine Ev.step (fun k => by rw [spec_Common.l0]) ?_
  refine ev_if_neg (by omega) (ev_done ?_)
  rw [List.drop_of_length_le (by omega)]
  simp [lcp]
 | succ d ih =>
  intro i hi hd
  refine Ev.step (fun k => by rw [spec_Common.l0]) ?_
  refine ev_if_pos (by omega) ?_
  by_cases hb : (i : Int) < (b.length : Int)
  ·refine ev_if_pos hb (ev_if_pos (by omega) ?_)
   by_cases e : rd a (i : Int) = rd b (i : Int)
   ·refine ev_if_pos e ?_
    have h := ih (i + 1) (by omega) (by omega)
    rw [w64 (by omega) (by omega)]
    rw [rd_get a i (by omega), rd_get b i (by omega)] at e
    rw [lcp_drop a b i (by omega) (by omega) e]
    rw [Int.natCast_add, Int.natCast_one] at h ⊢
    refine ev_of h (by omega)
   ·refine ev_if_neg e (ev_done ?_)
    rw [rd_get a i (by omega), rd_get b i (by omega)] at e
    rw [List.drop_eq_getElem_cons (show i < a.length by omega), List.drop_eq_getElem_cons (show i < b.length by omega), lcp, if_neg e]
    simp
  ·refine ev_if_neg hb (ev_done ?_)
   rw [List.drop_of_length_le (l := b) (by omega)]
   cases a.drop i <;> simp [lcp]
theorem specCommon_ev (a b : List Int) (hn : a.length ≤ 140737488351232) : Ev (fun k => spec_Common.f k a b) (lcp a b : Int) := by
 have h := specCommon_loop a b hn a.length 0 (by omega) (by omega)
 unfold spec_Common.f
 simp only [Int.natCast_zero, Int.zero_add, List.drop_zero] at h
 exact h
-- trees.lean: trees: what holds of one that was read, its copy
mutual
/-- A tree as the program has it. -/
def cvTree : S25 → S30
 | ⟨a, b, c, ks⟩ => ⟨a, b, c, cvTrees ks⟩
def cvTrees : List S25 → List S30
 | [] => []
 | x :: xs => cvTree x :: cvTrees xs
end
theorem cvTrees_map (l : List S25) : cvTrees l = l.map cvTree := by
 induction l with
 | nil => rw [cvTrees]; rfl
 | cons x xs ih => rw [cvTrees, ih]; rfl
theorem cvTree_eq (t : S25) : cvTree t = ⟨t.f0, t.f1, t.f2, t.f3.map cvTree⟩ := by
 cases t
 rw [cvTree, cvTrees_map]
/-- All of its rows are short. -/
inductive FitT : S25 → Prop
 | mk (t : S25) (h0 : t.f0.length ≤ 1048576) (h3 : t.f3.length ≤ 1048576) (hk : ∀ x ∈ t.f3, FitT x) : FitT t
inductive FitU : S30 → Prop
 | mk (t : S30) (h0 : t.f0.length ≤ 1048576) (h3 : t.f3.length ≤ 1048576) (hk : ∀ x ∈ t.f3, FitU x) : FitU t
theorem FitU.h0 {t : S30} (h : FitU t) : t.f0.length ≤ 1048576 := by cases h; assumption
theorem FitU.h3 {t : S30} (h : FitU t) : t.f3.length ≤ 1048576 := by cases h; assumption
theorem FitU.hk {t : S30} (h : FitU t) : ∀ x ∈ t.f3, FitU x := by cases h; assumption
theorem fit_cv {t : S25} (h : FitT t) : FitU (cvTree t) := by
 induction h with
 | mk t h0 h3 hk ih =>
  refine FitU.mk _ ?_ ?_ ?_
  ·rw [cvTree_eq]; exact h0
  ·rw [cvTree_eq]; show (t.f3.map cvTree).length ≤ _; rw [List.length_map]; exact h3
  ·intro x hx
   rw [cvTree_eq] at hx
   obtain ⟨y, hy, rfl⟩ := List.mem_map.1 hx
   exact ih y hy
theorem rd_T25_get (l : List S25) (i : Nat) (h : i < l.length) : rd_T25 l (i : Int) = l[i] := by
 unfold rd_T25
 rw [Int.toNat_natCast]
 simp [List.getD, h]
theorem rd_T30_get (l : List S30) (i : Nat) (h : i < l.length) : rd_T30 l (i : Int) = l[i] := by
 unfold rd_T30
 rw [Int.toNat_natCast]
 simp [List.getD, h]
-- treeform.lean: the shape of a tree's entries, their bytes, the order of kids
/-- All edges are bytes. -/
inductive ByU : S30 → Prop
 | mk (t : S30) (h0 : Bytes t.f0) (hk : ∀ x ∈ t.f3, ByU x) : ByU t
theorem ByU.h0 {t : S30} (h : ByU t) : Bytes t.f0 := by cases h; assumption
theorem ByU.hk {t : S30} (h : ByU t) : ∀ x ∈ t.f3, ByU x := by cases h; assumption
theorem by_cv {t : S25} (h : okS25 t) : ByU (cvTree t) := by
 induction h with
 | mk t h0 _ _ h3 g3 ih =>
  refine ByU.mk _ ?_ ?_
  ·rw [cvTree_eq]
   exact h0.2
  ·intro x hx
   rw [cvTree_eq] at hx
   obtain ⟨y, hy, rfl⟩ := List.mem_map.1 hx
   exact ih y hy
theorem mem_entsFrom (r : Nat) (ahead : List Int) (ks : List S30) (e : S84) : e ∈ entsFrom r ahead ks 0 ↔ ∃ j, ∃ h : j < ks.length, e ∈ entsD r ahead ks[j] := by
 unfold entsFrom
 rw [List.drop_zero, List.mem_flatten]
 constructor
 ·rintro ⟨l, hl, he⟩
  obtain ⟨x, hx, rfl⟩ := List.mem_map.1 hl
  obtain ⟨j, hj, rfl⟩ := List.mem_iff_getElem.1 hx
  exact ⟨j, hj, he⟩
 ·rintro ⟨j, hj, he⟩
  exact ⟨_, List.mem_map.2 ⟨ks[j], List.getElem_mem hj, rfl⟩, he⟩
theorem ents_form (r : Nat) : ∀ (ahead : List Int) (t : S30) (e : S84), e ∈ entsD r ahead t → ∃ s, e.f0 = ahead ++ t.f0 ++ s := by
 induction r with
 | zero => intro ahead t e h; rw [entsD] at h; simp at h
 | succ r ih =>
  intro ahead t e h
  rw [entsD_succ, List.mem_append] at h
  rcases h with h | h
  ·by_cases g : t.f1 = true
   ·rw [if_pos g, List.mem_singleton] at h
    subst h
    exact ⟨[], by simp⟩
   ·rw [if_neg g] at h
    simp at h
  ·obtain ⟨j, hj, he⟩ := (mem_entsFrom r _ _ e).1 h
   obtain ⟨s, hs⟩ := ih _ _ e he
   exact ⟨t.f3[j].f0 ++ s, by rw [hs]; simp⟩
theorem ents_bytes (r : Nat) : ∀ (ahead : List Int) (t : S30), Bytes ahead → ByU t → ∀ e ∈ entsD r ahead t, Bytes e.f0 := by
 induction r with
 | zero => intro ahead t _ _ e h; rw [entsD] at h; simp at h
 | succ r ih =>
  intro ahead t ha hb e h
  rw [entsD_succ, List.mem_append] at h
  rcases h with h | h
  ·by_cases g : t.f1 = true
   ·rw [if_pos g, List.mem_singleton] at h
    subst h
    exact bytes_append ha hb.h0
   ·rw [if_neg g] at h
    simp at h
  ·obtain ⟨j, hj, he⟩ := (mem_entsFrom r _ _ e).1 h
   exact ih _ _ (bytes_append ha hb.h0) (hb.hk _ (List.getElem_mem hj)) e he
theorem kids_mono {r : Nat} {ks : List S30} (h : okFrom r ks 0) : ∀ (i d : Nat) (hi : i < ks.length) (hj : i + d + 1 < ks.length), rd ks[i].f0 0 < rd (ks[i + d + 1]).f0 0 := by
 intro i d
 induction d with
 | zero =>
  intro hi hj
  have := (h (i + 1) (by omega) hj).2 (by omega)
  simpa using this
 | succ d ih =>
  intro hi hj
  have a := ih hi (by omega)
  have b := (h (i + d + 1 + 1) (by omega) hj).2 (by omega)
  have b2 : rd (ks[i + d + 1]).f0 0 < rd (ks[i + d + 1 + 1]).f0 0 := by simpa using b
  exact Int.lt_trans a b2
theorem kids_lt {r : Nat} {ks : List S30} (h : okFrom r ks 0) (i j : Nat) (hi : i < ks.length) (hj : j < ks.length) (hij : i < j) : rd ks[i].f0 0 < rd ks[j].f0 0 := by
 have := kids_mono h i (j - i - 1) hi (by omega)
 have e : i + (j - i - 1) + 1 = j := by omega
 simpa [e] using this
-- rdents.lean
theorem rd_T84_get (l : List S84) (i : Nat) (h : i < l.length) : rd_T84 l (i : Int) = l[i] := by
 unfold rd_T84
 rw [Int.toNat_natCast]
 simp [List.getD, h]
-- treegrown.lean: the program's tree of a valid tree's entries is that tree
theorem lcp_app : ∀ (p a b : List Int), lcp (p ++ a) (p ++ b) = p.length + lcp a b
 | [], a, b => by simp
 | x :: p, a, b => by
  rw [List.cons_append, List.cons_append, lcp, if_pos rfl, lcp_app p a b, List.length_cons]
  omega
theorem lcp_nil (a : List Int) : lcp [] a = 0 := by cases a <;> simp [lcp]
theorem lcp_heads (a b : List Int) (ha : 0 < a.length) (hb : 0 < b.length) (h : rd a 0 ≠ rd b 0) : lcp a b = 0 := by
 cases a with
 | nil => simp at ha
 | cons x a =>
  cases b with
  | nil => simp at hb
  | cons y b =>
   have h' : x ≠ y := by simpa [rd] using h
   rw [lcp, if_neg h']
theorem rd_app (p a : List Int) : rd (p ++ a) (p.length : Int) = rd a 0 := by
 unfold rd
 rw [Int.toNat_natCast, List.getD_eq_getElem?_getD, List.getD_eq_getElem?_getD, List.getElem?_append_right (by omega)]
 simp
theorem rd_app0 (a b : List Int) (h : 0 < a.length) : rd (a ++ b) 0 = rd a 0 := by
 cases a with
 | nil => simp at h
 | cons x a => simp [rd]
theorem ents_ne (r : Nat) : ∀ (pre : List Int) (t : S30), r < 25 → okD r t → entsD r pre t ≠ [] := by
 induction r with
 | zero => intro pre t _ h; exact h.elim
 | succ r ih =>
  intro pre t hr h
  obtain ⟨_, _, _, h4, ok⟩ := (okD_succ r t).1 h
  rw [entsD_succ]
  by_cases g : t.f1 = true
  ·rw [if_pos g]; simp
  ·have hn : 0 < t.f3.length := by
    rcases h4 with h4 | h4 | h4
    ·omega
    ·exact absurd h4 g
    ·omega
   rw [if_neg g, List.nil_append, entsFrom_step r _ _ 0 hn]
   have := ih (pre ++ t.f0) t.f3[0] (by omega) (ok 0 (by omega) hn).1
   simp [this]
theorem entsFrom_tail (r : Nat) (P : List Int) (ks : List S30) (hn : 0 < ks.length) (d : Nat) : ∀ i, i < ks.length → ks.length - 1 - i = d → ∃ X, entsFrom r P ks i = X ++ entsD r P (ks[ks.length - 1]'(by omega)) := by
 induction d with
 | zero =>
  intro i hi hd
  have e : i = ks.length - 1 := by omega
  subst e
  exact ⟨[], by rw [entsFrom_step r P ks _ hi, entsFrom_end r P ks _ (by omega)]; simp⟩
 | succ d ih =>
  intro i hi hd
  obtain ⟨X, hX⟩ := ih (i + 1) (by omega) (by omega)
  exact ⟨entsD r P ks[i] ++ X, by rw [entsFrom_step r P ks i hi, hX, List.append_assoc]⟩
theorem last_mem {α : Type} (X E : List α) (b : α) (hE : E ≠ []) (h : (X ++ E).getLast? = some b) : b ∈ E := by
 rw [List.getLast?_append] at h
 cases hg : E.getLast? with
 | none => exact absurd (List.getLast?_eq_none_iff.1 hg) hE
 | some z =>
  rw [hg] at h
  have : z = b := by simpa using h
  subst this
  exact List.mem_of_getLast? hg
theorem head_mem {α : Type} (X E : List α) (b : α) (hE : E ≠ []) (h : (E ++ X).head? = some b) : b ∈ E := by
 cases E with
 | nil => exact absurd rfl hE
 | cons z E =>
  have : z = b := by simpa using h
  subst this
  exact List.mem_cons_self
theorem ents_lcp (r : Nat) (pre : List Int) (t : S30) (hr : r < 25) (h : okD r t) (a b : S84) (ha : (entsD r pre t).head? = some a) (hb : (entsD r pre t).getLast? = some b) : lcp a.f0 b.f0 = (pre ++ t.f0).length := by
 cases r with
 | zero => exact h.elim
 | succ r =>
  have hbm := List.mem_of_getLast? hb
  obtain ⟨sb, hsb⟩ := ents_form _ _ _ _ hbm
  obtain ⟨_, _, _, h4, ok⟩ := (okD_succ r t).1 h
  rw [entsD_succ] at ha hb
  by_cases g : t.f1 = true
  ·rw [if_pos g] at ha
   have e : a = ⟨pre ++ t.f0, t.f2⟩ := by simpa using ha.symm
   rw [e, hsb]
   have := lcp_app (pre ++ t.f0) [] sb
   rw [List.append_nil, lcp_nil] at this
   rw [this]
   omega
  ·rw [if_neg g, List.nil_append] at ha hb
   have hn : 2 ≤ t.f3.length := by
    rcases h4 with h4 | h4 | h4
    ·omega
    ·exact absurd h4 g
    ·exact h4
   rw [entsFrom_step r _ _ 0 (by omega)] at ha
   have hm0 := head_mem _ _ _ (ents_ne r _ _ (by omega) (ok 0 (by omega) (by omega)).1) ha
   obtain ⟨X, hX⟩ := entsFrom_tail r (pre ++ t.f0) t.f3 (by omega) _ 0 (by omega) rfl
   rw [hX] at hb
   have hm1 := last_mem _ _ _ (ents_ne r _ _ (by omega) (ok (t.f3.length - 1) (by omega) (by omega)).1) hb
   obtain ⟨s0, e0⟩ := ents_form _ _ _ _ hm0
   obtain ⟨s1, e1⟩ := ents_form _ _ _ _ hm1
   have e0' : a.f0 = (pre ++ t.f0) ++ (t.f3[0].f0 ++ s0) := by rw [e0, List.append_assoc]
   have e1' : b.f0 = (pre ++ t.f0) ++ ((t.f3[t.f3.length - 1]'(by omega)).f0 ++ s1) := by rw [e1, List.append_assoc]
   have p0 := okD_edge (ok 0 (by omega) (by omega)).1 (show r < 25 by omega)
   have p1 := okD_edge (ok (t.f3.length - 1) (by omega) (by omega)).1 (show r < 25 by omega)
   have hlt := kids_lt ok 0 (t.f3.length - 1) (by omega) (by omega) (by omega)
   rw [e0', e1', lcp_app, lcp_heads _ _ (by rw [List.length_append]; omega) (by rw [List.length_append]; omega) (by rw [rd_app0 _ _ p0, rd_app0 _ _ p1]; omega)]
   omega
theorem grown_l1 (A R : List S84) (a1 : Nat) (x : List Int) (y : Bool) (z : Int) (kids : List S30) (c : Int) (cm : Nat) (kd : S30) (res : List Int × Bool × Int × List S30)
  (hA : 0 < A.length) (hn : A.length + R.length ≤ 1000000) (hlen : ∀ e ∈ A, a1 < e.f0.length) (hbyte : ∀ e ∈ A, rd e.f0 (a1 : Int) = c) (hR : ∀ e, R.head? = some e → a1 < e.f0.length ∧ rd e.f0 (a1 : Int) ≠ c)
  (hkids : kids.length < 2199023255552) (ha1 : a1 ≤ cm) (hcm : cm ≤ 1000000000)
  (hC : Ev (fun k => impl_Common.f k (A[0]).f0 (A[A.length - 1]'(by omega)).f0) (cm : Int))
  (hG : Ev (fun k => impl_grown.f k A (a1 : Int) ((cm : Int) - (a1 : Int))) (kd.f0, kd.f1, kd.f2, kd.f3))
  (hL : Ev (fun k => impl_grown.l0 k R (a1 : Int) x y z (kids ++ [kd])) res) (d : Nat) :
  ∀ i : Nat, 1 ≤ i → i ≤ A.length → A.length - i = d → Ev (fun k => impl_grown.l1 k (A ++ R) (a1 : Int) (i : Int) x y z kids) res := by
 have gA : ∀ j (h : j < A.length), rd_T84 (A ++ R) (j : Int) = A[j] := fun j h => by rw [rd_T84_get _ j (by rw [List.length_append]; omega), List.getElem_append_left h]
 have g0 : rd_T84 (A ++ R) 0 = A[0] := gA 0 hA
 have hw : wrap64 ((cm : Int) - (a1 : Int)) = (cm : Int) - (a1 : Int) := w64 (by omega) (by omega)
 have tail : Ev (fun k => (impl_Common.f k ((rd_T84 (A ++ R) 0).f0) ((rd_T84 (A ++ R) (wrap64 ((A.length : Int) - 1))).f0)).bind fun t => (impl_grown.f k ((A ++ R).take ((A.length : Int)).toNat) (a1 : Int) (wrap64 (t - (a1 : Int)))).bind fun bt => (if kids.length < 2199023255552 then (impl_grown.l0 k ((A ++ R).drop ((A.length : Int)).toNat) (a1 : Int) x y z (kids ++ [(⟨bt.1, bt.2.1, bt.2.2.1, bt.2.2.2⟩ : S30)])) else none)) res := by
  have e1 : wrap64 ((A.length : Int) - 1) = ((A.length - 1 : Nat) : Int) := by rw [w64 (by omega) (by omega)]; omega
  rw [g0, e1, gA _ (by omega), Int.toNat_natCast, List.take_left, List.drop_left]
  refine Ev.bind hC ?_
  rw [hw]
  cases kd with
  | mk k0 k1 k2 k3 => exact Ev.bind hG (ev_if_pos hkids hL)
 induction d with
 | zero =>
  intro i h1 hi hd
  have e : i = A.length := by omega
  subst e
  refine Ev.step (fun k => by rw [impl_grown.l1]) ?_
  have eW : 0 ≤ wrap64 ((A.length : Int) - 1) ∧ wrap64 ((A.length : Int) - 1) < ((A ++ R).length : Int) := by rw [w64 (by omega) (by omega), List.length_append]; omega
  have hl0 : (0 : Int) < ((A ++ R).length : Int) := by rw [List.length_append]; omega
  by_cases hlt : (A.length : Int) < ((A ++ R).length : Int)
  ·have hRl : 0 < R.length := by rw [List.length_append] at hlt; omega
   obtain ⟨e, R', rfl⟩ : ∃ e R', R = e :: R' := by
    cases R with
    | nil => simp at hRl
    | cons e R' => exact ⟨e, R', rfl⟩
   have gR : rd_T84 (A ++ e :: R') (A.length : Int) = e := by rw [rd_T84_get _ _ (by simp), List.getElem_append_right (by omega)]; simp
   obtain ⟨hr1, hr2⟩ := hR e rfl
   have h0m := hlen _ (List.getElem_mem hA)
   have h0b := hbyte _ (List.getElem_mem hA)
   refine ev_if_pos hlt (ev_if_pos (by omega) (ev_if_pos (by omega) (ev_if_pos (by rw [gR]; omega) (ev_if_pos hl0 (ev_if_pos (by rw [g0]; omega) (ev_if_neg (by rw [gR, g0, h0b]; exact hr2) (ev_if_pos (by omega) (ev_if_pos eW.1 (ev_if_pos eW.2 tail)))))))))
  ·refine ev_if_neg hlt (ev_if_pos (by omega) (ev_if_pos (by rw [List.length_append]; omega) (ev_if_pos hl0 (ev_if_pos eW.1 (ev_if_pos eW.2 tail)))))
 | succ d ih =>
  intro i h1 hi hd
  have hiA : i < A.length := by omega
  have h := ih (i + 1) (by omega) (by omega) (by omega)
  refine Ev.step (fun k => by rw [impl_grown.l1]) ?_
  have h0m := hlen _ (List.getElem_mem hA)
  have h0b := hbyte _ (List.getElem_mem hA)
  have him := hlen _ (List.getElem_mem hiA)
  have hib := hbyte _ (List.getElem_mem hiA)
  have hl : ((A ++ R).length : Int) = (A.length : Int) + (R.length : Int) := by rw [List.length_append]; omega
  rw [w64 (x := (i : Int) + 1) (by omega) (by omega)]
  rw [Int.natCast_add i, Int.natCast_one] at h
  exact ev_if_pos (by omega) (ev_if_pos (by omega) (ev_if_pos (by omega) (ev_if_pos (by rw [gA i hiA]; omega) (ev_if_pos (by omega) (ev_if_pos (by rw [g0]; omega) (ev_if_pos (by rw [gA i hiA, g0, hib, h0b]) h))))))
theorem grown_l0 (r : Nat) (hr : r < 25) (P : List Int) (ks : List S30) (ok : okFrom r ks 0) (hks : ks.length ≤ 1048576) (hP : P.length ≤ 900000000) (hE : (entsFrom r P ks 0).length ≤ 1000) (hed : ∀ x ∈ ks, x.f0.length ≤ 1048576) (x : List Int) (y : Bool) (z : Int)
  (hkey : ∀ j (h : j < ks.length), ∀ e ∈ entsD r P ks[j], e.f0.length ≤ 1000000000)
  (hk : ∀ j (h : j < ks.length), Ev (fun k => impl_grown.f k (entsD r P ks[j]) (P.length : Int) (ks[j].f0.length : Int)) (ks[j].f0, ks[j].f1, ks[j].f2, ks[j].f3)) (d : Nat) :
  ∀ i : Nat, i ≤ ks.length → ks.length - i = d → (entsFrom r P ks i).length ≤ 1000 → Ev (fun k => impl_grown.l0 k (entsFrom r P ks i) (P.length : Int) x y z (ks.take i)) (x, y, z, ks) := by
 induction d with
 | zero =>
  intro i hi hd _
  have e : i = ks.length := by omega
  subst e
  rw [entsFrom_end r P ks _ (Nat.le_refl _), List.take_length]
  exact Ev.step (fun k => by rw [impl_grown.l0]) (ev_if_neg (by simp) (Ev.now _))
 | succ d ih =>
  intro i hi hd hm
  have hi' : i < ks.length := by omega
  have oki := (ok i (by omega) hi').1
  have hne := ents_ne r P ks[i] hr oki
  have hpos : 0 < (entsD r P ks[i]).length := List.length_pos_iff.2 hne
  rw [entsFrom_step r P ks i hi'] at hm ⊢
  rw [List.length_append] at hm
  have h := ih (i + 1) (by omega) (by omega) (by omega)
  rw [List.take_succ_eq_append_getElem hi'] at h
  have hedge := okD_edge oki hr
  have hedl := hed _ (List.getElem_mem hi')
  refine Ev.step (fun k => by rw [impl_grown.l0]) (ev_if_pos (by rw [List.length_append]; omega) ?_)
  refine grown_l1 (entsD r P ks[i]) (entsFrom r P ks (i + 1)) P.length x y z (ks.take i) (rd ks[i].f0 0) (P.length + ks[i].f0.length) ks[i] _ hpos (by omega) ?_ ?_ ?_ (by rw [List.length_take]; omega) (by omega) (by omega) ?_ ?_ h _ 1 (Nat.le_refl _) (by omega) rfl
  ·intro e he
   obtain ⟨s, hs⟩ := ents_form _ _ _ _ he
   rw [hs, List.length_append, List.length_append]
   omega
  ·intro e he
   obtain ⟨s, hs⟩ := ents_form _ _ _ _ he
   rw [hs, List.append_assoc, rd_app, rd_app0 _ _ hedge]
  ·intro e he
   by_cases hl : i + 1 < ks.length
   ·have ok1 := (ok (i + 1) (by omega) hl).1
    rw [entsFrom_step r P ks (i + 1) hl] at he
    obtain ⟨s, hs⟩ := ents_form _ _ _ _ (head_mem _ _ _ (ents_ne r P _ hr ok1) he)
    have he1 := okD_edge ok1 hr
    have hlt := kids_lt ok i (i + 1) hi' hl (by omega)
    refine ⟨by rw [hs, List.length_append, List.length_append]; omega, ?_⟩
    rw [hs, List.append_assoc, rd_app, rd_app0 _ _ he1]
    omega
   ·rw [entsFrom_end r P ks _ (by omega)] at he
    simp at he
  ·have e := ents_lcp r P ks[i] hr oki (entsD r P ks[i])[0] (entsD r P ks[i])[(entsD r P ks[i]).length - 1] (by rw [List.head?_eq_getElem?, List.getElem?_eq_getElem hpos]) (by rw [List.getLast?_eq_getElem?, List.getElem?_eq_getElem (by omega)])
   rw [List.length_append] at e
   rw [← e]
   exact implCommon_ev _ _ (by have := hkey i hi' _ (List.getElem_mem hpos); omega)
  ·have := hk i hi'
   rw [show (((P.length + ks[i].f0.length : Nat) : Int) - (P.length : Int)) = (ks[i].f0.length : Int) by omega]
   exact this
theorem grown_ev (r : Nat) : ∀ (t : S30) (pre : List Int), r ≤ 25 → FitU t → okD r t → (entsD r pre t).length ≤ 1000 → (∀ e ∈ entsD r pre t, e.f0.length ≤ 1000000000) → pre.length ≤ (25 - r) * 1048576 → entsD r pre t ≠ [] →
  Ev (fun k => impl_grown.f k (entsD r pre t) (pre.length : Int) (t.f0.length : Int)) (t.f0, t.f1, t.f2, t.f3) := by
 induction r with
 | zero => intro t pre _ _ h; exact h.elim
 | succ r ih =>
  intro t pre hr hf h hm hkey hpre hne
  obtain ⟨_, _, h3, h4, ok⟩ := (okD_succ r t).1 h
  have h0 := hf.h0
  have hpb : (25 - (r + 1)) * 1048576 ≤ 25 * 1048576 := Nat.mul_le_mul_right _ (by omega)
  have hP : (pre ++ t.f0).length ≤ (25 - r) * 1048576 := by
   rw [List.length_append]
   have : (25 - r) * 1048576 = (25 - (r + 1)) * 1048576 + 1048576 := by
    rw [show 25 - r = (25 - (r + 1)) + 1 by omega, Nat.add_mul]
   omega
  have hpb2 : (25 - r) * 1048576 ≤ 25 * 1048576 := Nat.mul_le_mul_right _ (by omega)
  have hpos : 0 < (entsD (r + 1) pre t).length := List.length_pos_iff.2 hne
  have hm2 : (entsFrom r (pre ++ t.f0) t.f3 0).length ≤ 1000 := by
   rw [entsD_succ, List.length_append] at hm
   omega
  have hsub : ∀ j (hj : j < t.f3.length), ∀ e ∈ entsD r (pre ++ t.f0) t.f3[j], e ∈ entsD (r + 1) pre t := fun j hj e he => by
   rw [entsD_succ, List.mem_append]
   exact .inr ((mem_entsFrom r _ _ e).2 ⟨j, hj, he⟩)
  have hlen1 : ∀ j (hj : j < t.f3.length), (entsD r (pre ++ t.f0) t.f3[j]).length ≤ 1000 := fun j hj => by
   have hgen : ∀ (l : List S30) (y : S30), y ∈ l → (entsD r (pre ++ t.f0) y).length ≤ ((l.map (entsD r (pre ++ t.f0))).flatten).length := by
    intro l
    induction l with
    | nil => intro y hy; simp at hy
    | cons z zs ih2 =>
     intro y hy
     rw [List.map_cons, List.flatten_cons, List.length_append]
     rcases List.mem_cons.1 hy with rfl | hy
     ·omega
     ·have := ih2 y hy
      omega
   have := hgen t.f3 _ (List.getElem_mem hj)
   unfold entsFrom at hm2
   rw [List.drop_zero] at hm2
   omega
  have hl0 : Ev (fun k => impl_grown.l0 k (entsFrom r (pre ++ t.f0) t.f3 0) ((pre ++ t.f0).length : Int) t.f0 t.f1 t.f2 []) (t.f0, t.f1, t.f2, t.f3) := by
   have := grown_l0 r (by omega) (pre ++ t.f0) t.f3 ok hf.h3 (by omega) hm2 (fun x hx => (hf.hk x hx).h0) t.f0 t.f1 t.f2 (fun j hj e he => hkey e (hsub j hj e he)) (fun j hj => ih t.f3[j] (pre ++ t.f0) (by omega) (hf.hk _ (List.getElem_mem hj)) (ok j (by omega) hj).1 (hlen1 j hj) (fun e he => hkey e (hsub j hj e he)) hP (ents_ne r _ _ (by omega) (ok j (by omega) hj).1)) _ 0 (by omega) rfl hm2
   rw [List.take_zero] at this
   exact this
  obtain ⟨s, hs⟩ := ents_form _ _ _ _ (List.getElem_mem hpos)
  have g0 : (rd_T84 (entsD (r + 1) pre t) 0).f0 = pre ++ t.f0 ++ s := by rw [← hs]; exact congrArg S84.f0 (rd_T84_get _ 0 hpos)
  have hw : wrap64 ((pre.length : Int) + (t.f0.length : Int)) = ((pre ++ t.f0).length : Int) := by rw [w64 (by omega) (by omega), List.length_append]; omega
  have hcut : ((pre ++ t.f0 ++ s).take (pre ++ t.f0).length).drop pre.length = t.f0 := by rw [List.take_left, List.drop_left]
  have hlP : ((pre ++ t.f0).length : Int) = (pre.length : Int) + (t.f0.length : Int) := by rw [List.length_append]; omega
  refine Ev.step (fun k => by rw [impl_grown.f]) (ev_if_neg (by omega) (ev_if_pos (by omega) (ev_if_pos (by omega) ?_)))
  rw [hw, g0, Int.toNat_natCast, Int.toNat_natCast, hcut]
  refine ev_if_pos (by omega) (ev_if_pos (by simp only [List.length_append]; omega) (ev_bind_eq (by unfold slices_Clone_byte_byte.f; rw [if_pos (by omega)]) ?_))
  by_cases g : t.f1 = true
  ·have e : entsD (r + 1) pre t = ⟨pre ++ t.f0, t.f2⟩ :: entsFrom r (pre ++ t.f0) t.f3 0 := by rw [entsD_succ, if_pos g]; rfl
   have es : s = [] := by
    have h5 : (entsD (r + 1) pre t)[0]? = some ⟨pre ++ t.f0, t.f2⟩ := by rw [e]; rfl
    rw [List.getElem?_eq_getElem hpos] at h5
    have h6 := congrArg S84.f0 (Option.some.inj h5)
    rw [hs] at h6
    simpa using h6
   subst es
   have e2 : (rd_T84 (entsD (r + 1) pre t) 0).f1 = t.f2 := by
    have := rd_T84_get (entsD (r + 1) pre t) 0 hpos
    rw [show ((0 : Nat) : Int) = 0 from rfl] at this
    rw [this]
    have h5 : (entsD (r + 1) pre t)[0]? = some ⟨pre ++ t.f0, t.f2⟩ := by rw [e]; rfl
    rw [List.getElem?_eq_getElem hpos] at h5
    exact congrArg S84.f1 (Option.some.inj h5)
   rw [e2, List.append_nil]
   have e3 : (entsD (r + 1) pre t).drop 1 = entsFrom r (pre ++ t.f0) t.f3 0 := by rw [e]; rfl
   rw [e3]
   rw [g] at hl0
   rw [g]
   exact ev_if_pos rfl (ev_if_pos (by omega) (Ev.step (fun k => by rw [impl_grown.j0]) hl0))
  ·have gf : t.f1 = false := by simpa using g
   have e : entsD (r + 1) pre t = entsFrom r (pre ++ t.f0) t.f3 0 := by rw [entsD_succ, if_neg g, List.nil_append]
   have hs0 : 0 < s.length := by
    obtain ⟨j, hj, he⟩ := (mem_entsFrom r _ _ _).1 ((congrArg (fun l => (entsD (r + 1) pre t)[0] ∈ l) e).mp (List.getElem_mem hpos))
    obtain ⟨u, hu⟩ := ents_form _ _ _ _ he
    have hed := okD_edge (ok j (by omega) hj).1 (show r < 25 by omega)
    rw [hs] at hu
    have hu2 : (pre ++ t.f0) ++ s = (pre ++ t.f0) ++ (t.f3[j].f0 ++ u) := by rw [hu, List.append_assoc]
    have := List.append_cancel_left hu2
    rw [this, List.length_append]
    omega
   rw [gf, h3 gf] at hl0
   rw [gf, h3 gf, e]
   refine ev_if_neg (by rw [List.length_append]; omega) (Ev.step (fun k => by rw [impl_grown.j0]) hl0)
-- treecut.lean: a key cut out of a tree by the reference
def catN (c : Nat → List S30) : Nat → Nat → List S30
 | _, 0 => []
 | i, d + 1 => c i ++ catN c (i + 1) d
def sumN (g : Nat → Nat) : Nat → Nat → Nat
 | _, 0 => 0
 | i, d + 1 => g i + sumN g (i + 1) d
/-- Kids in order, all of them valid. -/
def Row (r : Nat) (ks : List S30) : Prop := (∀ x ∈ ks, okD r x) ∧ ks.Pairwise (fun a b => rd a.f0 0 < rd b.f0 0)
theorem row_of {r : Nat} {ks : List S30} (h : okFrom r ks 0) : Row r ks := by
 refine ⟨fun x hx => ?_, ?_⟩
 ·obtain ⟨j, hj, rfl⟩ := List.mem_iff_getElem.1 hx
  exact (h j (by omega) hj).1
 ·rw [List.pairwise_iff_getElem]
  intro i j hi hj hij
  exact kids_lt h i j hi hj hij
theorem row_ok {r : Nat} {ks : List S30} (h : Row r ks) : okFrom r ks 0 := by
 intro j _ hj
 refine ⟨h.1 _ (List.getElem_mem hj), fun h0 => ?_⟩
 exact (List.pairwise_iff_getElem.1 h.2) (j - 1) j (by omega) hj (by omega)
theorem okD_mono (r : Nat) : ∀ (t : S30), r + 1 < 25 → okD r t → okD (r + 1) t := by
 induction r with
 | zero => intro t _ h; exact h.elim
 | succ r ih =>
  intro t hr h
  obtain ⟨h1, h2, h3, h4, ok⟩ := (okD_succ r t).1 h
  refine (okD_succ (r + 1) t).2 ⟨⟨fun e => absurd (h1.1 e) (by omega), fun e => by omega⟩, h2, h3, ?_, ?_⟩
  ·rcases h4 with h4 | h4 | h4
   ·omega
   ·exact .inr (.inl h4)
   ·exact .inr (.inr h4)
  ·intro j hj hl
   exact ⟨ih _ (by omega) (ok j hj hl).1, (ok j hj hl).2⟩
theorem ents_more (r : Nat) : ∀ (pre : List Int) (t : S30), okD r t → entsD (r + 1) pre t = entsD r pre t := by
 induction r with
 | zero => intro pre t h; exact h.elim
 | succ r ih =>
  intro pre t h
  have ok := ((okD_succ r t).1 h).2.2.2.2
  rw [entsD_succ (r + 1), entsD_succ r]
  congr 1
  unfold entsFrom
  rw [List.drop_zero]
  congr 1
  apply List.map_congr_left
  intro x hx
  obtain ⟨j, hj, rfl⟩ := List.mem_iff_getElem.1 hx
  exact ih _ _ (ok j (by omega) hj).1
theorem tidy_ev (r : Nat) (hr : r < 25) (a : List Int) (b : Bool) (c : Int) (ks : List S30) (root : Bool) (hroot : root = true ↔ r = 24) (ha : a.length = 0 ↔ r = 24) (hal : a.length ≤ 1048576) (hb : b = true → 0 ≤ c ∧ c ≤ 2147483647) (hb2 : b = false → c = 0) (hk : Row r ks) (M : Nat) (hM : M ≤ 100000000) (hkl : ∀ x ∈ ks, x.f0.length ≤ M) (pre : List Int) :
  ∃ t' st, Ev (fun k => spec_l6tidy.f k a b c ks root) (t'.f0, t'.f1, t'.f2, t'.f3, st) ∧ (st = true → okD (r + 1) t' ∧ (r < 24 → rd t'.f0 0 = rd a 0)) ∧ (if st = true then entsD (r + 1) pre t' else []) = entsD (r + 1) pre ⟨a, b, c, ks⟩ ∧ (root = true → st = true) ∧ t'.f0.length ≤ a.length + M := by
 have stay : ∀ (hh : r = 24 ∨ b = true ∨ 2 ≤ ks.length), okD (r + 1) ⟨a, b, c, ks⟩ := fun hh => (okD_succ r _).2 ⟨ha, hb, hb2, hh, row_ok hk⟩
 unfold spec_l6tidy.f
 by_cases g1 : root = true
 ·refine ⟨⟨a, b, c, ks⟩, true, ev_if_pos g1 (Ev.step (fun k => by rw [spec_l6tidy.j0]) (ev_if_pos rfl (Ev.now _))), fun _ => ⟨stay (.inl (hroot.1 g1)), fun _ => rfl⟩, rfl, fun _ => rfl, Nat.le_add_right _ _⟩
 by_cases g2 : b = true
 ·refine ⟨⟨a, b, c, ks⟩, true, ev_if_neg g1 (ev_if_pos g2 (Ev.step (fun k => by rw [spec_l6tidy.j0]) (ev_if_pos rfl (Ev.now _)))), fun _ => ⟨stay (.inr (.inl g2)), fun _ => rfl⟩, rfl, fun _ => rfl, Nat.le_add_right _ _⟩
 have g2f : b = false := by simpa using g2
 by_cases g3 : (ks.length : Int) > 1
 ·refine ⟨⟨a, b, c, ks⟩, true, ev_if_neg g1 (ev_if_neg g2 (Ev.step (fun k => by rw [spec_l6tidy.j0]) (ev_if_pos (decide_eq_true g3) (Ev.now _)))), fun _ => ⟨stay (.inr (.inr (by omega))), fun _ => rfl⟩, rfl, fun _ => rfl, Nat.le_add_right _ _⟩
 have hnr : r ≠ 24 := fun e => g1 (hroot.2 e)
 by_cases g4 : (ks.length : Int) = 0
 ·refine ⟨⟨a, b, c, ks⟩, false, ev_if_neg g1 (ev_if_neg g2 (Ev.step (fun k => by rw [spec_l6tidy.j0]) (ev_if_neg (by rw [decide_eq_false g3]; simp) (ev_if_pos g4 (Ev.now _))))), fun h => absurd h (by simp), ?_, fun h => absurd h g1, Nat.le_add_right _ _⟩
  have e : ks = [] := List.eq_nil_of_length_eq_zero (by omega)
  subst e
  rw [if_neg (by simp), entsD_succ, if_neg g2]
  rfl
 ·obtain ⟨x, rfl⟩ : ∃ x, ks = [x] := by
   match ks, g3, g4 with
   | [], _, h => simp at h
   | [x], _, _ => exact ⟨x, rfl⟩
   | _ :: _ :: _, h, _ => simp at h; omega
  have okx := hk.1 x List.mem_cons_self
  have hxl := hkl x List.mem_cons_self
  have okx2 := okD_mono r x (by omega) okx
  have hal0 : 0 < a.length := by
   rcases Nat.eq_zero_or_pos a.length with h | h
   ·exact absurd (ha.1 h) hnr
   ·exact h
  obtain ⟨q1, q2, q3, q4, q5⟩ := (okD_succ r x).1 okx2
  have hev : Ev (fun k => spec_l6tidy.j0 k (decide (([x].length : Int) > 1)) a b c [x]) (a ++ x.f0, x.f1, x.f2, x.f3, true) := by
   refine Ev.step (fun k => by rw [spec_l6tidy.j0]) ?_
   refine ev_if_neg (by simp) ?_
   refine ev_if_neg (by simp) ?_
   refine ev_if_pos (by simp) ?_
   refine ev_bind_eq rfl ?_
   refine ev_if_pos (by simp; omega) ?_
   refine ev_bind_eq rfl ?_
   rw [List.nil_append]
   have e : rd_T30 [x] 0 = x := rd_T30_get [x] 0 (by simp)
   rw [e]
   exact ev_if_pos (by omega) (Ev.now _)
  refine ⟨⟨a ++ x.f0, x.f1, x.f2, x.f3⟩, true, ev_if_neg g1 (ev_if_neg g2 hev), fun _ => ⟨(okD_succ r _).2 ⟨⟨fun e => ?_, fun e => absurd e hnr⟩, q2, q3, q4, q5⟩, fun _ => rd_app0 _ _ hal0⟩, ?_, fun _ => rfl, by show (a ++ x.f0).length ≤ _; rw [List.length_append]; omega⟩
  ·have e2 : (a ++ x.f0).length = 0 := e
   rw [List.length_append] at e2
   omega
  ·rw [if_pos rfl, entsD_succ r pre ⟨a, b, c, [x]⟩, if_neg g2]
   have e1 : entsFrom r (pre ++ a) [x] 0 = entsD r (pre ++ a) x := by rw [entsFrom_step r _ _ 0 (by simp), entsFrom_end r _ _ 1 (by simp)]; simp
   show entsD (r + 1) pre ⟨a ++ x.f0, x.f1, x.f2, x.f3⟩ = [] ++ entsFrom r (pre ++ a) [x] 0
   rw [e1, ← ents_more r _ x okx, entsD_succ, entsD_succ, List.nil_append, List.append_assoc]
theorem cut_loop {all : Bool} (key : List Int) (root : Bool) (a : List Int) (b : Bool) (c : Int) (ks : List S30) (hkey : 0 < key.length) (hn : ks.length ≤ 1048576) (cc : Nat → List S30) (gs : Nat → Nat) (hc1 : ∀ i, (cc i).length ≤ 1)
  (hk : ∀ i (h : i < ks.length), 0 < ks[i].f0.length ∧ (rd ks[i].f0 0 = rd key 0 → ∃ x st, Ev (fun k => spec_l6cut.f k ks[i].f0 ks[i].f1 ks[i].f2 ks[i].f3 key all false) (x.f0, x.f1, x.f2, x.f3, st, (gs i : Int)) ∧ cc i = if st = true then [x] else []) ∧ (rd ks[i].f0 0 ≠ rd key 0 → cc i = [ks[i]] ∧ gs i = 0))
  (t' : S30) (st' : Bool) (d : Nat) : ∀ (i : Nat) (out : List S30) (g : Nat), i ≤ ks.length → ks.length - i = d → g + sumN gs i d ≤ 1000000 → out.length ≤ i → Ev (fun k => spec_l6tidy.f k a b c (out ++ catN cc i d) root) (t'.f0, t'.f1, t'.f2, t'.f3, st') →
   Ev (fun k => spec_l6cut.l0 k key all root (g : Int) out (i : Int) a b c ks) (t'.f0, t'.f1, t'.f2, t'.f3, st', ((g + sumN gs i d : Nat) : Int)) := by
 induction d with
 | zero =>
  intro i out g hi hd hg ho ht
  rw [catN, List.append_nil] at ht
  refine Ev.step (fun k => by rw [spec_l6cut.l0]) (ev_if_neg (by omega) ?_)
  refine Ev.bind ht ?_
  rw [sumN, Nat.add_zero]
  exact Ev.now _
 | succ d ih =>
  intro i out g hi hd hg ho ht
  have hi' : i < ks.length := by omega
  obtain ⟨h0, hm, hne⟩ := hk i hi'
  rw [catN, ← List.append_assoc] at ht
  rw [sumN] at hg ⊢
  have ho2 : (out ++ cc i).length ≤ i + 1 := by have := hc1 i; rw [List.length_append]; omega
  have h := ih (i + 1) (out ++ cc i) (g + gs i) (by omega) (by omega) (by omega) ho2 ht
  rw [Int.natCast_add i, Int.natCast_one, Nat.add_assoc g] at h
  refine Ev.step (fun k => by rw [spec_l6cut.l0]) ?_
  rw [rd_T30_get ks i hi', w64 (x := (i : Int) + 1) (by omega) (by omega)]
  refine ev_if_pos (by omega) (ev_if_pos (by omega) (ev_if_pos (by omega) (ev_if_pos (by omega) ?_)))
  by_cases e : rd ks[i].f0 0 = rd key 0
  ·obtain ⟨x, st, ex, ecc⟩ := hm e
   have hw : wrap64 ((g : Int) + (gs i : Int)) = ((g + gs i : Nat) : Int) := by rw [w64 (by omega) (by omega)]; omega
   refine ev_if_pos e (Ev.bind ex ?_)
   dsimp only
   rw [hw]
   by_cases hst : st = true
   ·rw [if_pos hst] at ecc
    rw [ecc] at h
    cases x with
    | mk x0 x1 x2 x3 => exact ev_if_pos hst (ev_if_pos (by omega) h)
   ·rw [if_neg hst] at ecc
    rw [ecc, List.append_nil] at h
    exact ev_if_neg hst h
  ·obtain ⟨ecc, eg⟩ := hne e
   rw [ecc, eg] at h
   rw [eg]
   refine ev_if_neg e (ev_if_pos (by omega) ?_)
   generalize ks[i] = y at h
   cases y with
   | mk y0 y1 y2 y3 => exact h
theorem catN_mem (cc : Nat → List S30) (d : Nat) : ∀ i y, y ∈ catN cc i d → ∃ j, i ≤ j ∧ j < i + d ∧ y ∈ cc j := by
 induction d with
 | zero => intro i y h; simp [catN] at h
 | succ d ih =>
  intro i y h
  rw [catN, List.mem_append] at h
  rcases h with h | h
  ·exact ⟨i, Nat.le_refl _, by omega, h⟩
  ·obtain ⟨j, h1, h2, h3⟩ := ih _ _ h
   exact ⟨j, by omega, by omega, h3⟩
theorem catN_row {r : Nat} {ks : List S30} (cc : Nat → List S30) (hr : Row r ks) (h1 : ∀ i, (cc i).length ≤ 1) (h : ∀ j (hj : j < ks.length), ∀ y ∈ cc j, okD r y ∧ rd y.f0 0 = rd ks[j].f0 0) (d : Nat) : ∀ i, i + d ≤ ks.length → Row r (catN cc i d) := by
 induction d with
 | zero => intro i _; exact ⟨fun x hx => by simp [catN] at hx, by simp [catN]⟩
 | succ d ih =>
  intro i hi
  obtain ⟨a, b⟩ := ih (i + 1) (by omega)
  rw [catN]
  refine ⟨fun x hx => ?_, ?_⟩
  ·rcases List.mem_append.1 hx with hx | hx
   ·exact (h i (by omega) x hx).1
   ·exact a x hx
  ·rw [List.pairwise_append]
   refine ⟨?_, b, ?_⟩
   ·have := h1 i
    match cc i, this with
    | [], _ => exact List.Pairwise.nil
    | [z], _ => exact List.pairwise_singleton _ _
    | _ :: _ :: _, h => simp at h
   ·intro x hx y hy
    obtain ⟨j, j1, j2, j3⟩ := catN_mem cc d _ _ hy
    rw [(h i (by omega) x hx).2, (h j (by omega) y j3).2]
    exact (List.pairwise_iff_getElem.1 hr.2) i j (by omega) (by omega) (by omega)
theorem catN_ents {r : Nat} {P : List Int} {ks : List S30} (cc : Nat → List S30) (p : S84 → Bool) (h : ∀ j (hj : j < ks.length), ((cc j).map (entsD r P)).flatten = (entsD r P ks[j]).filter p) (d : Nat) : ∀ i, i + d = ks.length → ((catN cc i d).map (entsD r P)).flatten = (entsFrom r P ks i).filter p := by
 induction d with
 | zero =>
  intro i hi
  rw [entsFrom_end r P ks i (by omega)]
  simp [catN]
 | succ d ih =>
  intro i hi
  rw [catN, List.map_append, List.flatten_append, h i (by omega), ih (i + 1) (by omega), entsFrom_step r P ks i (by omega), List.filter_append]
theorem sumN_count {r : Nat} {P : List Int} {ks : List S30} (gs : Nat → Nat) (p : S84 → Bool) (h : ∀ j (hj : j < ks.length), gs j = (entsD r P ks[j]).countP p) (d : Nat) : ∀ i, i + d = ks.length → sumN gs i d = (entsFrom r P ks i).countP p := by
 induction d with
 | zero =>
  intro i hi
  rw [entsFrom_end r P ks i (by omega)]
  rfl
 | succ d ih =>
  intro i hi
  rw [sumN, h i (by omega), ih (i + 1) (by omega), entsFrom_step r P ks i (by omega), List.countP_append]
theorem none_is {l : List S84} {p : S84 → Bool} (h : ∀ e ∈ l, p e = false) : l.countP p = 0 ∧ l.filter (fun e => !p e) = l :=
 ⟨List.countP_eq_zero.2 (fun e he => by rw [h e he]; simp), List.filter_eq_self.2 (fun e he => by rw [h e he]; rfl)⟩
theorem pick_lt {α : Type} [Inhabited α] {n : Nat} {p : Nat → α → Prop} (h : ∀ i, i < n → ∃ x, p i x) : ∃ f : Nat → α, ∀ i, i < n → p i (f i) :=
 ⟨fun i => if hi : i < n then (h i hi).choose else default, fun i hi => by
  show p i (if hi : i < n then (h i hi).choose else default)
  rw [dif_pos hi]
  exact (h i hi).choose_spec⟩
-- concat.lean: two rows in one
theorem rd_L1_0 (a b : List Int) : rd_L1 [a, b] 0 = a := rfl
theorem rd_L1_1 (a b : List Int) : rd_L1 [a, b] 1 = b := rfl
theorem grow_eq (l : List Int) (n : Int) (h0 : 0 ≤ n) (h1 : n < 140737488355328) : slices_Grow_byte_byte.f l n = some [] := by
 unfold slices_Grow_byte_byte.f
 rw [if_pos h0, if_pos h1]
theorem concat2_ev (a b : List Int) (ha : a.length ≤ 1073741824) (hb : b.length ≤ 1073741824) : Ev (fun k => slices_Concat_byte_byte.f k [a, b]) (a ++ b) := by
 unfold slices_Concat_byte_byte.f
 have z1 : wrap64 (0 + 1) = 1 := w64 (by decide) (by decide)
 have z2 : wrap64 (1 + 1) = 2 := w64 (by decide) (by decide)
 have e1 : wrap64 (0 + (a.length : Int)) = (a.length : Int) := by rw [w64 (by omega) (by omega)]; omega
 have e2 : wrap64 ((a.length : Int) + (b.length : Int)) = (a.length : Int) + (b.length : Int) := w64 (by omega) (by omega)
 refine Ev.step (fun k => by rw [slices_Concat_byte_byte.l0]) ?_
 rw [rd_L1_0, e1, z1]
 refine ev_if_pos (by simp) (ev_if_pos (by omega) (ev_if_pos (by simp) (ev_if_neg (by omega) ?_)))
 refine Ev.step (fun k => by rw [slices_Concat_byte_byte.l0]) ?_
 rw [rd_L1_1, e2, z2]
 refine ev_if_pos (by simp) (ev_if_pos (by omega) (ev_if_pos (by simp) (ev_if_neg (by omega) ?_)))
 refine Ev.step (fun k => by rw [slices_Concat_byte_byte.l0]) ?_
 refine ev_if_neg (by simp) (ev_bind_eq (grow_eq [] _ (by omega) (by omega)) ?_)
 refine Ev.step (fun k => by rw [slices_Concat_byte_byte.l1]) ?_
 rw [rd_L1_0, z1]
 refine ev_if_pos (by simp) (ev_if_pos (by omega) (ev_if_pos (by simp) (ev_if_pos (by simp; omega) ?_)))
 refine Ev.step (fun k => by rw [slices_Concat_byte_byte.l1]) ?_
 rw [rd_L1_1, z2]
 refine ev_if_pos (by simp) (ev_if_pos (by omega) (ev_if_pos (by simp) (ev_if_pos (by simp; omega) ?_)))
 refine Ev.step (fun k => by rw [slices_Concat_byte_byte.l1]) ?_
 exact ev_if_neg (by simp) (ev_done (by simp))
-- vconcat.lean: two rows in one, told as one call
theorem vconcat2_ev (a b : List Int) (ha : a.length ≤ 1073741824) (hb : b.length ≤ 1073741824) : Ev (fun k => virtual_concat2.f k a b) (a ++ b) := concat2_ev a b ha hb
-- treesize.lean: how many keys a valid tree has, told by both programs
theorem entries_loop (r : Nat) (ahead : List Int) (ks : List S30) (hn : ks.length ≤ 1048576) (hk : ∀ x ∈ ks, Ev (fun k => impl_Tree_entries.f k x.f0 x.f1 x.f2 x.f3 ahead) (entsD r ahead x)) (d : Nat) :
  ∀ (i : Nat) (out : List S84), i ≤ ks.length → ks.length - i = d → out.length + (entsFrom r ahead ks i).length ≤ 1000 → Ev (fun k => impl_Tree_entries.l0 k ahead out ks (ks.length : Int) (i : Int)) (out ++ entsFrom r ahead ks i) := by
 induction d with
 | zero =>
  intro i out hi hd hm
  refine Ev.step (fun k => by rw [impl_Tree_entries.l0]) (ev_if_neg (by omega) (ev_done ?_))
  rw [entsFrom_end r ahead ks i (by omega), List.append_nil]
 | succ d ih =>
  intro i out hi hd hm
  have hi' : i < ks.length := by omega
  rw [entsFrom_step r ahead ks i hi'] at hm ⊢
  rw [List.length_append] at hm
  have h := ih (i + 1) (out ++ entsD r ahead ks[i]) (by omega) (by omega) (by rw [List.length_append]; omega)
  rw [Int.natCast_add i, Int.natCast_one, List.append_assoc] at h
  refine Ev.step (fun k => by rw [impl_Tree_entries.l0]) ?_
  rw [rd_T30_get ks i hi', w64 (x := (i : Int) + 1) (by omega) (by omega)]
  exact ev_if_pos (by omega) (ev_if_pos (by omega) (ev_if_pos (by omega) (Ev.bind (hk ks[i] (List.getElem_mem hi')) (ev_if_pos (by omega) h))))
theorem entries_ev (r : Nat) : ∀ (t : S30) (ahead : List Int), r ≤ 25 → FitU t → okD r t → cntD r t ≤ 200 → ahead.length ≤ (25 - r) * 1048576 → Ev (fun k => impl_Tree_entries.f k t.f0 t.f1 t.f2 t.f3 ahead) (entsD r ahead t) := by
 induction r with
 | zero => intro t ahead _ _ h _ _; exact h.elim
 | succ r ih =>
  intro t ahead hr hf h hc ha
  have ok := ((okD_succ r t).1 h).2.2.2.2
  rw [cntD_succ] at hc
  have h0 := hf.h0
  have ha2 : (25 - (r + 1)) * 1048576 ≤ 25 * 1048576 := Nat.mul_le_mul_right _ (by omega)
  have ha3 : (ahead ++ t.f0).length ≤ (25 - r) * 1048576 := by
   rw [List.length_append]
   have : (25 - r) * 1048576 = (25 - (r + 1)) * 1048576 + 1048576 := by
    rw [show 25 - r = (25 - (r + 1)) + 1 by omega, Nat.add_mul]
   omega
  have hl : (entsFrom r (ahead ++ t.f0) t.f3 0).length ≤ 200 := by
   have e : (entsFrom r (ahead ++ t.f0) t.f3 0).length = sizeFrom r t.f3 0 := length_flatten_map _ (sizeD r) _ (fun x _ => entsD_length r _ x)
   have := sizeFrom_le r t.f3 0
   omega
  have hk : ∀ x ∈ t.f3, Ev (fun k => impl_Tree_entries.f k x.f0 x.f1 x.f2 x.f3 (ahead ++ t.f0)) (entsD r (ahead ++ t.f0) x) := fun x hx => by
   obtain ⟨j, hj, rfl⟩ := List.mem_iff_getElem.1 hx
   have hcj : cntD r t.f3[j] ≤ cntFrom r t.f3 0 := by
    have : ∀ l : List S30, ∀ x ∈ l, cntD r x ≤ (l.map (cntD r)).sum := by
     intro l
     induction l with
     | nil => intro x hx; simp at hx
     | cons y ys ih2 =>
      intro x hx
      rw [List.map_cons, List.sum_cons]
      rcases List.mem_cons.1 hx with rfl | hx
      ·omega
      ·have := ih2 x hx
       omega
    rw [cntFrom, List.drop_zero]
    exact this t.f3 _ hx
   exact ih _ _ (by omega) (hf.hk _ hx) (ok j (by omega) hj).1 (by omega) ha3
  refine Ev.step (fun k => by rw [impl_Tree_entries.f]) (Ev.bind (vconcat2_ev ahead t.f0 (by omega) (by omega)) ?_)
  rw [entsD_succ]
  by_cases g : t.f1 = true
  ·have e : Ev (fun k => impl_Tree_entries.l0 k (ahead ++ t.f0) [⟨ahead ++ t.f0, t.f2⟩] t.f3 (t.f3.length : Int) 0) _ := entries_loop r (ahead ++ t.f0) t.f3 hf.h3 hk t.f3.length 0 [⟨ahead ++ t.f0, t.f2⟩] (by omega) (by omega) (by simp; omega)
   rw [if_pos g]
   refine ev_if_pos g (ev_if_pos (by simp) ?_)
   rw [List.nil_append]
   exact Ev.step (fun k => by rw [impl_Tree_entries.j0]) e
  ·have e : Ev (fun k => impl_Tree_entries.l0 k (ahead ++ t.f0) [] t.f3 (t.f3.length : Int) 0) _ := entries_loop r (ahead ++ t.f0) t.f3 hf.h3 hk t.f3.length 0 [] (by omega) (by omega) (by simp; omega)
   rw [if_neg g]
   exact ev_if_neg g (Ev.step (fun k => by rw [impl_Tree_entries.j0]) e)
-- treemarkv.lean: a tree marked by value, and what is found of the marks
def wtU : Nat → S30 → Nat
 | 0, _ => 0
 | r + 1, t => t.f0.length + 2 + (t.f3.map (wtU r)).sum
def mkL (f : S30 → Int → S30) (w : S30 → Nat) : List S30 → Int → List S30
 | [], _ => []
 | x :: xs, a => f x a :: mkL f w xs (a + (w x : Int))
def mkU : Nat → S30 → Int → S30
 | 0, t, _ => t
 | r + 1, t, a => ⟨marks a t.f0.length, Int.tmod (a + (t.f0.length : Int)) 3 == 0, a + (t.f0.length : Int) + 1, mkL (mkU r) (wtU r) t.f3 (a + (t.f0.length : Int) + 1 + 1)⟩
theorem mkL_length (f : S30 → Int → S30) (w : S30 → Nat) : ∀ (l : List S30) (a : Int), (mkL f w l a).length = l.length
 | [], _ => rfl
 | x :: xs, a => by rw [mkL, List.length_cons, List.length_cons, mkL_length f w xs]
theorem mkL_get (f : S30 → Int → S30) (w : S30 → Nat) : ∀ (l : List S30) (a : Int) (i : Nat) (h : i < (mkL f w l a).length) (h2 : i < l.length), (mkL f w l a)[i] = f l[i] (a + (((l.take i).map w).sum : Nat))
 | [], _, i, _, h2 => by simp at h2
 | x :: xs, a, 0, _, _ => by simp [mkL]
 | x :: xs, a, i + 1, h, h2 => by
  simp only [mkL, List.getElem_cons_succ, List.take_succ_cons, List.map_cons, List.sum_cons]
  rw [mkL_get f w xs (a + (w x : Int)) i (by rw [mkL_length]; simpa using h2) (by simpa using h2)]
  congr 1
  omega
theorem sum_take_step (w : S30 → Nat) (l : List S30) (i : Nat) (h : i < l.length) : ((l.take (i + 1)).map w).sum = ((l.take i).map w).sum + w l[i] := by
 rw [List.take_succ_eq_append_getElem h, List.map_append, List.sum_append]
 simp
theorem sum_take_le (w : S30 → Nat) : ∀ (l : List S30) (i : Nat), ((l.take i).map w).sum ≤ (l.map w).sum
 | [], i => by simp
 | x :: xs, 0 => by simp
 | x :: xs, i + 1 => by
  have := sum_take_le w xs i
  simp only [List.take_succ_cons, List.map_cons, List.sum_cons]
  omega
theorem rowsV_ev (r : Nat) : ∀ (l : List S30), (∀ x ∈ l, okD r x) → (∀ x ∈ l, FitU x) → ∀ a : Int, 0 ≤ a → a + ((l.map (wtU r)).sum : Nat) ≤ 1000000000 → ∃ n0, ∀ kb k, n0 ≤ kb → n0 ≤ k → laws_markTreeV.rows kb k l a = some (a + ((l.map (wtU r)).sum : Nat), mkL (mkU r) (wtU r) l a) := by
 have base : ∀ (q : Nat) (a : Int), ∃ n0, ∀ kb k, n0 ≤ kb → n0 ≤ k → laws_markTreeV.rows kb k ([] : List S30) a = some (a + ((([] : List S30).map (wtU q)).sum : Nat), mkL (mkU q) (wtU q) ([] : List S30) a) := fun q a => ⟨1, fun kb k _ hk => by
  obtain ⟨j, rfl⟩ : ∃ j, k = j + 1 := ⟨k - 1, by omega⟩
  simp [laws_markTreeV.rows, laws_markTreeV.list, mkL]⟩
 induction r with
 | zero =>
  intro l hok _ a _ _
  cases l with
  | nil => exact base 0 a
  | cons x xs => exact (hok x List.mem_cons_self).elim
 | succ r ih =>
  intro l hok hf a h0 h1
  suffices hs : ∀ (l : List S30), (∀ x ∈ l, okD (r + 1) x) → (∀ x ∈ l, FitU x) → ∀ a : Int, 0 ≤ a → a + ((l.map (wtU (r + 1))).sum : Nat) ≤ 1000000000 → ∃ n0, ∀ kb k, n0 ≤ kb → n0 ≤ k → laws_markTreeV.list (laws_markByteS.f kb) (laws_markTreeV.rows kb k) l a = some (a + ((l.map (wtU (r + 1))).sum : Nat), mkL (mkU (r + 1)) (wtU (r + 1)) l a) by
   obtain ⟨n0, e⟩ := hs l hok hf a h0 h1
   refine ⟨n0 + 1, fun kb k hkb hk => ?_⟩
   obtain ⟨j, rfl⟩ : ∃ j, k = j + 1 := ⟨k - 1, by omega⟩
   rw [laws_markTreeV.rows]
   exact e kb j (by omega) (by omega)
  intro l
  induction l with
  | nil => intro _ _ a _ _; exact ⟨0, fun kb k _ _ => by simp [laws_markTreeV.list, mkL]⟩
  | cons x xs ih2 =>
   intro hok hf a h0 h1
   have okx := ((okD_succ r x).1 (hok x List.mem_cons_self)).2.2.2.2
   have hfx := hf x List.mem_cons_self
   have hw : wtU (r + 1) x = x.f0.length + 2 + (x.f3.map (wtU r)).sum := rfl
   rw [List.map_cons, List.sum_cons] at h1 ⊢
   obtain ⟨n1, e1⟩ := markByteS_ev x.f0 a h0 (by omega)
   obtain ⟨n2, e2⟩ := ih x.f3 (fun y hy => by obtain ⟨j, hj, rfl⟩ := List.mem_iff_getElem.1 hy; exact (okx j (by omega) hj).1) hfx.hk (a + (x.f0.length : Int) + 1 + 1) (by omega) (by omega)
   obtain ⟨n3, e3⟩ := ih2 (fun y hy => hok y (List.mem_cons_of_mem _ hy)) (fun y hy => hf y (List.mem_cons_of_mem _ hy)) (a + (wtU (r + 1) x : Int)) (by omega) (by omega)
   have ea : a + (x.f0.length : Int) + 1 + 1 + (((x.f3.map (wtU r)).sum : Nat) : Int) = a + (wtU (r + 1) x : Int) := by rw [hw]; omega
   refine ⟨n1 + n2 + n3, fun kb k hkb hk => ?_⟩
   have q1 := e1 kb (by omega)
   have q2 := e2 kb k (by omega) (by omega)
   have q3 := e3 kb k (by omega) (by omega)
   simp only at q1
   rw [laws_markTreeV.list, q1, Option.bind_some]
   simp only
   rw [if_pos (by refine ⟨⟨by omega, by omega⟩, ?_, ?_⟩ <;> first | rfl | trivial), q2, Option.bind_some]
   simp only
   rw [ea, q3, Option.bind_some]
   simp only [mkL, mkU]
   congr 2
   omega
theorem markV_ev {t : S30} (h : okD 25 t) (hf : FitU t) (hw : t.f0.length + (t.f3.map (wtU 24)).sum + 1 ≤ 1000000000) :
  Ev (fun k => laws_markTreeV.g k t.f0 t.f3 1) (1 + (t.f0.length : Int) + ((t.f3.map (wtU 24)).sum : Nat), marks 1 t.f0.length, mkL (mkU 24) (wtU 24) t.f3 (1 + (t.f0.length : Int))) := by
 have ok := ((okD_succ 24 t).1 h).2.2.2.2
 obtain ⟨n1, e1⟩ := markByteS_ev t.f0 1 (by omega) (by omega)
 obtain ⟨n2, e2⟩ := rowsV_ev 24 t.f3 (fun y hy => by obtain ⟨j, hj, rfl⟩ := List.mem_iff_getElem.1 hy; exact (ok j (by omega) hj).1) hf.hk (1 + (t.f0.length : Int)) (by omega) (by omega)
 refine ⟨n1 + n2, fun k hk => ?_⟩
 have q1 := e1 k (by omega)
 have q2 := e2 k k (by omega) (by omega)
 simp only at q1
 simp only [laws_markTreeV.g]
 rw [q1, Option.bind_some]
 simp only
 rw [if_pos (by refine ⟨?_, ?_⟩ <;> first | rfl | trivial), q2, Option.bind_some]
theorem heldRows_loop (r : Nat) (l : List S30) (hf : ∀ x ∈ l, FitU x) (hl : l.length ≤ 1048576)
  (ih : ∀ x ∈ l, ∀ a : Int, 0 ≤ a → a + ((x.f3.map (wtU r)).sum : Nat) ≤ 1000000000 → Ev (fun k => laws_heldTreeS.f k (mkL (mkU r) (wtU r) x.f3 a) a) (a + ((x.f3.map (wtU r)).sum : Nat)))
  (a : Int) (h0 : 0 ≤ a) (h1 : a + ((l.map (wtU (r + 1))).sum : Nat) ≤ 1000000000) (d : Nat) : ∀ i : Nat, i ≤ l.length → l.length - i = d →
   Ev (fun k => laws_heldTreeS.l0 k (mkL (mkU (r + 1)) (wtU (r + 1)) l a) (a + (((l.take i).map (wtU (r + 1))).sum : Nat)) (i : Int)) (a + ((l.map (wtU (r + 1))).sum : Nat)) := by
 have hlen := mkL_length (mkU (r + 1)) (wtU (r + 1)) l a
 induction d with
 | zero =>
  intro i hi hd
  have e : i = l.length := by omega
  subst e
  rw [List.take_length]
  exact Ev.step (fun k => by rw [laws_heldTreeS.l0]) (ev_if_neg (by rw [hlen]; omega) (Ev.now _))
 | succ d ihd =>
  intro i hi hd
  have hi' : i < l.length := by omega
  have h := ihd (i + 1) (by omega) (by omega)
  have hs := sum_take_step (wtU (r + 1)) l i hi'
  have hle := sum_take_le (wtU (r + 1)) l (i + 1)
  have hg := mkL_get (mkU (r + 1)) (wtU (r + 1)) l a i (by omega) hi'
  have hih := ih _ (List.getElem_mem hi')
  have hw : wtU (r + 1) l[i] = l[i].f0.length + 2 + (l[i].f3.map (wtU r)).sum := rfl
  generalize hA : a + (((l.take i).map (wtU (r + 1))).sum : Nat) = A at hg ⊢
  have hA0 : 0 ≤ A := by omega
  have hb := heldByteS_ev l[i].f0.length A hA0 (by omega)
  refine Ev.step (fun k => by rw [laws_heldTreeS.l0]) ?_
  rw [rd_T30_get _ i (by omega), hg, w64 (x := (i : Int) + 1) (by omega) (by omega)]
  rw [Int.natCast_add i, Int.natCast_one] at h
  have hk := hih (A + (l[i].f0.length : Int) + 1 + 1) (by omega) (by omega)
  refine ev_if_pos (by omega) (ev_if_pos (by omega) (Ev.bind hb (ev_if_neg (by omega) (ev_if_neg (by simp [mkU]) ?_))))
  rw [w64 (x := A + (l[i].f0.length : Int) + 1) (by omega) (by omega), w64 (x := A + (l[i].f0.length : Int) + 1 + 1) (by omega) (by omega)]
  refine ev_if_pos rfl (Ev.bind hk (ev_if_neg (by omega) ?_))
  rw [show A + (l[i].f0.length : Int) + 1 + 1 + (((l[i].f3.map (wtU r)).sum : Nat) : Int) = a + (((l.take (i + 1)).map (wtU (r + 1))).sum : Nat) by omega]
  exact h
theorem heldRows_ev (r : Nat) : ∀ (l : List S30), (∀ x ∈ l, okD r x) → (∀ x ∈ l, FitU x) → l.length ≤ 1048576 → ∀ a : Int, 0 ≤ a → a + ((l.map (wtU r)).sum : Nat) ≤ 1000000000 → Ev (fun k => laws_heldTreeS.f k (mkL (mkU r) (wtU r) l a) a) (a + ((l.map (wtU r)).sum : Nat)) := by
 induction r with
 | zero =>
  intro l hok _ _ a _ _
  cases l with
  | nil => exact Ev.step (fun k => by rw [laws_heldTreeS.f]) (Ev.step (fun k => by rw [laws_heldTreeS.l0]) (ev_if_neg (by simp [mkL]) (ev_done (by simp))))
  | cons x xs => exact (hok x List.mem_cons_self).elim
 | succ r ih =>
  intro l hok hf hl a h0 h1
  have := heldRows_loop r l hf hl (fun x hx a h0 h1 => by
   have okx := ((okD_succ r x).1 (hok x hx)).2.2.2.2
   exact ih x.f3 (fun y hy => by obtain ⟨j, hj, rfl⟩ := List.mem_iff_getElem.1 hy; exact (okx j (by omega) hj).1) (hf x hx).hk (hf x hx).h3 a h0 h1) a h0 h1 _ 0 (by omega) rfl
  simp only [List.take_zero, List.map_nil, List.sum_nil, Int.natCast_zero, Int.add_zero] at this
  exact Ev.step (fun k => by rw [laws_heldTreeS.f]) this
theorem heldM_ev {t : S30} (b : Bool) (c : Int) (h : okD 25 t) (hf : FitU t) (hw : t.f0.length + (t.f3.map (wtU 24)).sum + 1 ≤ 1000000000) :
  Ev (fun k => laws_heldTreem.f k t.f0 b c t.f3 1) (1 + (t.f0.length : Int) + ((t.f3.map (wtU 24)).sum : Nat)) := by
 have ok := ((okD_succ 24 t).1 h).2.2.2.2
 have hb := heldByteS_ev t.f0.length 1 (by omega) (by omega)
 have hk := heldRows_ev 24 t.f3 (fun y hy => by obtain ⟨j, hj, rfl⟩ := List.mem_iff_getElem.1 hy; exact (ok j (by omega) hj).1) hf.hk hf.h3 (1 + (t.f0.length : Int)) (by omega) (by omega)
 unfold laws_heldTreem.f
 refine Ev.bind (markV_ev h hf hw) ?_
 unfold laws_heldTree.f
 exact Ev.bind hb (ev_if_neg (by omega) (Ev.bind hk (ev_if_neg (by omega) (Ev.now _))))
/-- A valid tree weighs no more than its keys allow. -/
theorem wt_sum (C r : Nat) (P : List Int) : ∀ l : List S30, (∀ x ∈ l, wtU r x + C ≤ C * (2 * (entsD r P x).length)) → (l.map (wtU r)).sum + C * l.length ≤ C * (2 * ((l.map (entsD r P)).flatten).length)
 | [], _ => by simp
 | x :: xs, h => by
  have a1 := wt_sum C r P xs (fun y hy => h y (List.mem_cons_of_mem _ hy))
  have a2 := h x List.mem_cons_self
  rw [List.map_cons, List.sum_cons, List.length_cons, List.map_cons, List.flatten_cons, List.length_append, Nat.mul_add 2, Nat.mul_add C, Nat.mul_add C, Nat.mul_one]
  generalize C * xs.length = A at a1 ⊢
  generalize C * (2 * (entsD r P x).length) = B at a2 ⊢
  generalize C * (2 * (List.map (entsD r P) xs).flatten.length) = D at a1 ⊢
  omega
theorem wt_le (C : Nat) (hC : 1048578 ≤ C) (r : Nat) : ∀ (pre : List Int) (t : S30), r < 25 → okD r t → FitU t → wtU r t + C ≤ C * (2 * (entsD r pre t).length) := by
 induction r with
 | zero => intro pre t _ h; exact h.elim
 | succ r ih =>
  intro pre t hr h hf
  obtain ⟨_, _, _, h4, ok⟩ := (okD_succ r t).1 h
  have h0 := hf.h0
  have hs := wt_sum C r (pre ++ t.f0) t.f3 (fun x hx => ih (pre ++ t.f0) x (by omega) (by obtain ⟨j, hj, rfl⟩ := List.mem_iff_getElem.1 hx; exact (ok j (by omega) hj).1) (hf.hk x hx))
  have hw : wtU (r + 1) t = t.f0.length + 2 + (t.f3.map (wtU r)).sum := rfl
  rw [entsD_succ, List.length_append, hw]
  unfold entsFrom
  rw [List.drop_zero]
  by_cases g : t.f1 = true
  ·rw [if_pos g, List.length_singleton, Nat.mul_add 2, Nat.mul_add C]
   generalize C * t.f3.length = A at hs
   generalize C * (2 * (List.map (entsD r (pre ++ t.f0)) t.f3).flatten.length) = D at hs ⊢
   have e : C * (2 * 1) = C + C := by rw [Nat.mul_one, Nat.mul_two]
   rw [e]
   omega
  ·rw [if_neg g, List.length_nil, Nat.zero_add]
   have hn : 2 ≤ t.f3.length := by
    rcases h4 with h4 | h4 | h4
    ·omega
    ·exact absurd h4 g
    ·exact h4
   have hm := Nat.mul_le_mul_left C hn
   have e : C * 2 = C + C := Nat.mul_two C
   rw [e] at hm
   generalize C * t.f3.length = A at hs hm
   generalize C * (2 * (List.map (entsD r (pre ++ t.f0)) t.f3).flatten.length) = D at hs ⊢
   omega
theorem wt_root {t : S30} (h : okD 25 t) (hf : FitU t) (hn : (entsD 25 [] t).length ≤ 400) : t.f0.length + (t.f3.map (wtU 24)).sum + 1 ≤ 1000000000 := by
 obtain ⟨_, _, _, _, ok⟩ := (okD_succ 24 t).1 h
 have h0 := hf.h0
 obtain ⟨C, hC⟩ : ∃ C : Nat, C = 1048578 := ⟨_, rfl⟩
 have hs := wt_sum C 24 ([] ++ t.f0) t.f3 (fun x hx => wt_le C (by omega) 24 ([] ++ t.f0) x (by omega) (by obtain ⟨j, hj, rfl⟩ := List.mem_iff_getElem.1 hx; exact (ok j (by omega) hj).1) (hf.hk x hx))
 rw [entsD_succ, List.length_append] at hn
 unfold entsFrom at hn
 rw [List.drop_zero] at hn
 have hm := Nat.mul_le_mul_left C (show 2 * ((t.f3.map (entsD 24 ([] ++ t.f0))).flatten).length ≤ 800 by omega)
 have e : C * 800 = 838862400 := by rw [hC]
 rw [e] at hm
 generalize C * t.f3.length = A at hs
 generalize C * (2 * (List.map (entsD 24 ([] ++ t.f0)) t.f3).flatten.length) = D at hs hm
 omega
/-- Its rows are short where its keys are. -/
theorem fit_of_ents (r : Nat) : ∀ (pre : List Int) (t : S30), r ≤ 25 → okD r t → (entsD r pre t).length ≤ 1048576 → (∀ e ∈ entsD r pre t, e.f0.length ≤ 1048576) → FitU t := by
 induction r with
 | zero => intro pre t _ h; exact h.elim
 | succ r ih =>
  intro pre t hr h hn hk
  obtain ⟨h1, _, _, _, ok⟩ := (okD_succ r t).1 h
  have hsub : ∀ j (hj : j < t.f3.length), ∀ e ∈ entsD r (pre ++ t.f0) t.f3[j], e ∈ entsD (r + 1) pre t := fun j hj e he => by
   rw [entsD_succ, List.mem_append]
   exact .inr ((mem_entsFrom r _ _ e).2 ⟨j, hj, he⟩)
  have hgen : ∀ (l : List S30), (∀ x ∈ l, okD r x) → l.length ≤ ((l.map (entsD r (pre ++ t.f0))).flatten).length ∧ ∀ y ∈ l, (entsD r (pre ++ t.f0) y).length ≤ ((l.map (entsD r (pre ++ t.f0))).flatten).length := by
   intro l
   induction l with
   | nil => intro _; exact ⟨by simp, fun y hy => by simp at hy⟩
   | cons x xs ih2 =>
    intro hx
    obtain ⟨a1, a2⟩ := ih2 (fun y hy => hx y (List.mem_cons_of_mem _ hy))
    have a3 := List.length_pos_iff.2 (ents_ne r (pre ++ t.f0) x (by omega) (hx x List.mem_cons_self))
    rw [List.map_cons, List.flatten_cons, List.length_append, List.length_cons]
    refine ⟨by omega, fun y hy => ?_⟩
    rcases List.mem_cons.1 hy with rfl | hy
    ·omega
    ·have := a2 y hy
     omega
  obtain ⟨g1, g2⟩ := hgen t.f3 (fun x hx => by obtain ⟨j, hj, rfl⟩ := List.mem_iff_getElem.1 hx; exact (ok j (by omega) hj).1)
  have hn2 : ((t.f3.map (entsD r (pre ++ t.f0))).flatten).length ≤ 1048576 := by
   rw [entsD_succ, List.length_append] at hn
   unfold entsFrom at hn
   rw [List.drop_zero] at hn
   omega
  refine FitU.mk t ?_ (by omega) (fun x hx => ?_)
  ·by_cases hr5 : r = 24
   ·have := h1.2 hr5
    omega
   ·have hne := ents_ne (r + 1) pre t (by omega) h
    have hpos := List.length_pos_iff.2 hne
    obtain ⟨s, hs⟩ := ents_form _ _ _ _ (List.getElem_mem hpos)
    have := hk _ (List.getElem_mem hpos)
    rw [hs, List.length_append, List.length_append] at this
    omega
  ·obtain ⟨j, hj, rfl⟩ := List.mem_iff_getElem.1 hx
   exact ih (pre ++ t.f0) _ (by omega) (ok j (by omega) hj).1 (by have := g2 _ (List.getElem_mem hj); omega) (fun e he => hk e (hsub j hj e he))
-- treeofv.lean: the program's tree of a valid tree's entries
theorem longFrom_mem (r : Nat) (ks : List S30) (j : Nat) (hj : j < ks.length) : longD r ks[j] ≤ longFrom r ks 0 := by
 have h : ∀ i, i ≤ j → longD r ks[j] ≤ longFrom r ks (j - i) := by
  intro i
  induction i with
  | zero => intro _; rw [Nat.sub_zero, longFrom_step r ks j hj]; omega
  | succ i ih =>
   intro hi
   have := ih (by omega)
   rw [longFrom_step r ks (j - (i + 1)) (by omega), show j - (i + 1) + 1 = j - i by omega]
   omega
 have := h j (Nat.le_refl _)
 rw [Nat.sub_self] at this
 exact this
theorem ents_long (r : Nat) : ∀ (pre : List Int) (t : S30), ∀ e ∈ entsD r pre t, e.f0.length ≤ pre.length + longD r t := by
 induction r with
 | zero => intro pre t e h; rw [entsD] at h; simp at h
 | succ r ih =>
  intro pre t e h
  rw [entsD_succ, List.mem_append] at h
  rw [longD_succ]
  rcases h with h | h
  ·by_cases g : t.f1 = true
   ·rw [if_pos g, List.mem_singleton] at h
    subst h
    show (pre ++ t.f0).length ≤ _
    rw [List.length_append]
    omega
   ·rw [if_neg g] at h
    simp at h
  ·obtain ⟨j, hj, he⟩ := (mem_entsFrom r _ _ e).1 h
   have a := ih _ _ e he
   have b := longFrom_mem r t.f3 j hj
   rw [List.length_append] at a
   omega
theorem treeOf_ev {u : S30} (h : okD 25 u) (hf : FitU u) (hn : (entsD 25 [] u).length ≤ 1000) (hk : ∀ e ∈ entsD 25 [] u, e.f0.length ≤ 1000000000) : Ev (fun k => impl_treeOf.f k (entsD 25 [] u)) (u.f0, u.f1, u.f2, u.f3) := by
 obtain ⟨h1, _, h3, _, ok⟩ := (okD_succ 24 u).1 h
 have h0 : u.f0.length = 0 := h1.2 rfl
 unfold impl_treeOf.f
 by_cases hne : entsD 25 [] u = []
 ·have g : ¬ u.f1 = true := by
   intro g
   rw [entsD_succ, if_pos g] at hne
   simp at hne
  have gf : u.f1 = false := by simpa using g
  have hks : u.f3 = [] := by
   cases hu : u.f3 with
   | nil => rfl
   | cons x xs =>
    exfalso
    have hpos : 0 < u.f3.length := by rw [hu]; simp
    rw [entsD_succ, if_neg g, List.nil_append, entsFrom_step 24 _ _ 0 hpos] at hne
    exact ents_ne 24 _ _ (by omega) (ok 0 (by omega) hpos).1 (List.append_eq_nil_iff.1 hne).1
  rw [hne]
  refine Ev.bind (Ev.step (fun k => by rw [impl_grown.f]) (ev_if_pos (by simp) (Ev.now _))) (ev_done ?_)
  rw [List.eq_nil_of_length_eq_zero h0, gf, h3 gf, hks]
 ·have := grown_ev 25 u [] (by omega) hf h hn hk (by simp) hne
  rw [h0] at this
  exact Ev.bind this (Ev.now _)
-- treeown.lean: the reference's copy of a tree is that tree
theorem own_loop (a a' : List Int) (b b' : Bool) (c c' : Int) (ks : List S30) (hn : ks.length ≤ 1048576) (hk : ∀ x ∈ ks, Ev (fun k => spec_l6own.f k x.f0 x.f1 x.f2 x.f3) (x.f0, x.f1, x.f2, x.f3)) (d : Nat) :
  ∀ i : Nat, i ≤ ks.length → ks.length - i = d → Ev (fun k => spec_l6own.l0 k (i : Int) a b c ks a' b' c' (ks.take i)) (a', b', c', ks) := by
 induction d with
 | zero =>
  intro i hi hd
  have e : i = ks.length := by omega
  subst e
  rw [List.take_length]
  exact Ev.step (fun k => by rw [spec_l6own.l0]) (ev_if_neg (by omega) (Ev.now _))
 | succ d ih =>
  intro i hi hd
  have hi' : i < ks.length := by omega
  have h := ih (i + 1) (by omega) (by omega)
  have hkk := hk _ (List.getElem_mem hi')
  rw [List.take_succ_eq_append_getElem hi', Int.natCast_add i, Int.natCast_one] at h
  refine Ev.step (fun k => by rw [spec_l6own.l0]) ?_
  rw [rd_T30_get ks i hi', w64 (x := (i : Int) + 1) (by omega) (by omega)]
  generalize ks[i] = y at h hkk
  cases y with
  | mk y0 y1 y2 y3 => exact ev_if_pos (by omega) (ev_if_pos (by omega) (Ev.bind hkk (ev_if_pos (by rw [List.length_take]; omega) h)))
theorem own_ev {t : S30} (h : FitU t) : Ev (fun k => spec_l6own.f k t.f0 t.f1 t.f2 t.f3) (t.f0, t.f1, t.f2, t.f3) := by
 induction h with
 | mk t h0 h3 hk ih =>
  refine Ev.step (fun k => by rw [spec_l6own.f]) ?_
  refine ev_bind_eq rfl ?_
  refine ev_if_pos (by simp; omega) ?_
  rw [List.nil_append]
  have := own_loop t.f0 t.f0 t.f1 t.f1 t.f2 t.f2 t.f3 h3 ih t.f3.length 0 (by omega) rfl
  exact this
-- treesize.lean: how many keys a valid tree has, told by both programs
theorem l6size_loop (r : Nat) (a : List Int) (b : Bool) (c : Int) (ks : List S30) (hn : ks.length ≤ 1048576) (hk : ∀ x ∈ ks, Ev (fun k => spec_l6size.f k x.f0 x.f1 x.f2 x.f3) (sizeD r x : Int)) (d : Nat) :
  ∀ (i : Nat) (n : Nat), i ≤ ks.length → ks.length - i = d → n + sizeFrom r ks i ≤ 1000 → Ev (fun k => spec_l6size.l0 k (n : Int) (i : Int) a b c ks) ((n + sizeFrom r ks i : Nat) : Int) := by
 induction d with
 | zero =>
  intro i n hi hd hm
  refine Ev.step (fun k => by rw [spec_l6size.l0]) (ev_if_neg (by omega) (ev_done ?_))
  rw [sizeFrom_end r ks i (by omega), Nat.add_zero]
 | succ d ih =>
  intro i n hi hd hm
  have hi' : i < ks.length := by omega
  rw [sizeFrom_step r ks i hi'] at hm ⊢
  have h := ih (i + 1) (n + sizeD r ks[i]) (by omega) (by omega) (by omega)
  rw [Int.natCast_add i, Int.natCast_one, Int.natCast_add n (sizeD r ks[i])] at h
  refine Ev.step (fun k => by rw [spec_l6size.l0]) ?_
  rw [rd_T30_get ks i hi', w64 (x := (i : Int) + 1) (by omega) (by omega)]
  refine ev_if_pos (by omega) (ev_if_pos (by omega) (Ev.bind (hk ks[i] (List.getElem_mem hi')) ?_))
  rw [w64 (x := (n : Int) + (sizeD r ks[i] : Int)) (by omega) (by omega)]
  exact ev_of h (by rw [Nat.add_assoc])
theorem l6size_ev (r : Nat) : ∀ t : S30, r ≤ 25 → FitU t → okD r t → cntD r t ≤ 200 → Ev (fun k => spec_l6size.f k t.f0 t.f1 t.f2 t.f3) (sizeD r t : Int) := by
 induction r with
 | zero => intro t _ _ h _; exact h.elim
 | succ r ih =>
  intro t hr hf h hc
  have ok := ((okD_succ r t).1 h).2.2.2.2
  rw [cntD_succ] at hc
  have hsz := sizeFrom_le r t.f3 0
  have hk : ∀ x ∈ t.f3, Ev (fun k => spec_l6size.f k x.f0 x.f1 x.f2 x.f3) (sizeD r x : Int) := fun x hx => by
   obtain ⟨j, hj, rfl⟩ := List.mem_iff_getElem.1 hx
   have hcj : cntD r t.f3[j] ≤ cntFrom r t.f3 0 := by
    have : ∀ l : List S30, ∀ x ∈ l, cntD r x ≤ (l.map (cntD r)).sum := by
     intro l
     induction l with
     | nil => intro x hx; simp at hx
     | cons y ys ih2 =>
      intro x hx
      rw [List.map_cons, List.sum_cons]
      rcases List.mem_cons.1 hx with rfl | hx
      ·omega
      ·have := ih2 x hx
       omega
    rw [cntFrom, List.drop_zero]
    exact this t.f3 _ hx
   exact ih _ (by omega) (hf.hk _ hx) (ok j (by omega) hj).1 (by omega)
  refine Ev.step (fun k => by rw [spec_l6size.f]) ?_
  rw [sizeD_succ]
  by_cases g : t.f1 = true
  ·have e : Ev (fun k => spec_l6size.l0 k 1 0 t.f0 t.f1 t.f2 t.f3) _ := l6size_loop r t.f0 t.f1 t.f2 t.f3 hf.h3 hk t.f3.length 0 1 (by omega) (by omega) (by omega)
   rw [if_pos g]
   exact ev_if_pos g (Ev.step (fun k => by rw [spec_l6size.j0]) e)
  ·have e : Ev (fun k => spec_l6size.l0 k 0 0 t.f0 t.f1 t.f2 t.f3) _ := l6size_loop r t.f0 t.f1 t.f2 t.f3 hf.h3 hk t.f3.length 0 0 (by omega) (by omega) (by omega)
   rw [if_neg g]
   exact ev_if_neg g (Ev.step (fun k => by rw [spec_l6size.j0]) e)
-- treel6ok.lean: the reference's look at a tree
/-- What the reference's look at a part answers. -/
def OkSays (ok : Prop) (cnt : Nat) (left q : Int) : Prop := (ok ∧ (cnt : Int) ≤ left → q = left - (cnt : Int)) ∧ (¬ (ok ∧ (cnt : Int) ≤ left) → q = -1)
theorem l6ok_loop (r : Nat) (hr : r < 25) (a : List Int) (b : Bool) (c : Int) (ks : List S30) (hn : ks.length ≤ 1048576)
  (hk : ∀ x ∈ ks, ∀ left : Int, 0 ≤ left → left ≤ 200 → ∃ q, Ev (fun k => spec_l6ok.f k x.f0 x.f1 x.f2 x.f3 false left (25 - (r : Int))) q ∧ OkSays (okD r x) (cntD r x) left q) (d : Nat) :
  ∀ (i : Nat) (left : Int), i ≤ ks.length → ks.length - i = d → 0 ≤ left → left ≤ 200 → (0 < i → ∀ h : i - 1 < ks.length, 0 < ks[i - 1].f0.length) →
  ∃ q, Ev (fun k => spec_l6ok.l0 k left (24 - (r : Int)) (i : Int) a b c ks) q ∧ OkSays (okFrom r ks i) (cntFrom r ks i) left q := by
 induction d with
 | zero =>
  intro i left hi hd h0 h1 hp
  refine ⟨left, Ev.step (fun k => by rw [spec_l6ok.l0]) (ev_if_neg (by omega) (Ev.now _)), ?_⟩
  rw [cntFrom_end r ks i (by omega)]
  exact ⟨fun _ => by simp, fun h => absurd ⟨okFrom_end r ks i (by omega), by simpa using h0⟩ h⟩
 | succ d ih =>
  intro i left hi hd h0 h1 hp
  have hi' : i < ks.length := by omega
  have T : Ev (fun k => spec_l6ok.j2 k left (24 - (r : Int)) (i : Int) true a b c ks ks[i].f0 ks[i].f1 ks[i].f2 ks[i].f3) (-1) :=
   Ev.step (fun k => by rw [spec_l6ok.j2]) (ev_if_pos rfl (Ev.now _))
  have F : 0 < ks[i].f0.length → ∃ q, Ev (fun k => spec_l6ok.j2 k left (24 - (r : Int)) (i : Int) false a b c ks ks[i].f0 ks[i].f1 ks[i].f2 ks[i].f3) q ∧ OkSays (okD r ks[i] ∧ okFrom r ks (i + 1)) (cntD r ks[i] + cntFrom r ks (i + 1)) left q := by
   intro hpos
   obtain ⟨q, e, hq1, hq2⟩ := hk ks[i] (List.getElem_mem hi') left h0 h1
   by_cases g : okD r ks[i] ∧ (cntD r ks[i] : Int) ≤ left
   ·have hq := hq1 g
    have hc := cntD_pos r ks[i]
    obtain ⟨q', e', hq'1, hq'2⟩ := ih (i + 1) q (by omega) (by omega) (by omega) (by omega) (fun _ h => by simpa using hpos)
    refine ⟨q', Ev.step (fun k => by rw [spec_l6ok.j2]) (ev_if_neg (by simp) ?_), ?_⟩
    ·rw [w64 (x := 24 - (r : Int) + 1) (by omega) (by omega), w64 (x := (i : Int) + 1) (by omega) (by omega), show 24 - (r : Int) + 1 = 25 - (r : Int) by omega]
     rw [Int.natCast_add, Int.natCast_one] at e'
     exact Ev.bind e (ev_if_neg (by omega) e')
    ·constructor
     ·rintro ⟨⟨u1, u2⟩, u3⟩
      have := hq'1 ⟨u2, by omega⟩
      omega
     ·intro u
      exact hq'2 (fun ⟨v1, v2⟩ => u ⟨⟨g.1, v1⟩, by omega⟩)
   ·have hq := hq2 g
    refine ⟨-1, Ev.step (fun k => by rw [spec_l6ok.j2]) (ev_if_neg (by simp) ?_), ?_⟩
    ·rw [w64 (x := 24 - (r : Int) + 1) (by omega) (by omega), show 24 - (r : Int) + 1 = 25 - (r : Int) by omega]
     exact Ev.bind e (ev_if_pos (by omega) (Ev.now _))
    ·constructor
     ·rintro ⟨⟨u1, u2⟩, u3⟩
      exact absurd ⟨u1, by omega⟩ g
     ·intro _
      rfl
  have S := okFrom_step r ks i hi'
  have bad : ¬ okFrom r ks i → OkSays (okFrom r ks i) (cntFrom r ks i) left (-1) := fun h => ⟨fun g => absurd g.1 h, fun _ => rfl⟩
  have good : (0 < i → rd (ks[i - 1]'(by omega)).f0 0 < rd ks[i].f0 0) → ∀ q, OkSays (okD r ks[i] ∧ okFrom r ks (i + 1)) (cntD r ks[i] + cntFrom r ks (i + 1)) left q → OkSays (okFrom r ks i) (cntFrom r ks i) left q := by
   intro g q h
   rw [cntFrom_step r ks i hi']
   exact ⟨fun ⟨u1, u2⟩ => h.1 ⟨⟨(S.1 u1).1.1, (S.1 u1).2⟩, u2⟩, fun u => h.2 (fun ⟨⟨v1, v2⟩, v3⟩ => u ⟨S.2 ⟨⟨v1, g⟩, v2⟩, v3⟩)⟩
  by_cases z : (ks[i].f0.length : Int) = 0
  ·refine ⟨-1, Ev.step (fun k => by rw [spec_l6ok.l0]) ?_, bad (fun g => ?_)⟩
   ·rw [rd_T30_get ks i hi']
    exact ev_if_pos (by omega) (ev_if_pos (by omega) (ev_if_pos z T))
   ·have := okD_edge (S.1 g).1.1 hr
    omega
  ·have hpos : 0 < ks[i].f0.length := by omega
   by_cases i0 : 0 < i
   ·have hi1 : i - 1 < ks.length := by omega
    have hpp := hp i0 hi1
    have ei : (i : Int) - 1 = ((i - 1 : Nat) : Int) := by omega
    by_cases o : rd ks[i - 1].f0 0 ≥ rd ks[i].f0 0
    ·refine ⟨-1, Ev.step (fun k => by rw [spec_l6ok.l0]) ?_, bad (fun g => ?_)⟩
     ·rw [rd_T30_get ks i hi', w64 (x := (i : Int) - 1) (by omega) (by omega), ei, rd_T30_get ks (i - 1) hi1]
      refine ev_if_pos (by omega) (ev_if_pos (by omega) (ev_if_neg z (ev_if_pos (by omega) (ev_if_pos (by omega) (ev_if_pos (by omega) (ev_if_pos (by omega) (ev_if_pos (by omega) ?_)))))))
      rw [decide_eq_true o]
      exact T
     ·have := (S.1 g).1.2 i0
      omega
    ·obtain ⟨q, e, hq⟩ := F hpos
     refine ⟨q, Ev.step (fun k => by rw [spec_l6ok.l0]) ?_, good (fun _ => by omega) q hq⟩
     rw [rd_T30_get ks i hi', w64 (x := (i : Int) - 1) (by omega) (by omega), ei, rd_T30_get ks (i - 1) hi1]
     refine ev_if_pos (by omega) (ev_if_pos (by omega) (ev_if_neg z (ev_if_pos (by omega) (ev_if_pos (by omega) (ev_if_pos (by omega) (ev_if_pos (by omega) (ev_if_pos (by omega) ?_)))))))
     rw [decide_eq_false o]
     exact e
   ·obtain ⟨q, e, hq⟩ := F hpos
    refine ⟨q, Ev.step (fun k => by rw [spec_l6ok.l0]) ?_, good (fun h => absurd h i0) q hq⟩
    rw [rd_T30_get ks i hi']
    exact ev_if_pos (by omega) (ev_if_pos (by omega) (ev_if_neg z (ev_if_neg (by omega) e)))
set_option maxHeartbeats 4000000 in
theorem l6ok_ev (r : Nat) : ∀ (t : S30), r ≤ 25 → FitU t → ∀ (root : Bool) (left : Int), (root = true ↔ r = 25) → 0 ≤ left → left ≤ 200 →
  ∃ q, Ev (fun k => spec_l6ok.f k t.f0 t.f1 t.f2 t.f3 root left (25 - (r : Int))) q ∧ OkSays (okD r t) (cntD r t) left q := by
 induction r with
 | zero =>
  intro t hr hf root left hroot h0 h1
  refine ⟨-1, Ev.step (fun k => by rw [spec_l6ok.f]) ?_, ⟨fun g => g.1.elim, fun _ => rfl⟩⟩
  have T : ∀ l : Int, Ev (fun k => spec_l6ok.j0 k l (25 - ((0 : Nat) : Int)) true t.f0 t.f1 t.f2 t.f3) (-1) := fun l => Ev.step (fun k => by rw [spec_l6ok.j0]) (ev_if_pos rfl (Ev.now _))
  exact ev_ite (fun _ => T _) (fun _ => ev_if_pos (by simp) (T _))
 | succ r ih =>
  intro t hr hf root left hroot h0 h1
  have T : ∀ l : Int, Ev (fun k => spec_l6ok.j0 k l (24 - (r : Int)) true t.f0 t.f1 t.f2 t.f3) (-1) := fun l => Ev.step (fun k => by rw [spec_l6ok.j0]) (ev_if_pos rfl (Ev.now _))
  have ed : 25 - ((r + 1 : Nat) : Int) = 24 - (r : Int) := by omega
  have hlen : (0 : Int) ≤ (t.f0.length : Int) := Int.natCast_nonneg _
  rw [ed]
  by_cases N : ((t.f0.length = 0 ↔ r = 24) ∧ (t.f1 = true → 0 ≤ t.f2 ∧ t.f2 ≤ 2147483647) ∧ (t.f1 = false → t.f2 = 0) ∧ (r = 24 ∨ t.f1 = true ∨ 2 ≤ t.f3.length)) ∧ 1 ≤ left
  ·obtain ⟨q, e, hq1, hq2⟩ := l6ok_loop r (by omega) t.f0 t.f1 t.f2 t.f3 hf.h3 (fun x hx l a b => ih x (by omega) (hf.hk x hx) false l (by constructor <;> intro h <;> first | omega | simp at h) a b) t.f3.length 0 (left - 1) (by omega) (by omega) (by omega) (by omega) (fun h => absurd h (by omega))
   have e : Ev (fun k => spec_l6ok.l0 k (left - 1) (24 - (r : Int)) 0 t.f0 t.f1 t.f2 t.f3) q := e
   have F : Ev (fun k => spec_l6ok.j0 k (left - 1) (24 - (r : Int)) false t.f0 t.f1 t.f2 t.f3) q := Ev.step (fun k => by rw [spec_l6ok.j0]) (ev_if_neg (by simp) e)
   refine ⟨q, Ev.step (fun k => by rw [spec_l6ok.f]) ?_, ?_⟩
   ·rw [w64 (x := left - 1) (by omega) (by omega)]
    obtain ⟨⟨n1, n2, n3, n4⟩, n5⟩ := N
    repeat' (first
     | exact F
     | refine ev_ite (fun hc => ?_) (fun hc => ?_)
     | (rw [decide_eq_false (by grind)]; exact F)
     | (exfalso; grind))
   ·rw [okD_succ, cntD_succ]
    constructor
    ·rintro ⟨⟨_, _, _, _, u⟩, v⟩
     have := hq1 ⟨u, by omega⟩
     omega
    ·intro u
     exact hq2 (fun ⟨v1, v2⟩ => u ⟨⟨N.1.1, N.1.2.1, N.1.2.2.1, N.1.2.2.2, v1⟩, by omega⟩)
  ·refine ⟨-1, Ev.step (fun k => by rw [spec_l6ok.f]) ?_, ?_⟩
   ·rw [w64 (x := left - 1) (by omega) (by omega)]
    repeat' (first
     | exact T _
     | refine ev_ite (fun hc => ?_) (fun hc => ?_)
     | (rw [decide_eq_true (by grind)]; exact T _)
     | (exfalso; grind))
   ·rw [okD_succ, cntD_succ]
    constructor
    ·rintro ⟨⟨u1, u2, u3, u4, u⟩, v⟩
     exact absurd ⟨⟨u1, u2, u3, u4⟩, by omega⟩ N
    ·intro _
     rfl
-- treelong.lean: how long a tree's longest key is
theorem longFrom_le (r : Nat) (m : Nat) (ks : List S30) (h : ∀ x ∈ ks, longD r x ≤ m) (i : Nat) : longFrom r ks i ≤ m := by
 have : ∀ l : List S30, (∀ x ∈ l, longD r x ≤ m) → (l.map (longD r)).foldr max 0 ≤ m := by
  intro l
  induction l with
  | nil => intro _; simp
  | cons x xs ih =>
   intro g
   rw [List.map_cons, List.foldr_cons]
   have a := g x (List.mem_cons_self ..)
   have b := ih (fun y hy => g y (List.mem_cons_of_mem _ hy))
   omega
 exact this _ (fun x hx => h x (List.mem_of_mem_drop hx))
theorem longD_le (r : Nat) : ∀ t : S30, FitU t → longD r t ≤ (r + 1) * 1048576 := by
 induction r with
 | zero =>
  intro t h
  have := h.h0
  rw [longD]
  omega
 | succ r ih =>
  intro t h
  have := h.h0
  have := longFrom_le r ((r + 1) * 1048576) t.f3 (fun x hx => ih x (h.hk x hx)) 0
  rw [longD_succ]
  omega
theorem l6long_loop (r : Nat) (hr : r < 25) (a : List Int) (ha : a.length ≤ 1048576) (b : Bool) (c : Int) (ks : List S30) (hn : ks.length ≤ 1048576)
  (hk : ∀ x ∈ ks, Ev (fun k => spec_l6long.f k x.f0 x.f1 x.f2 x.f3) (longD r x : Int)) (hb : ∀ x ∈ ks, longD r x ≤ (r + 1) * 1048576) (d : Nat) :
  ∀ (i : Nat) (most : Nat), i ≤ ks.length → ks.length - i = d → most ≤ (r + 1) * 1048576 →
  Ev (fun k => spec_l6long.l0 k (most : Int) (i : Int) a b c ks) ((max most (longFrom r ks i) + a.length : Nat) : Int) := by
 induction d with
 | zero =>
  intro i most hi hd hm
  refine Ev.step (fun k => by rw [spec_l6long.l0]) (ev_if_neg (by omega) (ev_done ?_))
  have : (r + 1) * 1048576 ≤ 25 * 1048576 := Nat.mul_le_mul_right _ (by omega)
  rw [longFrom_end r ks i (by omega), w64 (by omega) (by omega)]
  omega
 | succ d ih =>
  intro i most hi hd hm
  have hi' : i < ks.length := by omega
  have e := hk ks[i] (List.getElem_mem hi')
  have hx := hb ks[i] (List.getElem_mem hi')
  have h1 := ih (i + 1) (longD r ks[i]) (by omega) (by omega) hx
  have h2 := ih (i + 1) most (by omega) (by omega) hm
  rw [Int.natCast_add i, Int.natCast_one] at h1 h2
  refine Ev.step (fun k => by rw [spec_l6long.l0]) ?_
  rw [rd_T30_get ks i hi', w64 (x := (i : Int) + 1) (by omega) (by omega), longFrom_step r ks i hi']
  refine ev_if_pos (by omega) (ev_if_pos (by omega) (Ev.bind e (ev_ite (fun g => ?_) (fun g => ?_))))
  ·exact ev_of h1 (by congr 1; omega)
  ·exact ev_of h2 (by congr 1; omega)
theorem l6long_ev (r : Nat) : ∀ t : S30, r ≤ 25 → FitU t → okD r t → Ev (fun k => spec_l6long.f k t.f0 t.f1 t.f2 t.f3) (longD r t : Int) := by
 induction r with
 | zero => intro t _ _ h; exact h.elim
 | succ r ih =>
  intro t hr hf h
  have ok := ((okD_succ r t).1 h).2.2.2.2
  refine Ev.step (fun k => by rw [spec_l6long.f]) ?_
  rw [longD_succ]
  have := l6long_loop r (by omega) t.f0 hf.h0 t.f1 t.f2 t.f3 hf.h3 (fun x hx => by
   obtain ⟨j, hj, rfl⟩ := List.mem_iff_getElem.1 hx
   exact ih _ (by omega) (hf.hk _ hx) (ok j (by omega) hj).1) (fun x hx => longD_le r x (hf.hk x hx)) t.f3.length 0 0 (by omega) (by omega) (by omega)
  refine ev_of this (by congr 1; omega)
-- within.lean
theorem within_eq (a b c : Int) : impl_within.f a b c = some (decide (b ≤ a ∧ a ≤ c)) := by
 unfold impl_within.f
 by_cases h : b ≤ a
 ·rw [if_pos h]
  by_cases h2 : a ≤ c
  ·rw [decide_eq_true h2, decide_eq_true ⟨h, h2⟩]
  ·rw [decide_eq_false h2, decide_eq_false (fun z => h2 z.2)]
 ·rw [if_neg h, decide_eq_false (fun z => h z.1)]
-- treescan.lean: the program's own look at a tree
/-- What 'scan' answers. -/
def ScanSays (ok : Prop) (cnt lng : Nat) (long count : Int) (b : Bool) (c : Int) : Prop :=
 (b = true ↔ ok ∧ count + (cnt : Int) ≤ 200 ∧ long + (lng : Int) ≤ 20) ∧ (b = true → c = count + (cnt : Int))
theorem scan_loop (r : Nat) (hr : r < 25) (a : List Int) (ha : a.length ≤ 1048576) (b : Bool) (c : Int) (ks : List S30) (hn : ks.length ≤ 1048576) (long : Int) (hl0 : 0 ≤ long) (hl1 : long + (a.length : Int) ≤ 20)
  (hk : ∀ x ∈ ks, ∀ count : Int, 0 ≤ count → count ≤ 200 → ∃ v n, Ev (fun k => impl_scan.f k x.f0 x.f1 x.f2 x.f3 (25 - (r : Int)) (long + (a.length : Int)) count) (v, n) ∧ ScanSays (okD r x) (cntD r x) (longD r x) (long + (a.length : Int)) count v n) (d : Nat) :
  ∀ (i : Nat) (count : Int), i ≤ ks.length → ks.length - i = d → 0 ≤ count → count ≤ 200 → (0 < i → ∀ h : i - 1 < ks.length, 0 < ks[i - 1].f0.length) →
  ∃ v n, Ev (fun k => impl_scan.l0 k (24 - (r : Int)) long ks (ks.length : Int) (i : Int) count a b c ks) (v, n) ∧ ScanSays (okFrom r ks i) (cntFrom r ks i) (longFrom r ks i) (long + (a.length : Int)) count v n := by
 induction d with
 | zero =>
  intro i count hi hd h0 h1 hp
  refine ⟨true, count, Ev.step (fun k => by rw [impl_scan.l0]) (ev_if_neg (by omega) (Ev.now _)), ?_⟩
  rw [cntFrom_end r ks i (by omega), longFrom_end r ks i (by omega)]
  exact ⟨⟨fun _ => ⟨okFrom_end r ks i (by omega), by simpa using h1, by simpa using hl1⟩, fun _ => rfl⟩, fun _ => by simp⟩
 | succ d ih =>
  intro i count hi hd h0 h1 hp
  have hi' : i < ks.length := by omega
  have S := okFrom_step r ks i hi'
  obtain ⟨v, n, e, hv, hc⟩ := hk ks[i] (List.getElem_mem hi') count h0 h1
  have go : ∀ (R : Nat → Option (Bool × Int)) (v' : Bool) (n' : Int), (if v = true then Ev R (v', n') else (v', n') = (false, n)) → Ev (fun k => (if v = true then R k else some (false, n))) (v', n') := by
   intro R v' n' h
   by_cases g : v = true
   ·rw [if_pos g] at h
    exact ev_if_pos g h
   ·rw [if_neg g] at h
    exact ev_if_neg g (ev_done h.symm)
  have main : ∀ (v' : Bool) (n' : Int), Ev (fun k => if v = true then (if (i : Int) > 0 then (if 0 ≤ (wrap64 ((i : Int) - 1)) then (if (wrap64 ((i : Int) - 1)) < (ks.length : Int) then (if 0 < (((rd_T30 ks (wrap64 ((i : Int) - 1))).f0).length : Int) then (if 0 < ((ks[i].f0).length : Int) then (if (rd ((rd_T30 ks (wrap64 ((i : Int) - 1))).f0) 0) ≥ (rd (ks[i].f0) 0) then (some (false, n)) else (impl_scan.l0 k (24 - (r : Int)) long ks (ks.length : Int) (wrap64 ((i : Int) + 1)) n a b c ks)) else (none)) else (none)) else (none)) else (none)) else (impl_scan.l0 k (24 - (r : Int)) long ks (ks.length : Int) (wrap64 ((i : Int) + 1)) n a b c ks)) else (some (false, n))) (v', n') →
    Ev (fun k => impl_scan.l0 k (24 - (r : Int)) long ks (ks.length : Int) (i : Int) count a b c ks) (v', n') := by
   intro v' n' h
   refine Ev.step (fun k => by rw [impl_scan.l0]) ?_
   rw [rd_T30_get ks i hi', w64 (x := 24 - (r : Int) + 1) (by omega) (by omega), w64 (x := long + (a.length : Int)) (by omega) (by omega), show 24 - (r : Int) + 1 = 25 - (r : Int) by omega]
   exact ev_if_pos (by omega) (ev_if_pos (by omega) (ev_if_pos (by omega) (Ev.bind e h)))
  by_cases hvt : v = true
  ·obtain ⟨o1, o2, o3⟩ := hv.1 hvt
   have hn' := hc hvt
   have hpos := okD_edge o1 hr
   have hcp := cntD_pos r ks[i]
   obtain ⟨v', n', e', hv', hc'⟩ := ih (i + 1) n (by omega) (by omega) (by omega) (by omega) (fun _ h => by simpa using hpos)
   rw [Int.natCast_add, Int.natCast_one] at e'
   have good : (0 < i → rd (ks[i - 1]'(by omega)).f0 0 < rd ks[i].f0 0) → ScanSays (okFrom r ks i) (cntFrom r ks i) (longFrom r ks i) (long + (a.length : Int)) count v' n' := by
    intro g
    rw [cntFrom_step r ks i hi', longFrom_step r ks i hi']
    constructor
    ·constructor
     ·intro h
      obtain ⟨p1, p2, p3⟩ := hv'.1 h
      exact ⟨S.2 ⟨⟨o1, g⟩, p1⟩, by omega, by omega⟩
     ·rintro ⟨p1, p2, p3⟩
      exact hv'.2 ⟨(S.1 p1).2, by omega, by omega⟩
    ·intro h
     have := hc' h
     omega
   by_cases i0 : 0 < i
   ·have hi1 : i - 1 < ks.length := by omega
    have hpp := hp i0 hi1
    have ei : (i : Int) - 1 = ((i - 1 : Nat) : Int) := by omega
    by_cases o : rd ks[i - 1].f0 0 ≥ rd ks[i].f0 0
    ·refine ⟨false, n, main _ _ (ev_if_pos hvt ?_), ⟨⟨fun h => absurd h (by simp), fun h => ?_⟩, fun h => absurd h (by simp)⟩⟩
     ·rw [w64 (x := (i : Int) - 1) (by omega) (by omega), ei, rd_T30_get ks (i - 1) hi1]
      exact ev_if_pos (by omega) (ev_if_pos (by omega) (ev_if_pos (by omega) (ev_if_pos (by omega) (ev_if_pos (by omega) (ev_if_pos o (Ev.now _))))))
     ·have := (S.1 h.1).1.2 i0
      omega
    ·refine ⟨v', n', main _ _ (ev_if_pos hvt ?_), good (fun _ => by omega)⟩
     rw [w64 (x := (i : Int) - 1) (by omega) (by omega), ei, rd_T30_get ks (i - 1) hi1, w64 (x := (i : Int) + 1) (by omega) (by omega)]
     exact ev_if_pos (by omega) (ev_if_pos (by omega) (ev_if_pos (by omega) (ev_if_pos (by omega) (ev_if_pos (by omega) (ev_if_neg o e')))))
   ·refine ⟨v', n', main _ _ (ev_if_pos hvt (ev_if_neg (by omega) ?_)), good (fun h => absurd h i0)⟩
    rw [w64 (x := (i : Int) + 1) (by omega) (by omega)]
    exact e'
  ·refine ⟨false, n, main _ _ (ev_if_neg hvt (Ev.now _)), ⟨⟨fun h => absurd h (by simp), fun h => ?_⟩, fun h => absurd h (by simp)⟩⟩
   rw [cntFrom_step r ks i hi', longFrom_step r ks i hi'] at h
   exact absurd (hv.2 ⟨(S.1 h.1).1.1, by omega, by omega⟩) hvt
set_option maxHeartbeats 4000000 in
theorem scan_ev (r : Nat) : ∀ (t : S30), r ≤ 25 → FitU t → ∀ (long count : Int), 0 ≤ long → long ≤ 20 → 0 ≤ count → count ≤ 200 →
  ∃ v n, Ev (fun k => impl_scan.f k t.f0 t.f1 t.f2 t.f3 (25 - (r : Int)) long count) (v, n) ∧ ScanSays (okD r t) (cntD r t) (longD r t) long count v n := by
 induction r with
 | zero =>
  intro t hr hf long count hl0 hl1 h0 h1
  refine ⟨false, count + 1, Ev.step (fun k => by rw [impl_scan.f]) ?_, ⟨⟨fun h => absurd h (by simp), fun h => h.1.elim⟩, fun h => absurd h (by simp)⟩⟩
  have T : Ev (fun k => impl_scan.j0 k (25 - ((0 : Nat) : Int)) long true (count + 1) t.f0 t.f1 t.f2 t.f3) (false, count + 1) := Ev.step (fun k => by rw [impl_scan.j0]) (ev_if_pos rfl (Ev.now _))
  rw [w64 (x := count + 1) (by omega) (by omega)]
  exact ev_ite (fun _ => T) (fun _ => ev_if_pos (by simp) T)
 | succ r ih =>
  intro t hr hf long count hl0 hl1 h0 h1
  have ht0 := hf.h0
  have T : Ev (fun k => impl_scan.j0 k (24 - (r : Int)) long true (count + 1) t.f0 t.f1 t.f2 t.f3) (false, count + 1) := Ev.step (fun k => by rw [impl_scan.j0]) (ev_if_pos rfl (Ev.now _))
  have J : Ev (fun k => impl_scan.j1 k (24 - (r : Int)) long true (count + 1) t.f0 t.f1 t.f2 t.f3) (false, count + 1) := Ev.step (fun k => by rw [impl_scan.j1]) (ev_if_pos rfl (Ev.now _))
  have ed : 25 - ((r + 1 : Nat) : Int) = 24 - (r : Int) := by omega
  have ee : ((((t.f0.length : Int) == 0) != (24 - (r : Int) == 0)) = true) ↔ ¬ (t.f0.length = 0 ↔ r = 24) := by
   have e1 : ((t.f0.length : Int) == 0) = decide (t.f0.length = 0) := by
    rw [Bool.eq_iff_iff, beq_iff_eq, decide_eq_true_iff]; omega
   have e2 : ((24 - (r : Int)) == 0) = decide (r = 24) := by
    rw [Bool.eq_iff_iff, beq_iff_eq, decide_eq_true_iff]; omega
   rw [e1, e2]
   by_cases p : t.f0.length = 0 <;> by_cases q : r = 24 <;> simp [p, q]
  rw [ed]
  by_cases N1 : (t.f0.length = 0 ↔ r = 24) ∧ count + 1 ≤ 200 ∧ long + (t.f0.length : Int) ≤ 20
  ·have A : ∀ v n, Ev (fun k => impl_scan.j0 k (24 - (r : Int)) long false (count + 1) t.f0 t.f1 t.f2 t.f3) (v, n) → Ev (fun k => impl_scan.f k t.f0 t.f1 t.f2 t.f3 (24 - (r : Int)) long count) (v, n) := by
    intro v n h
    refine Ev.step (fun k => by rw [impl_scan.f]) ?_
    rw [w64 (x := count + 1) (by omega) (by omega), w64 (x := long + (t.f0.length : Int)) (by omega) (by omega)]
    refine ev_if_neg (by omega) (ev_if_neg (by omega) (ev_if_neg (fun g => (ee.1 g) N1.1) ?_))
    rw [decide_eq_false (by omega)]
    exact h
   by_cases N2 : (t.f1 = true → 0 ≤ t.f2 ∧ t.f2 ≤ 2147483647) ∧ (t.f1 = false → t.f2 = 0) ∧ (r = 24 ∨ t.f1 = true ∨ 2 ≤ t.f3.length)
   ·obtain ⟨v, n, e, hv, hc⟩ := scan_loop r (by omega) t.f0 ht0 t.f1 t.f2 t.f3 hf.h3 long hl0 N1.2.2 (fun x hx cn a b => ih x (by omega) (hf.hk x hx) (long + (t.f0.length : Int)) cn (by omega) (by omega) a b) t.f3.length 0 (count + 1) (by omega) (by omega) (by omega) (by omega) (fun h => absurd h (by omega))
    have e : Ev (fun k => impl_scan.l0 k (24 - (r : Int)) long t.f3 (t.f3.length : Int) 0 (count + 1) t.f0 t.f1 t.f2 t.f3) (v, n) := e
    have F : Ev (fun k => impl_scan.j1 k (24 - (r : Int)) long false (count + 1) t.f0 t.f1 t.f2 t.f3) (v, n) := Ev.step (fun k => by rw [impl_scan.j1]) (ev_if_neg (by simp) e)
    refine ⟨v, n, A v n (Ev.step (fun k => by rw [impl_scan.j0]) (ev_if_neg (by simp) ?_)), ?_⟩
    ·obtain ⟨n2, n3, n4⟩ := N2
     repeat' (first
      | exact F
      | refine ev_bind_eq (within_eq _ _ _) ?_
      | refine ev_ite (fun hc => ?_) (fun hc => ?_)
      | (rw [decide_eq_false (by grind)]; exact F)
      | (exfalso; grind))
    ·rw [okD_succ, cntD_succ, longD_succ]
     constructor
     ·constructor
      ·intro h
       obtain ⟨p1, p2, p3⟩ := hv.1 h
       exact ⟨⟨N1.1, N2.1, N2.2.1, N2.2.2, p1⟩, by omega, by omega⟩
      ·rintro ⟨⟨_, _, _, _, p1⟩, p2, p3⟩
       exact hv.2 ⟨p1, by omega, by omega⟩
     ·intro h
      have := hc h
      omega
   ·refine ⟨false, count + 1, A _ _ (Ev.step (fun k => by rw [impl_scan.j0]) (ev_if_neg (by simp) ?_)), ⟨⟨fun h => absurd h (by simp), fun h => ?_⟩, fun h => absurd h (by simp)⟩⟩
    ·repeat' (first
      | exact J
      | refine ev_bind_eq (within_eq _ _ _) ?_
      | refine ev_ite (fun hc => ?_) (fun hc => ?_)
      | (rw [decide_eq_true (by grind)]; exact J)
      | (exfalso; grind))
    ·rw [okD_succ] at h
     exact absurd ⟨h.1.2.1, h.1.2.2.1, h.1.2.2.2.1⟩ N2
  ·refine ⟨false, count + 1, Ev.step (fun k => by rw [impl_scan.f]) ?_, ⟨⟨fun h => absurd h (by simp), fun h => ?_⟩, fun h => absurd h (by simp)⟩⟩
   ·rw [w64 (x := count + 1) (by omega) (by omega), w64 (x := long + (t.f0.length : Int)) (by omega) (by omega)]
    refine ev_ite (fun _ => T) (fun g1 => ev_ite (fun _ => T) (fun g2 => ev_ite (fun _ => T) (fun g3 => ?_)))
    rw [decide_eq_true (by
     have g4 := Classical.not_not.1 (fun q => g3 (ee.2 q))
     have : ¬ long + (t.f0.length : Int) ≤ 20 := fun q => N1 ⟨g4, by omega, q⟩
     omega)]
    exact T
   ·rw [okD_succ, cntD_succ, longD_succ] at h
    exact absurd ⟨h.1.1, by omega, by omega⟩ N1
-- treevalid.lean: both programs find the same trees valid
def ValidT (t : S30) : Prop := okD 25 t ∧ cntD 25 t ≤ 200 ∧ longD 25 t ≤ 20
theorem specTreeOk_ev {t : S30} (hf : FitU t) : ∃ b, Ev (fun k => spec_TreeOk.f k t.f0 t.f1 t.f2 t.f3) b ∧ (b = true ↔ ValidT t) := by
 obtain ⟨q, e, h1, h2⟩ := l6ok_ev 25 t (by omega) hf true 200 (by simp) (by omega) (by omega)
 unfold spec_TreeOk.f
 by_cases g : okD 25 t ∧ (cntD 25 t : Int) ≤ 200
 ·have hq := h1 g
  refine ⟨decide ((longD 25 t : Int) ≤ 20), Ev.bind e (ev_if_pos (by omega) (Ev.bind (l6long_ev 25 t (by omega) hf g.1) (Ev.now _))), ?_⟩
  rw [decide_eq_true_iff]
  unfold ValidT
  constructor
  ·intro h
   exact ⟨g.1, by omega, by omega⟩
  ·intro h
   have := h.2.2
   omega
 ·have hq := h2 g
  refine ⟨false, Ev.bind e (ev_if_neg (by omega) (Ev.now _)), ⟨fun h => absurd h (by simp), fun h => ?_⟩⟩
  exact absurd ⟨h.1, by have := h.2.1; omega⟩ g
theorem implTreeOk_ev {t : S30} (hf : FitU t) : ∃ b, Ev (fun k => impl_TreeOk.f k t.f0 t.f1 t.f2 t.f3) b ∧ (b = true ↔ ValidT t) := by
 obtain ⟨v, n, e, hv, _⟩ := scan_ev 25 t (by omega) hf 0 0 (by omega) (by omega) (by omega) (by omega)
 unfold impl_TreeOk.f
 refine ⟨v, Ev.bind e (Ev.now _), ?_⟩
 rw [hv]
 unfold ValidT
 constructor
 ·rintro ⟨a, b, c⟩
  exact ⟨a, by omega, by omega⟩
 ·rintro ⟨a, b, c⟩
  exact ⟨a, by omega, by omega⟩
-- treedrop.lean: all keys that begin with a text taken out of a valid tree, by both programs
def pfx (pre key : List Int) (e : S84) : Bool := impl_TreeDrop.is (pre ++ key) e
theorem is_iff (p : List Int) (e : S84) : impl_TreeDrop.is p e = true ↔ ∃ z, e.f0 = p ++ z := by
 unfold impl_TreeDrop.is
 rw [decide_eq_true_iff]
 constructor
 ·rintro ⟨_, h⟩
  exact ⟨e.f0.drop p.length, by have := List.take_append_drop p.length e.f0; rw [h] at this; exact this.symm⟩
 ·rintro ⟨z, h⟩
  rw [h]
  simp
theorem pfx_app (pre a key : List Int) : pfx pre (a ++ key) = pfx (pre ++ a) key := by
 funext e
 unfold pfx
 rw [List.append_assoc]
theorem pfx_false {pre key : List Int} {e : S84} (h : ∀ z, e.f0 ≠ pre ++ key ++ z) : pfx pre key e = false := by
 cases c : pfx pre key e with
 | false => rfl
 | true =>
  obtain ⟨z, hz⟩ := (is_iff _ _).1 c
  exact absurd hz (h z)
theorem all_is {l : List S84} {p : S84 → Bool} (h : ∀ e ∈ l, p e = true) : l.countP p = l.length ∧ l.filter (fun e => !p e) = [] :=
 ⟨List.countP_eq_length.2 h, List.filter_eq_nil_iff.2 (fun e he => by rw [h e he]; simp)⟩
theorem lcp_of_app (a b z s : List Int) (h : a ++ s = b ++ z) : lcp a b = a.length ∨ lcp a b = b.length := by
 rcases Nat.le_total a.length b.length with c | c
 ·refine .inl ?_
  have h2 := congrArg (List.take a.length) h
  rw [List.take_left, List.take_append_of_le_length c] at h2
  rw [lcp_comm]
  exact (lcp_prefix b a).2 ⟨c, h2.symm⟩
 ·refine .inr ?_
  have h2 := congrArg (List.take b.length) h
  rw [List.take_left, List.take_append_of_le_length c] at h2
  exact (lcp_prefix a b).2 ⟨c, h2⟩
theorem cutAll_ev (r : Nat) : ∀ (t : S30) (key pre : List Int) (root : Bool), r ≤ 25 → (root = true ↔ r = 25) → FitU t → okD r t → cntD r t ≤ 200 → key.length ≤ 1048576 →
  ∃ t' st, Ev (fun k => spec_l6cut.f k t.f0 t.f1 t.f2 t.f3 key true root) (t'.f0, t'.f1, t'.f2, t'.f3, st, ((entsD r pre t).countP (pfx pre key) : Int)) ∧ (st = true → okD r t' ∧ (r < 25 → rd t'.f0 0 = rd t.f0 0)) ∧
   (if st = true then entsD r pre t' else []) = (entsD r pre t).filter (fun e => !pfx pre key e) ∧ t'.f0.length ≤ (r + 1) * 1048576 := by
 induction r with
 | zero => intro t _ _ _ _ _ _ h; exact h.elim
 | succ r ih =>
  intro t key pre root hr hroot hf h hc hkl
  obtain ⟨h1, h2, h3, h4, ok⟩ := (okD_succ r t).1 h
  have h0 := hf.h0
  have hrow := row_of ok
  have hlc := lcp_le t.f0 key
  have hroot' : root = true ↔ r = 24 := by rw [hroot]; omega
  have hB : (r + 1) * 1048576 ≤ 26 * 1048576 := Nat.mul_le_mul_right _ (by omega)
  have hB2 : (r + 1 + 1) * 1048576 = (r + 1) * 1048576 + 1048576 := by rw [Nat.add_mul (r + 1) 1]
  by_cases hall : lcp t.f0 key = key.length
  ·have hpre := (lcp_prefix t.f0 key).1 hall
   have hyes : ∀ e ∈ entsD (r + 1) pre t, pfx pre key e = true := by
    intro e he
    obtain ⟨s, hs⟩ := ents_form _ _ _ _ he
    refine (is_iff _ _).2 ⟨t.f0.drop key.length ++ s, ?_⟩
    rw [hs]
    have := List.take_append_drop key.length t.f0
    rw [hpre.2] at this
    conv => lhs; rw [← this]
    simp [List.append_assoc]
   obtain ⟨n1, n2⟩ := all_is hyes
   have hallI : (lcp t.f0 key : Int) = (key.length : Int) := by rw [hall]
   have hj : Ev (fun k => spec_l6cut.j0 k key true root (lcp t.f0 key : Int) true t.f0 t.f1 t.f2 t.f3) (t.f0, t.f1, t.f2, t.f3, false, (sizeD (r + 1) t : Int)) :=
    Ev.step (fun k => by rw [spec_l6cut.j0]) (ev_if_pos rfl (Ev.bind (l6size_ev (r + 1) t hr hf h hc) (Ev.now _)))
   refine ⟨t, false, ?_, fun e => absurd e (by simp), ?_, by omega⟩
   ·rw [n1, entsD_length]
    exact Ev.step (fun k => by rw [spec_l6cut.f]) (Ev.bind (specCommon_ev t.f0 key (by omega)) (ev_if_pos hallI hj))
   ·rw [n2, if_neg (by simp)]
  have hallI : ¬ (lcp t.f0 key : Int) = (key.length : Int) := by omega
  have hj0 : ∀ x, Ev (fun k => spec_l6cut.j0 k key true root (lcp t.f0 key : Int) false t.f0 t.f1 t.f2 t.f3) x → Ev (fun k => spec_l6cut.f k t.f0 t.f1 t.f2 t.f3 key true root) x := fun x e =>
   Ev.step (fun k => by rw [spec_l6cut.f]) (Ev.bind (specCommon_ev t.f0 key (by omega)) (ev_if_neg hallI e))
  by_cases hn : lcp t.f0 key < t.f0.length
  ·have hno : ∀ e ∈ entsD (r + 1) pre t, pfx pre key e = false := by
    intro e he
    obtain ⟨s, hs⟩ := ents_form _ _ _ _ he
    refine pfx_false (fun z hz => ?_)
    rw [hs, List.append_assoc, List.append_assoc] at hz
    have := List.append_cancel_left hz
    rcases lcp_of_app _ _ _ _ this with c | c <;> omega
   obtain ⟨n1, n2⟩ := none_is hno
   refine ⟨t, true, hj0 _ (Ev.step (fun k => by rw [spec_l6cut.j0]) (ev_if_neg (by simp) (ev_if_pos (by omega) (ev_done ?_)))), fun _ => ⟨h, fun _ => rfl⟩, ?_, by omega⟩
   ·rw [n1]; rfl
   ·rw [n2, if_pos rfl]
  ·have hle : t.f0.length < key.length := by omega
   have htk : key.take t.f0.length = t.f0 := by
    have := (lcp_prefix key t.f0).1 (by rw [lcp_comm]; omega)
    exact this.2
   have hkey : key = t.f0 ++ key.drop t.f0.length := by
    have := List.take_append_drop t.f0.length key
    rw [htk] at this
    exact this.symm
   have hln : lcp t.f0 key = t.f0.length := by omega
   generalize hk2 : key.drop t.f0.length = key2 at hkey
   have hkl2 : key2.length ≤ 1048576 := by rw [hkey, List.length_append] at hkl; omega
   have hz : 0 < key2.length := by rw [hkey, List.length_append] at hle; omega
   rw [hln] at hj0
   have hEsucc := entsD_succ r pre t
   have hm2 : (entsFrom r (pre ++ t.f0) t.f3 0).length ≤ 1000 := by
    have a := entsD_length (r + 1) pre t
    have b := sizeD_le (r + 1) t
    rw [hEsucc, List.length_append] at a
    omega
   have hone : ∀ j (hj : j < t.f3.length), cntD r t.f3[j] ≤ 200 := fun j hj => by
    rw [cntD_succ] at hc
    have hgen : ∀ l : List S30, ∀ x ∈ l, cntD r x ≤ (l.map (cntD r)).sum := by
     intro l
     induction l with
     | nil => intro x hx; simp at hx
     | cons y ys ih2 =>
      intro x hx
      rw [List.map_cons, List.sum_cons]
      rcases List.mem_cons.1 hx with rfl | hx
      ·omega
      ·have := ih2 x hx
       omega
    have := hgen t.f3 _ (List.getElem_mem hj)
    unfold cntFrom at hc
    rw [List.drop_zero] at hc
    omega
   have each : ∀ i, i < t.f3.length → ∃ q : List S30 × Nat, ∀ (hi : i < t.f3.length), q.1.length ≤ 1 ∧ q.2 = (entsD r (pre ++ t.f0) t.f3[i]).countP (pfx (pre ++ t.f0) key2) ∧ (∀ y ∈ q.1, okD r y ∧ rd y.f0 0 = rd t.f3[i].f0 0 ∧ y.f0.length ≤ (r + 1) * 1048576) ∧ ((q.1.map (entsD r (pre ++ t.f0))).flatten = (entsD r (pre ++ t.f0) t.f3[i]).filter (fun e => !pfx (pre ++ t.f0) key2 e)) ∧
     (rd t.f3[i].f0 0 = rd key2 0 → ∃ x st, Ev (fun k => spec_l6cut.f k t.f3[i].f0 t.f3[i].f1 t.f3[i].f2 t.f3[i].f3 key2 true false) (x.f0, x.f1, x.f2, x.f3, st, (q.2 : Int)) ∧ q.1 = if st = true then [x] else []) ∧ (rd t.f3[i].f0 0 ≠ rd key2 0 → q.1 = [t.f3[i]] ∧ q.2 = 0) := by
    intro i hi
    have oki := (ok i (by omega) hi).1
    by_cases e : rd t.f3[i].f0 0 = rd key2 0
    ·obtain ⟨x, st, ex, x1, x2, x4⟩ := ih t.f3[i] key2 (pre ++ t.f0) false (by omega) ⟨fun h => by simp at h, fun h => by omega⟩ (hf.hk _ (List.getElem_mem hi)) oki (hone i hi) hkl2
     refine ⟨(if st = true then [x] else [], _), fun _ => ⟨by split <;> simp, rfl, fun y hy => ?_, ?_, fun _ => ⟨x, st, ex, rfl⟩, fun ne => absurd e ne⟩⟩
     ·by_cases hst : st = true
      ·simp only [if_pos hst, List.mem_singleton] at hy
       subst hy
       exact ⟨(x1 hst).1, (x1 hst).2 (by omega), x4⟩
      ·simp only [if_neg hst] at hy
       simp at hy
     ·rw [← x2]
      by_cases hst : st = true
      ·simp [if_pos hst]
      ·simp [if_neg hst]
    ·have hno : ∀ w ∈ entsD r (pre ++ t.f0) t.f3[i], pfx (pre ++ t.f0) key2 w = false := by
      intro w hw
      obtain ⟨s, hs⟩ := ents_form _ _ _ _ hw
      have hed := okD_edge oki (show r < 25 by omega)
      refine pfx_false (fun z hk => ?_)
      rw [hs, List.append_assoc, List.append_assoc (pre ++ t.f0) key2] at hk
      have := List.append_cancel_left hk
      apply e
      rw [← rd_app0 t.f3[i].f0 s hed, this, rd_app0 _ _ hz]
     obtain ⟨n1, n2⟩ := none_is hno
     refine ⟨([t.f3[i]], 0), fun _ => ⟨by simp, n1.symm, fun y hy => ?_, ?_, fun he => absurd he e, fun _ => ⟨rfl, rfl⟩⟩⟩
     ·rw [List.mem_singleton] at hy
      subst hy
      have := (hf.hk _ (List.getElem_mem hi)).h0
      exact ⟨oki, rfl, by rw [Nat.add_mul]; omega⟩
     ·rw [n2]; simp
   obtain ⟨V, hV⟩ := pick_lt each
   have W : ∀ i (hi : i < t.f3.length), _ := fun i hi => hV i hi hi
   have hlen1 : ∀ i, ((fun i => if i < t.f3.length then (V i).1 else []) i).length ≤ 1 := fun i => by
    by_cases hi : i < t.f3.length
    ·simp only [if_pos hi]; exact (W i hi).1
    ·simp [if_neg hi]
   have hccW : ∀ i (hi : i < t.f3.length), (fun i => if i < t.f3.length then (V i).1 else []) i = (V i).1 := fun i hi => if_pos hi
   generalize hcc : (fun i => if i < t.f3.length then (V i).1 else []) = cc at hlen1 hccW
   have hrowO := catN_row cc hrow hlen1 (fun j hj y hy => by rw [hccW j hj] at hy; exact ⟨((W j hj).2.2.1 y hy).1, ((W j hj).2.2.1 y hy).2.1⟩) t.f3.length 0 (by omega)
   have hentsO := catN_ents (P := pre ++ t.f0) cc (fun e => !pfx (pre ++ t.f0) key2 e) (fun j hj => by rw [hccW j hj]; exact (W j hj).2.2.2.1) t.f3.length 0 (by omega)
   have hsum := sumN_count (P := pre ++ t.f0) (fun i => (V i).2) (pfx (pre ++ t.f0) key2) (fun j hj => (W j hj).2.1) t.f3.length 0 (by omega)
   have hcnt : (entsFrom r (pre ++ t.f0) t.f3 0).countP (pfx (pre ++ t.f0) key2) ≤ 1000 := Nat.le_trans List.countP_le_length hm2
   obtain ⟨t', st, et, c1, c2, c3, c4⟩ := tidy_ev r (by omega) t.f0 t.f1 t.f2 (catN cc 0 t.f3.length) root hroot' h1 (by omega) h2 h3 hrowO ((r + 1) * 1048576) (by omega) (fun x hx => by
    obtain ⟨j, j1, j2, j3⟩ := catN_mem cc _ _ _ hx
    rw [hccW j (by omega)] at j3
    exact ((W j (by omega)).2.2.1 x j3).2.2) pre
   have hown : ∀ e ∈ (if t.f1 = true then [(⟨pre ++ t.f0, t.f2⟩ : S84)] else []), pfx pre key e = false := by
    intro e he
    by_cases g : t.f1 = true
    ·rw [if_pos g, List.mem_singleton] at he
     subst he
     refine pfx_false (fun z hk => ?_)
     have := congrArg List.length hk
     simp only [List.length_append] at this
     omega
    ·rw [if_neg g] at he
     simp at he
   obtain ⟨o1, o2⟩ := none_is hown
   have hK : pfx pre key = pfx (pre ++ t.f0) key2 := by rw [hkey, pfx_app]
   have hloop := cut_loop key2 root t.f0 t.f1 t.f2 t.f3 hz hf.h3 cc (fun i => (V i).2) hlen1 (fun i hi => ⟨okD_edge (ok i (by omega) hi).1 (by omega), fun e => by rw [hccW i hi]; exact (W i hi).2.2.2.2.1 e, fun e => by rw [hccW i hi]; exact (W i hi).2.2.2.2.2 e⟩) t' st t.f3.length 0 [] 0 (by omega) (by omega) (by rw [hsum]; omega) (by simp) et
   refine ⟨t', st, hj0 _ (Ev.step (fun k => by rw [spec_l6cut.j0]) (ev_if_neg (by simp) (ev_if_neg (by omega) (ev_if_pos (by omega) (ev_if_pos (by omega) (ev_if_neg ?_ ?_)))))), fun hst => ⟨(c1 hst).1, fun hr5 => (c1 hst).2 (by omega)⟩, ?_, by omega⟩
   ·rw [Int.toNat_natCast, hk2]; omega
   ·rw [Int.toNat_natCast, hk2]
    have e1 : (entsD (r + 1) pre t).countP (pfx pre key) = 0 + sumN (fun i => (V i).2) 0 t.f3.length := by rw [hsum, hEsucc, List.countP_append, o1, hK]
    rw [e1]
    exact hloop
   ·rw [c2, entsD_succ, hEsucc, List.filter_append, o2, hK]
    show _ ++ entsFrom r (pre ++ t.f0) (catN cc 0 t.f3.length) 0 = _
    have e9 : entsFrom r (pre ++ t.f0) (catN cc 0 t.f3.length) 0 = ((catN cc 0 t.f3.length).map (entsD r (pre ++ t.f0))).flatten := by rw [entsFrom, List.drop_zero]
    rw [e9, hentsO]
theorem keep_count (p : S84 → Bool) : ∀ l : List S84, (l.length : Int) - ((l.filter (fun e => !p e)).length : Int) = (l.countP p : Int)
 | [] => rfl
 | x :: xs => by
  have := keep_count p xs
  rw [List.filter_cons, List.countP_cons]
  by_cases c : p x = true
  ·rw [c, if_neg (by simp), if_pos rfl, List.length_cons]
   omega
  ·rw [if_neg c, if_pos (by simpa using c), List.length_cons, List.length_cons]
   omega
theorem treeDrop_both {t : S30} (hf : FitU t) (hb : ByU t) (key : List Int) (hk : Bytes key) (hkl : key.length ≤ 1048576) : ∃ (u : S30) (n : Int), okD 25 u ∧ FitU u ∧ (entsD 25 [] u).length ≤ 200 ∧
  Ev (fun k => impl_TreeDrop.f k t.f0 t.f1 t.f2 t.f3 key) (u.f0, u.f1, u.f2, u.f3, n) ∧ Ev (fun k => spec_TreeDrop.f k t.f0 t.f1 t.f2 t.f3 key) (u.f0, u.f1, u.f2, u.f3, n) := by
 obtain ⟨v, ev, hv⟩ := implTreeOk_ev hf
 obtain ⟨v2, ev2, hv2⟩ := specTreeOk_ev hf
 have evv : v2 = v := by
  cases v <;> cases v2 <;> simp_all
 subst evv
 have hz : okD 25 (⟨[], false, 0, []⟩ : S30) := (okD_succ 24 _).2 ⟨by simp, by simp, by simp, .inl rfl, fun j _ hj => by simp at hj⟩
 have hze : entsD 25 [] (⟨[], false, 0, []⟩ : S30) = [] := by
  rw [entsD_succ, if_neg (by simp), entsFrom_end _ _ _ 0 (by simp)]
  rfl
 unfold impl_TreeDrop.f spec_TreeDrop.f
 by_cases g : v2 = true
 ·obtain ⟨o1, o2, o3⟩ := hv.1 g
  have hlen : (entsD 25 [] t).length ≤ 200 := by
   rw [entsD_length]
   have := sizeD_le 25 t
   omega
  have hkeys : ∀ e ∈ entsD 25 [] t, e.f0.length ≤ 1000 := fun e he => by
   have := ents_long 25 [] t e he
   rw [List.length_nil] at this
   omega
  have hbe := ents_bytes 25 [] t bytes_nil hb
  obtain ⟨t', st, ec, c1, c2, _⟩ := cutAll_ev 25 t key [] true (by omega) (by simp) hf o1 (by omega) hkl
  obtain ⟨u, hu, hue, hsp⟩ : ∃ u : S30, okD 25 u ∧ entsD 25 [] u = (entsD 25 [] t).filter (fun e => !pfx [] key e) ∧ ((st = true ∧ u = t') ∨ (st = false ∧ u = ⟨[], false, 0, []⟩)) := by
   cases st with
   | true => exact ⟨t', (c1 rfl).1, by rw [if_pos rfl] at c2; exact c2, .inl ⟨rfl, rfl⟩⟩
   | false => exact ⟨⟨[], false, 0, []⟩, hz, by rw [if_neg (by simp)] at c2; rw [hze]; exact c2, .inr ⟨rfl, rfl⟩⟩
  have hmem : ∀ e ∈ entsD 25 [] u, e ∈ entsD 25 [] t := fun e he => by rw [hue] at he; exact (List.mem_filter.1 he).1
  have hul : (entsD 25 [] u).length ≤ 200 := by rw [hue]; exact Nat.le_trans (List.length_filter_le _ _) hlen
  have hfu := fit_of_ents 25 [] u (by omega) hu (by omega) (fun e he => by have := hkeys e (hmem e he); omega)
  have hto := treeOf_ev hu hfu (by omega) (fun e he => by have := hkeys e (hmem e he); omega)
  have hee := entries_ev 25 t [] (by omega) hf o1 (by omega) (by simp)
  have hleft : impl_TreeDrop.left key (entsD 25 [] t) = entsD 25 [] u := by rw [hue]; rfl
  have hcnt : ((entsD 25 [] t).length : Int) - ((impl_TreeDrop.left key (entsD 25 [] t)).length : Int) = ((entsD 25 [] t).countP (pfx [] key) : Int) := keep_count (pfx [] key) _
  have hall : (entsD 25 [] t).all (fun e => decide (impl_HasPrefix.f e.f0 key = some (impl_TreeDrop.is key e))) = true := by
   rw [List.all_eq_true]
   intro e he
   exact decide_eq_true (implHasPrefix_eq e.f0 key (hbe e he) hk)
  refine ⟨u, ((entsD 25 [] t).countP (pfx [] key) : Int), hu, hfu, hul, ?_, ?_⟩
  ·refine Ev.bind ev (ev_if_pos g (Ev.bind hee (ev_if_pos ⟨hall, by omega⟩ ?_)))
   rw [hcnt, hleft]
   exact Ev.bind hto (Ev.now _)
  ·refine Ev.bind ev2 (ev_if_pos g (Ev.bind (own_ev hf) (Ev.bind ec ?_)))
   rcases hsp with ⟨hst, rfl⟩ | ⟨hst, rfl⟩
   ·exact ev_if_pos hst (Ev.bind (own_ev hfu) (Ev.now _))
   ·exact ev_if_neg (by simp [hst]) (Ev.now _)
 ·refine ⟨⟨[], false, 0, []⟩, 0, hz, FitU.mk _ (by simp) (by simp) (by simp), by rw [hze]; simp, Ev.bind ev (ev_if_neg g (Ev.now _)), Ev.bind ev2 (ev_if_neg g (Ev.now _))⟩
-- treeeq.lean: a tree compared with itself
theorem eqTreeS_loop (l : List S30) (hn : l.length ≤ 1048576) (hk : ∀ x ∈ l, Ev (fun k => laws_eqTree.f k x.f0 x.f1 x.f2 x.f3 x.f0 x.f1 x.f2 x.f3) true) (d : Nat) : ∀ (i : Nat), i ≤ l.length → l.length - i = d → Ev (fun k => laws_eqTreeS.l0 k l l (i : Int)) true := by
 induction d with
 | zero =>
  intro i hi hd
  exact Ev.step (fun k => by rw [laws_eqTreeS.l0]) (ev_if_neg (by omega) (Ev.now _))
 | succ d ih =>
  intro i hi hd
  have hi' : i < l.length := by omega
  have hm := hk l[i] (List.getElem_mem hi')
  have h := ih (i + 1) (by omega) (by omega)
  refine Ev.step (fun k => by rw [laws_eqTreeS.l0]) ?_
  rw [rd_T30_get l i hi', w64 (x := (i : Int) + 1) (by omega) (by omega)]
  rw [Int.natCast_add, Int.natCast_one] at h
  exact ev_if_pos (by omega) (ev_if_pos (by omega) (ev_if_pos (by omega) (Ev.bind hm (ev_if_pos rfl h))))
theorem eqTree_self {t : S30} (h : FitU t) : Ev (fun k => laws_eqTree.f k t.f0 t.f1 t.f2 t.f3 t.f0 t.f1 t.f2 t.f3) true := by
 induction h with
 | mk t h0 h3 hk ih =>
  refine Ev.step (fun k => by rw [laws_eqTree.f]) ?_
  refine Ev.bind (eqByteS_self t.f0 (by omega)) (ev_if_pos rfl (ev_if_neg (by simp) (ev_if_pos rfl (Ev.bind (a := true) ?_ (ev_if_pos rfl (Ev.now _))))))
  have e : Ev (fun k => laws_eqTreeS.l0 k t.f3 t.f3 0) true := eqTreeS_loop t.f3 h3 ih t.f3.length 0 (by omega) (by omega)
  refine Ev.step (fun k => by rw [laws_eqTreeS.f]) ?_
  exact ev_if_pos rfl e
-- sizes.lean: how much an argument holds
theorem szByteS_eq (l : List Int) (left : Int) (h0 : 0 ≤ left) (h1 : left ≤ 1048576) (hl : l.length ≤ maxLen) : ∃ r, laws_szByteS.f l left = some r ∧ (0 ≤ r → r ≤ left ∧ (l.length : Int) ≤ left) := by
 unfold laws_szByteS.f
 unfold maxLen at hl
 rw [w64 (by omega) (by omega)]
 by_cases c : left - (l.length : Int) < 0
 ·rw [if_pos c]
  exact ⟨-1, rfl, fun h => absurd h (by decide)⟩
 ·rw [if_neg c]
  exact ⟨_, rfl, fun _ => ⟨by omega, by omega⟩⟩
theorem szByteS_eq2 (l : List Int) (left : Int) (h0 : 0 ≤ left) (h1 : left ≤ 1048576) (hl : l.length ≤ maxLen) : ∃ r, laws_szByteS.f l left = some r ∧ (0 ≤ r → r + (l.length : Int) = left) := by
 unfold laws_szByteS.f
 unfold maxLen at hl
 rw [w64 (by omega) (by omega)]
 by_cases c : left - (l.length : Int) < 0
 ·rw [if_pos c]
  exact ⟨-1, rfl, fun h => absurd h (by decide)⟩
 ·rw [if_neg c]
  exact ⟨_, rfl, fun _ => by omega⟩
-- treeszw.lean: how much a tree holds bounds what its marks count
theorem ev_unique {α : Type} {g : Nat → Option α} {a b : α} (h : Ev g a) (k : Ev g b) : a = b := by
 obtain ⟨K, h⟩ := h
 obtain ⟨L, k⟩ := k
 have x := h (max K L) (by omega)
 have y := k (max K L) (by omega)
 rw [x] at y
 exact Option.some.inj y
mutual
def szN : S25 → Nat
 | ⟨a, _, _, ks⟩ => a.length + szNs ks + ks.length
def szNs : List S25 → Nat
 | [] => 0
 | x :: xs => szN x + szNs xs
end
theorem szN_eq (t : S25) : szN t = t.f0.length + szNs t.f3 + t.f3.length := by
 cases t
 rw [szN]
theorem szTreeS_loopW (l : List S25) (hl : l.length ≤ maxLen) (hs : ∀ x ∈ l, ∀ left : Int, 0 ≤ left → left ≤ 1048576 → ∃ r, Ev (fun k => laws_szTree.f k x.f0 x.f1 x.f2 x.f3 left) r ∧ (0 ≤ r → r + szN x ≤ left)) (d : Nat) : ∀ (i : Nat) (left : Int), i ≤ l.length → l.length - i = d → 0 ≤ left → left ≤ 1048576 →
  ∃ r, Ev (fun k => laws_szTreeS.l0 k l left (i : Int)) r ∧ (0 ≤ r → r + szNs (l.drop i) ≤ left) := by
 induction d with
 | zero =>
  intro i left hi hd h0 h1
  refine ⟨left, Ev.step (fun k => by rw [laws_szTreeS.l0]) (ev_if_neg (by omega) (Ev.now _)), fun _ => ?_⟩
  rw [List.drop_of_length_le (by omega), szNs]
  omega
 | succ d ih =>
  intro i left hi hd h0 h1
  have hi' : i < l.length := by omega
  obtain ⟨q, e, hq⟩ := hs l[i] (List.getElem_mem hi') left h0 h1
  by_cases c : q < 0
  ·refine ⟨-1, Ev.step (fun k => by rw [laws_szTreeS.l0]) ?_, fun h => absurd h (by decide)⟩
   rw [rd_T25_get l i hi']
   exact ev_if_pos (by omega) (ev_if_pos (by omega) (Ev.bind e (ev_if_pos c (Ev.now _))))
  ·have q1 := hq (by omega)
   obtain ⟨r, er, hr⟩ := ih (i + 1) q (by omega) (by omega) (by omega) (by omega)
   refine ⟨r, Ev.step (fun k => by rw [laws_szTreeS.l0]) ?_, fun h => ?_⟩
   ·unfold maxLen at hl
    rw [rd_T25_get l i hi', w64 (x := (i : Int) + 1) (by omega) (by omega)]
    refine ev_if_pos (by omega) (ev_if_pos (by omega) (Ev.bind e (ev_if_neg c ?_)))
    rw [Int.natCast_add, Int.natCast_one] at er
    exact er
   ·have h2 := hr h
    rw [List.drop_eq_getElem_cons hi', szNs]
    omega
theorem szTree_evW {t : S25} (h : okS25 t) : ∀ left : Int, 0 ≤ left → left ≤ 1048576 → ∃ r, Ev (fun k => laws_szTree.f k t.f0 t.f1 t.f2 t.f3 left) r ∧ (0 ≤ r → r + szN t ≤ left) := by
 induction h with
 | mk t h0 _ _ h3 g3 ih =>
  intro left l0 l1
  obtain ⟨q, e, hq⟩ := szByteS_eq2 t.f0 left l0 l1 h0.1
  by_cases c : q < 0
  ·exact ⟨-1, Ev.step (fun k => by rw [laws_szTree.f]) (ev_bind_eq e (ev_if_pos c (Ev.now _))), fun h => absurd h (by decide)⟩
  ·have q1 := hq (by omega)
   have hl' := h3
   unfold maxLen at hl'
   have key : ∃ r, Ev (fun k => laws_szTreeS.f k t.f3 q) r ∧ (0 ≤ r → r + szNs t.f3 + t.f3.length ≤ q) := by
    by_cases c2 : q - (t.f3.length : Int) < 0
    ·refine ⟨-1, Ev.step (fun k => by rw [laws_szTreeS.f]) ?_, fun h => absurd h (by decide)⟩
     rw [w64 (x := q - (t.f3.length : Int)) (by omega) (by omega)]
     exact ev_if_pos c2 (Ev.now _)
    ·obtain ⟨r, er, hr⟩ := szTreeS_loopW t.f3 h3 (fun x hx left a b => ih x hx left a b) t.f3.length 0 (q - (t.f3.length : Int)) (by omega) (by omega) (by omega) (by omega)
     refine ⟨r, Ev.step (fun k => by rw [laws_szTreeS.f]) ?_, fun h => ?_⟩
     ·rw [w64 (x := q - (t.f3.length : Int)) (by omega) (by omega)]
      exact ev_if_neg c2 er
     ·have a := hr h
      rw [List.drop_zero] at a
      omega
   obtain ⟨r, er, hr⟩ := key
   by_cases c3 : r < 0
   ·exact ⟨-1, Ev.step (fun k => by rw [laws_szTree.f]) (ev_bind_eq e (ev_if_neg c (Ev.bind er (ev_if_pos c3 (Ev.now _))))), fun h => absurd h (by decide)⟩
   ·refine ⟨r, Ev.step (fun k => by rw [laws_szTree.f]) (ev_bind_eq e (ev_if_neg c (Ev.bind er (ev_if_neg c3 (Ev.now _))))), fun h => ?_⟩
    have a := hr h
    rw [szN_eq]
    omega
-- treemarks.lean: a tree that is marked: only how far the marks count is told
theorem mark_stable {t : S25} (h : FitT t) : ∃ K v, v ≤ 2 * szN t + 2 ∧ ∀ k, K ≤ k → laws_markTree.S_dp k (cvTree t) = true ∧ laws_markTree.S_wt k (cvTree t) = v := by
 induction h with
 | mk t h0 h3 hk ih =>
  have key : ∀ l : List S25, (∀ x ∈ l, ∃ K v, v ≤ 2 * szN x + 2 ∧ ∀ k, K ≤ k → laws_markTree.S_dp k (cvTree x) = true ∧ laws_markTree.S_wt k (cvTree x) = v) →
    ∃ K v, v ≤ 2 * szNs l + 2 * l.length ∧ ∀ k, K ≤ k → (l.map cvTree).all (laws_markTree.S_dp k) = true ∧ ((l.map cvTree).map (laws_markTree.S_wt k)).sum = v := by
   intro l
   induction l with
   | nil => intro _; exact ⟨0, 0, by omega, fun k _ => ⟨rfl, rfl⟩⟩
   | cons x xs ih2 =>
    intro hx
    obtain ⟨K, v, hv, e⟩ := hx x (List.mem_cons_self ..)
    obtain ⟨L, u, hu, g⟩ := ih2 (fun y hy => hx y (List.mem_cons_of_mem _ hy))
    refine ⟨max K L, v + u, by rw [szNs, List.length_cons]; omega, fun k hk => ?_⟩
    have a := e k (by omega)
    have b := g k (by omega)
    rw [List.map_cons, List.map_cons, List.all_cons, List.sum_cons, a.1, b.1, a.2, b.2]
    exact ⟨rfl, rfl⟩
  obtain ⟨K, v, hv, e⟩ := key t.f3 ih
  refine ⟨K + 1, t.f0.length + 2 + v, by rw [szN_eq]; omega, fun k hk => ?_⟩
  obtain ⟨k, rfl⟩ : ∃ m, k = m + 1 := ⟨k - 1, by omega⟩
  have a := e k (by omega)
  rw [laws_markTree.S_dp, laws_markTree.S_wt, cvTree_eq]
  exact ⟨a.1, by rw [a.2]⟩
theorem markTree_ev {t : S25} (h : FitT t) (hs : szN t ≤ 1048576) (a : Int) (h0 : 0 ≤ a) (h1 : a ≤ 100000000) : ∃ m : Int, Ev (fun k => laws_markTree.f k (cvTree t).f0 (cvTree t).f1 (cvTree t).f2 (cvTree t).f3 a) m ∧ a ≤ m ∧ m ≤ a + 4194304 := by
 obtain ⟨K, v, hv, e⟩ := mark_stable h
 have hl : (cvTree t).f0.length ≤ 1048576 := by
  rw [cvTree_eq]
  rw [szN_eq] at hs
  show t.f0.length ≤ _
  omega
 have hw : ∀ k, K ≤ k → (cvTree t).f3.all (laws_markTree.S_dp k) = true ∧ ((cvTree t).f3.map (laws_markTree.S_wt k)).sum + (cvTree t).f0.length + 2 = v := fun k hk => by
  have a := e (k + 1) (by omega)
  rw [laws_markTree.S_dp, laws_markTree.S_wt] at a
  exact ⟨a.1, by rw [← a.2]; omega⟩
 refine ⟨a + v - 2, ⟨K, fun k hk => ?_⟩, ?_, by omega⟩
 ·obtain ⟨x, y⟩ := hw k hk
  show laws_markTree.f k _ _ _ _ a = _
  unfold laws_markTree.f
  rw [if_pos ⟨x, h0, by omega⟩]
  congr 1
  omega
 ·have := (hw K (Nat.le_refl _)).2
  omega
-- treesz.lean: how much a tree holds
theorem szTreeS_loop (l : List S25) (hl : l.length ≤ maxLen) (hs : ∀ x ∈ l, ∀ left : Int, 0 ≤ left → left ≤ 1048576 → ∃ r, Ev (fun k => laws_szTree.f k x.f0 x.f1 x.f2 x.f3 left) r ∧ (0 ≤ r → r ≤ left ∧ FitT x)) (d : Nat) : ∀ (i : Nat) (left : Int), i ≤ l.length → l.length - i = d → 0 ≤ left → left ≤ 1048576 →
  ∃ r, Ev (fun k => laws_szTreeS.l0 k l left (i : Int)) r ∧ (0 ≤ r → r ≤ left ∧ ∀ x ∈ l.drop i, FitT x) := by
 induction d with
 | zero =>
  intro i left hi hd h0 h1
  refine ⟨left, Ev.step (fun k => by rw [laws_szTreeS.l0]) (ev_if_neg (by omega) (Ev.now _)), fun _ => ⟨by omega, ?_⟩⟩
  rw [List.drop_of_length_le (by omega)]
  simp
 | succ d ih =>
  intro i left hi hd h0 h1
  have hi' : i < l.length := by omega
  obtain ⟨q, e, hq⟩ := hs l[i] (List.getElem_mem hi') left h0 h1
  by_cases c : q < 0
  ·refine ⟨-1, Ev.step (fun k => by rw [laws_szTreeS.l0]) ?_, fun h => absurd h (by decide)⟩
   rw [rd_T25_get l i hi']
   exact ev_if_pos (by omega) (ev_if_pos (by omega) (Ev.bind e (ev_if_pos c (Ev.now _))))
  ·obtain ⟨q1, q2⟩ := hq (by omega)
   obtain ⟨r, er, hr⟩ := ih (i + 1) q (by omega) (by omega) (by omega) (by omega)
   refine ⟨r, Ev.step (fun k => by rw [laws_szTreeS.l0]) ?_, fun h => ?_⟩
   ·unfold maxLen at hl
    rw [rd_T25_get l i hi', w64 (x := (i : Int) + 1) (by omega) (by omega)]
    refine ev_if_pos (by omega) (ev_if_pos (by omega) (Ev.bind e (ev_if_neg c ?_)))
    rw [Int.natCast_add, Int.natCast_one] at er
    exact er
   ·obtain ⟨h2, h3⟩ := hr h
    refine ⟨by omega, fun x hx => ?_⟩
    rw [List.drop_eq_getElem_cons hi'] at hx
    rcases List.mem_cons.1 hx with rfl | hx
    ·exact q2
    ·exact h3 x hx
theorem szTree_ev {t : S25} (h : okS25 t) : ∀ left : Int, 0 ≤ left → left ≤ 1048576 → ∃ r, Ev (fun k => laws_szTree.f k t.f0 t.f1 t.f2 t.f3 left) r ∧ (0 ≤ r → r ≤ left ∧ FitT t) := by
 induction h with
 | mk t h0 _ _ h3 g3 ih =>
  intro left l0 l1
  obtain ⟨q, e, hq⟩ := szByteS_eq t.f0 left l0 l1 h0.1
  by_cases c : q < 0
  ·exact ⟨-1, Ev.step (fun k => by rw [laws_szTree.f]) (ev_bind_eq e (ev_if_pos c (Ev.now _))), fun h => absurd h (by decide)⟩
  ·obtain ⟨q1, q2⟩ := hq (by omega)
   have hl' := h3
   unfold maxLen at hl'
   have key : ∃ r, Ev (fun k => laws_szTreeS.f k t.f3 q) r ∧ (0 ≤ r → r ≤ q ∧ (t.f3.length : Int) ≤ q ∧ ∀ x ∈ t.f3, FitT x) := by
    by_cases c2 : q - (t.f3.length : Int) < 0
    ·refine ⟨-1, Ev.step (fun k => by rw [laws_szTreeS.f]) ?_, fun h => absurd h (by decide)⟩
     rw [w64 (x := q - (t.f3.length : Int)) (by omega) (by omega)]
     exact ev_if_pos c2 (Ev.now _)
    ·obtain ⟨r, er, hr⟩ := szTreeS_loop t.f3 h3 (fun x hx left a b => ih x hx left a b) t.f3.length 0 (q - (t.f3.length : Int)) (by omega) (by omega) (by omega) (by omega)
     refine ⟨r, Ev.step (fun k => by rw [laws_szTreeS.f]) ?_, fun h => ?_⟩
     ·rw [w64 (x := q - (t.f3.length : Int)) (by omega) (by omega)]
      exact ev_if_neg c2 er
     ·obtain ⟨a, b⟩ := hr h
      exact ⟨by omega, by omega, by simpa using b⟩
   obtain ⟨r, er, hr⟩ := key
   by_cases c3 : r < 0
   ·exact ⟨-1, Ev.step (fun k => by rw [laws_szTree.f]) (ev_bind_eq e (ev_if_neg c (Ev.bind er (ev_if_pos c3 (Ev.now _))))), fun h => absurd h (by decide)⟩
   ·refine ⟨r, Ev.step (fun k => by rw [laws_szTree.f]) (ev_bind_eq e (ev_if_neg c (Ev.bind er (ev_if_neg c3 (Ev.now _))))), fun h => ?_⟩
    obtain ⟨a, b, g⟩ := hr h
    exact ⟨by omega, FitT.mk t (by omega) (by omega) g⟩
-- treeto.lean: a tree's copy, and its comparison with itself
theorem toTreeS_loop (l : List S25) (hn : l.length ≤ 1048576) (hk : ∀ x ∈ l, Ev (fun k => laws_toTree.f k x.f0 x.f1 x.f2 x.f3) (x.f0, x.f1, x.f2, x.f3.map cvTree)) (d : Nat) : ∀ (i : Nat), i ≤ l.length → l.length - i = d →
  Ev (fun k => laws_toTreeS.l0 k l ((l.take i).map cvTree ++ List.replicate (l.length - i) z30) (i : Int)) (l.map cvTree) := by
 induction d with
 | zero =>
  intro i hi hd
  refine Ev.step (fun k => by rw [laws_toTreeS.l0]) (ev_if_neg (by omega) (ev_done ?_))
  rw [hd, List.replicate_zero, List.append_nil, List.take_of_length_le (by omega)]
 | succ d ih =>
  intro i hi hd
  have hi' : i < l.length := by omega
  have hm := hk l[i] (List.getElem_mem hi')
  have h := ih (i + 1) (by omega) (by omega)
  refine Ev.step (fun k => by rw [laws_toTreeS.l0]) ?_
  rw [rd_T25_get l i hi', w64 (x := (i : Int) + 1) (by omega) (by omega)]
  refine ev_if_pos (by omega) (ev_if_pos (by omega) (Ev.bind hm ?_))
  refine ev_if_pos (by rw [List.length_append, List.length_map, List.length_take, List.length_replicate]; omega) ?_
  dsimp only
  rw [← cvTree_eq l[i]]
  rw [Int.natCast_add, Int.natCast_one] at h
  have hs : ((l.take i).map cvTree ++ List.replicate (l.length - i) z30).set ((i : Int).toNat) (cvTree l[i]) = (l.take (i + 1)).map cvTree ++ List.replicate (l.length - (i + 1)) z30 := by
   rw [Int.toNat_natCast, List.set_append_right _ _ (by rw [List.length_map, List.length_take]; omega), List.length_map, List.length_take, Nat.min_eq_left hi, Nat.sub_self,
    show l.length - i = (l.length - (i + 1)) + 1 by omega, List.replicate_succ, List.set_cons_zero, List.take_succ_eq_append_getElem hi', List.map_append, List.append_assoc]
   rfl
  rw [← hs] at h
  exact h
theorem toTree_ev0 {t : S25} (h : FitT t) : Ev (fun k => laws_toTree.f k t.f0 t.f1 t.f2 t.f3) (t.f0, t.f1, t.f2, t.f3.map cvTree) := by
 induction h with
 | mk t h0 h3 hk ih =>
  have key : Ev (fun k => laws_toTreeS.f k t.f3) (t.f3.map cvTree) := by
   have h := toTreeS_loop t.f3 h3 ih t.f3.length 0 (by omega) (by omega)
   rw [List.take_zero, List.map_nil, List.nil_append, Nat.sub_zero] at h
   refine Ev.step (fun k => by rw [laws_toTreeS.f]) ?_
   refine ev_if_pos (by omega) (ev_if_pos (by omega) ?_)
   rw [Int.toNat_natCast]
   exact h
  refine Ev.step (fun k => by rw [laws_toTree.f]) ?_
  refine Ev.bind (toByteS_ev t.f0 (by omega)) ?_
  refine Ev.bind key ?_
  exact Ev.now _
theorem toTree_ev {t : S25} (h : FitT t) : Ev (fun k => laws_toTree.f k t.f0 t.f1 t.f2 t.f3) ((cvTree t).f0, (cvTree t).f1, (cvTree t).f2, (cvTree t).f3) := by
 rw [cvTree_eq]
 exact toTree_ev0 h
end Go.Proofs.Ytoaddpfoecggpaa.Pure
