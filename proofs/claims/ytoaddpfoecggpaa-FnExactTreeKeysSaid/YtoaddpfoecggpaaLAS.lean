import Derived.Test.YtoaddpfoecggpaaPSx0
import Derived.Test.YtoaddpfoecggpaaPSx1
import Derived.Test.YtoaddpfoecggpaaPSx2
import Derived.Test.YtoaddpfoecggpaaPSx3
import Derived.Test.YtoaddpfoecggpaaPSx4
import Derived.Test.YtoaddpfoecggpaaPSx5
import Derived.Test.YtoaddpfoecggpaaPSx6
import Derived.Test.YtoaddpfoecggpaaPSx7
import Derived.Test.YtoaddpfoecggpaaPSx8
import Derived.Lib.Bytes
namespace Go.Proofs.Ytoaddpfoecggpaa.Pure
open Go.RowKit Go.Proofs.Ytoaddpfoecggpaa.PS Go.Proofs.YtoaddpfoecggpaaW.PrintWords Go.Proofs.YtoaddpfoecggpaaW.PrintLast Go.Proofs.YtoaddpfoecggpaaW.PrintMore
set_option linter.unusedVariables false
set_option linter.unusedSimpArgs false
theorem w64 {x : Int} (h0 : -9223372036854775808 ≤ x) (h1 : x ≤ 9223372036854775807) : wrap64 x = x := by
 unfold wrap64
 omega
theorem ev_if_pos {α : Type} {c : Prop} [Decidable c] {g f : Nat → Option α} {r : α} (h : c) (k : Ev g r) : Ev (fun n => if c then g n else f n) r := by
 simp only [if_pos h]
 exact k
theorem ev_if_neg {α : Type} {c : Prop} [Decidable c] {g f : Nat → Option α} {r : α} (h : ¬ c) (k : Ev f r) : Ev (fun n => if c then g n else f n) r := by
 simp only [if_neg h]
 exact k
theorem ev_bind_eq {α β : Type} {g : Option α} {f : Nat → α → Option β} {a : α} {r : β} (h : g = some a) (k : Ev (fun n => f n a) r) : Ev (fun n => g.bind (f n)) r := by
 subst h
 exact k
theorem rd_nat (l : List Int) (i : Nat) : rd l (i : Int) = l.getD i 0 := by
 unfold rd
 rw [Int.toNat_natCast]
theorem rd_get (l : List Int) (i : Nat) (h : i < l.length) : rd l (i : Int) = l[i] := by
 rw [rd_nat, List.getD_eq_getElem?_getD, List.getElem?_eq_getElem h]
 rfl
theorem take_set_succ {α : Type} (x l : List α) (i : Nat) (v : α) (hx : i < x.length) (hl : i < l.length) (h : x.take i = l.take i) (hv : v = l[i]) : (x.set i v).take (i + 1) = l.take (i + 1) := by
 rw [List.take_succ_eq_append_getElem (by simpa using hx), List.take_succ_eq_append_getElem hl, List.take_set_of_le (Nat.le_refl i), h, List.getElem_set_self, hv]
theorem eq_of_take {α : Type} {x l : List α} {n : Nat} (hx : x.length = n) (hl : l.length = n) (h : x.take n = l.take n) : x = l := by
 rw [List.take_of_length_le (by omega), List.take_of_length_le (by omega)] at h
 exact h
/-- What the marks are: k, k + 1, .. as bytes. -/
def marks (k : Int) (n : Nat) : List Int := (List.range n).map fun (j : Nat) => (k + (j : Int)) % 256
theorem marks_length (k : Int) (n : Nat) : (marks k n).length = n := by simp [marks]
theorem marks_get (k : Int) (n i : Nat) (h : i < (marks k n).length) : (marks k n)[i] = (k + (i : Int)) % 256 := by simp [marks]
theorem wf_u8 {n : Int} (h : (Lit.int .u8 n).wf = true) : 0 ≤ n ∧ n ≤ 255 := by
 simp [Lit.wf, IntKind.min, IntKind.max, IntKind.signed, IntKind.bits] at h
 omega
theorem ev_ite {α : Type} {c : Prop} [Decidable c] {g f : Nat → Option α} {r : α} (h : c → Ev g r) (h' : ¬ c → Ev f r) : Ev (fun n => if c then g n else f n) r := by
 by_cases hc : c
 ·exact ev_if_pos hc (h hc)
 ·exact ev_if_neg hc (h' hc)
theorem ev_done {α : Type} {a b : α} (h : a = b) : Ev (fun _ => some a) b := h ▸ Ev.now a
theorem ev_of {α : Type} {g : Nat → Option α} {a b : α} (h : Ev g a) (e : a = b) : Ev g b := e ▸ h
-- bytes.lean: the law package's helpers on bytes
theorem toByteS_loop (l : List Int) (hn : l.length ≤ 140737488351232) (d : Nat) : ∀ (x : List Int) (i : Nat), x.length = l.length → i ≤ l.length → l.length - i = d → x.take i = l.take i → Ev (fun k => laws_toByteS.l0 k l x (i : Int)) l := by
 induction d with
 | zero =>
  intro x i hx hi hd ht
  refine Ev.step (fun k => by rw [laws_toByteS.l0]) ?_
  refine ev_if_neg (by omega) ?_
  obtain rfl : i = l.length := by omega
  rw [eq_of_take hx rfl ht]
  exact Ev.now _
 | succ d ih =>
  intro x i hx hi hd ht
  refine Ev.step (fun k => by rw [laws_toByteS.l0]) ?_
  refine ev_if_pos (by omega) (ev_if_pos (by omega) (ev_if_pos (by omega) ?_))
  have h := ih (x.set i (rd l (i : Int))) (i + 1) (by rw [List.length_set]; exact hx) (by omega) (by omega) (take_set_succ x l i _ (by omega) (by omega) ht (rd_get l i (by omega)))
  rw [w64 (by omega) (by omega), Int.toNat_natCast]
  rw [Int.natCast_add, Int.natCast_one] at h
  exact h
theorem toByteS_ev (l : List Int) (hn : l.length ≤ 140737488351232) : Ev (fun k => laws_toByteS.f k l) l := by
 unfold laws_toByteS.f
 refine ev_if_pos (by omega) (ev_if_pos (by omega) ?_)
 exact toByteS_loop l hn l.length _ 0 (by rw [List.length_replicate, Int.toNat_natCast]) (by omega) (by omega) rfl
theorem eqByteS_loop (a b : List Int) (hn : a.length ≤ 140737488351232) (hab : a.length = b.length) (d : Nat) : ∀ (i : Nat), i ≤ a.length → a.length - i = d → a.take i = b.take i → Ev (fun k => laws_eqByteS.l0 k a b (i : Int)) (decide (a = b)) := by
 induction d with
 | zero =>
  intro i hi hd ht
  refine Ev.step (fun k => by rw [laws_eqByteS.l0]) ?_
  refine ev_if_neg (by omega) ?_
  obtain rfl : i = a.length := by omega
  rw [decide_eq_true (eq_of_take rfl hab.symm ht)]
  exact Ev.now _
 | succ d ih =>
  intro i hi hd ht
  refine Ev.step (fun k => by rw [laws_eqByteS.l0]) ?_
  refine ev_if_pos (by omega) (ev_if_pos (by omega) (ev_if_pos (by omega) ?_))
  by_cases e : rd a (i : Int) = rd b (i : Int)
  ·refine ev_if_pos e ?_
   have h := ih (i + 1) (by omega) (by omega) (by
    rw [rd_get a i (by omega), rd_get b i (by omega)] at e
    rw [List.take_succ_eq_append_getElem (by omega), List.take_succ_eq_append_getElem (by omega), ht, e])
   rw [w64 (by omega) (by omega)]
   rw [Int.natCast_add, Int.natCast_one] at h
   exact h
  ·refine ev_if_neg e ?_
   rw [decide_eq_false (fun h => e (by rw [h]))]
   exact Ev.now _
theorem eqByteS_ev (a b : List Int) (hn : a.length ≤ 140737488351232) : Ev (fun k => laws_eqByteS.f k a b) (decide (a = b)) := by
 by_cases hab : a.length = b.length
 ·unfold laws_eqByteS.f
  refine ev_if_pos (by omega) ?_
  exact eqByteS_loop a b hn hab a.length 0 (by omega) (by omega) rfl
 ·unfold laws_eqByteS.f
  refine ev_if_neg (by omega) ?_
  rw [decide_eq_false (fun h => hab (by rw [h]))]
  exact Ev.now _
theorem eqByteS_self (a : List Int) (hn : a.length ≤ 140737488351232) : Ev (fun k => laws_eqByteS.f k a a) true := by
 have h := eqByteS_ev a a hn
 rw [decide_eq_true rfl] at h
 exact h
-- bytesp.lean: lists of bytes
def Bytes (l : List Int) : Prop := ∀ x ∈ l, (Lit.int .u8 x).wf = true
theorem bytes_nil : Bytes [] := fun x hx => by cases hx
theorem bytes_append {a b : List Int} (ha : Bytes a) (hb : Bytes b) : Bytes (a ++ b) := fun x hx => (List.mem_append.1 hx).elim (ha x) (hb x)
theorem bytes_take {a : List Int} (n : Nat) (ha : Bytes a) : Bytes (a.take n) := fun x hx => ha x (List.mem_of_mem_take hx)
-- treeok.lean: which trees are valid: told once for both programs
/-- Of a tree with so many levels left (25 at the root): is each part of it well formed? -/
def okD : Nat → S30 → Prop
 | 0, _ => False
 | r + 1, t => (t.f0.length = 0 ↔ r = 24) ∧ (t.f1 = true → 0 ≤ t.f2 ∧ t.f2 ≤ 2147483647) ∧ (t.f1 = false → t.f2 = 0) ∧ (r = 24 ∨ t.f1 = true ∨ 2 ≤ t.f3.length) ∧
   ∀ j, (h : j < t.f3.length) → okD r t.f3[j] ∧ (0 < j → rd (t.f3[j - 1]'(by omega)).f0 0 < rd t.f3[j].f0 0)
/-- How many parts it has. -/
def cntD : Nat → S30 → Nat
 | 0, _ => 1
 | r + 1, t => 1 + (t.f3.map (cntD r)).sum
/-- How long its longest key is. -/
def longD : Nat → S30 → Nat
 | 0, t => t.f0.length
 | r + 1, t => t.f0.length + (t.f3.map (longD r)).foldr max 0
/-- Its kids from one on. -/
def okFrom (r : Nat) (ks : List S30) (i : Nat) : Prop := ∀ j, i ≤ j → (h : j < ks.length) → okD r ks[j] ∧ (0 < j → rd (ks[j - 1]'(by omega)).f0 0 < rd ks[j].f0 0)
def cntFrom (r : Nat) (ks : List S30) (i : Nat) : Nat := ((ks.drop i).map (cntD r)).sum
def longFrom (r : Nat) (ks : List S30) (i : Nat) : Nat := ((ks.drop i).map (longD r)).foldr max 0
theorem okD_edge {r : Nat} {t : S30} (h : okD r t) (hr : r < 25) : 0 < t.f0.length := by
 cases r with
 | zero => exact h.elim
 | succ r =>
  have := h.1
  omega
theorem cntFrom_end (r : Nat) (ks : List S30) (i : Nat) (h : ks.length ≤ i) : cntFrom r ks i = 0 := by
 unfold cntFrom
 rw [List.drop_of_length_le h]
 rfl
theorem cntFrom_step (r : Nat) (ks : List S30) (i : Nat) (h : i < ks.length) : cntFrom r ks i = cntD r ks[i] + cntFrom r ks (i + 1) := by
 unfold cntFrom
 rw [List.drop_eq_getElem_cons h, List.map_cons, List.sum_cons]
theorem longFrom_end (r : Nat) (ks : List S30) (i : Nat) (h : ks.length ≤ i) : longFrom r ks i = 0 := by
 unfold longFrom
 rw [List.drop_of_length_le h]
 rfl
theorem longFrom_step (r : Nat) (ks : List S30) (i : Nat) (h : i < ks.length) : longFrom r ks i = max (longD r ks[i]) (longFrom r ks (i + 1)) := by
 unfold longFrom
 rw [List.drop_eq_getElem_cons h, List.map_cons, List.foldr_cons]
theorem okFrom_end (r : Nat) (ks : List S30) (i : Nat) (h : ks.length ≤ i) : okFrom r ks i := fun j h1 h2 => absurd h2 (by omega)
theorem okFrom_step (r : Nat) (ks : List S30) (i : Nat) (h : i < ks.length) : okFrom r ks i ↔ (okD r ks[i] ∧ (0 < i → rd (ks[i - 1]'(by omega)).f0 0 < rd ks[i].f0 0)) ∧ okFrom r ks (i + 1) := by
 constructor
 ·intro g
  exact ⟨g i (Nat.le_refl _) h, fun j h1 h2 => g j (by omega) h2⟩
 ·rintro ⟨a, b⟩ j h1 h2
  by_cases e : j = i
  ·subst e
   exact a
  ·exact b j (by omega) h2
theorem okD_succ (r : Nat) (t : S30) : okD (r + 1) t ↔ (t.f0.length = 0 ↔ r = 24) ∧ (t.f1 = true → 0 ≤ t.f2 ∧ t.f2 ≤ 2147483647) ∧ (t.f1 = false → t.f2 = 0) ∧ (r = 24 ∨ t.f1 = true ∨ 2 ≤ t.f3.length) ∧ okFrom r t.f3 0 := by
 rw [okD]
 unfold okFrom
 constructor
 ·rintro ⟨a, b, c, d, e⟩
  exact ⟨a, b, c, d, fun j _ h => e j h⟩
 ·rintro ⟨a, b, c, d, e⟩
  exact ⟨a, b, c, d, fun j h => e j (by omega) h⟩
theorem cntD_succ (r : Nat) (t : S30) : cntD (r + 1) t = 1 + cntFrom r t.f3 0 := by rw [cntD, cntFrom, List.drop_zero]
theorem longD_succ (r : Nat) (t : S30) : longD (r + 1) t = t.f0.length + longFrom r t.f3 0 := by rw [longD, longFrom, List.drop_zero]
theorem cntD_pos (r : Nat) (t : S30) : 0 < cntD r t := by
 cases r
 ·rw [cntD]; omega
 ·rw [cntD_succ]; omega
-- entries.lean: the keys of a valid tree, in order
/-- A part's entries, with what stands ahead. -/
def entsD : Nat → List Int → S30 → List S84
 | 0, _, _ => []
 | r + 1, ahead, t => (if t.f1 = true then [⟨ahead ++ t.f0, t.f2⟩] else []) ++ (t.f3.map (entsD r (ahead ++ t.f0))).flatten
def entsFrom (r : Nat) (ahead : List Int) (ks : List S30) (i : Nat) : List S84 := ((ks.drop i).map (entsD r ahead)).flatten
/-- How many there are. -/
def sizeD : Nat → S30 → Nat
 | 0, _ => 0
 | r + 1, t => (if t.f1 = true then 1 else 0) + (t.f3.map (sizeD r)).sum
def sizeFrom (r : Nat) (ks : List S30) (i : Nat) : Nat := ((ks.drop i).map (sizeD r)).sum
theorem entsFrom_end (r : Nat) (ahead : List Int) (ks : List S30) (i : Nat) (h : ks.length ≤ i) : entsFrom r ahead ks i = [] := by
 unfold entsFrom
 rw [List.drop_of_length_le h]
 rfl
theorem entsFrom_step (r : Nat) (ahead : List Int) (ks : List S30) (i : Nat) (h : i < ks.length) : entsFrom r ahead ks i = entsD r ahead ks[i] ++ entsFrom r ahead ks (i + 1) := by
 unfold entsFrom
 rw [List.drop_eq_getElem_cons h, List.map_cons, List.flatten_cons]
theorem entsD_succ (r : Nat) (ahead : List Int) (t : S30) : entsD (r + 1) ahead t = (if t.f1 = true then [⟨ahead ++ t.f0, t.f2⟩] else []) ++ entsFrom r (ahead ++ t.f0) t.f3 0 := by rw [entsD, entsFrom, List.drop_zero]
theorem sum_le (f g : S30 → Nat) (l : List S30) (h : ∀ x ∈ l, f x ≤ g x) : (l.map f).sum ≤ (l.map g).sum := by
 induction l with
 | nil => simp
 | cons x xs ih =>
  rw [List.map_cons, List.map_cons, List.sum_cons, List.sum_cons]
  have a := h x (List.mem_cons_self ..)
  have b := ih (fun y hy => h y (List.mem_cons_of_mem _ hy))
  omega
theorem sizeD_le (r : Nat) : ∀ t : S30, sizeD r t ≤ cntD r t := by
 induction r with
 | zero => intro t; rw [sizeD]; omega
 | succ r ih =>
  intro t
  rw [sizeD, cntD]
  have := sum_le (sizeD r) (cntD r) t.f3 (fun x _ => ih x)
  split <;> omega
theorem length_flatten_map (f : S30 → List S84) (g : S30 → Nat) (l : List S30) (h : ∀ x ∈ l, (f x).length = g x) : (l.map f).flatten.length = (l.map g).sum := by
 induction l with
 | nil => simp
 | cons x xs ih =>
  rw [List.map_cons, List.map_cons, List.flatten_cons, List.sum_cons, List.length_append, h x (List.mem_cons_self ..), ih (fun y hy => h y (List.mem_cons_of_mem _ hy))]
theorem entsD_length (r : Nat) : ∀ (ahead : List Int) (t : S30), (entsD r ahead t).length = sizeD r t := by
 induction r with
 | zero => intro ahead t; rw [entsD, sizeD]; rfl
 | succ r ih =>
  intro ahead t
  rw [entsD, sizeD, List.length_append, length_flatten_map _ (sizeD r) t.f3 (fun x _ => ih _ x)]
  split <;> simp
theorem sizeFrom_le (r : Nat) (ks : List S30) (i : Nat) : sizeFrom r ks i ≤ cntFrom r ks i := sum_le (sizeD r) (cntD r) _ (fun x _ => sizeD_le r x)
-- marks.lean: what the laws write into what they are handed, and look for again
theorem markByteS_loop (n : Nat) (k0 : Int) (h0 : 0 ≤ k0) (hk : k0 + n ≤ 4611686018427387904) (d : Nat) : ∀ (x : List Int) (i : Nat), x.length = n → i ≤ n → n - i = d → x.take i = (marks k0 n).take i → Ev (fun k => laws_markByteS.l0 k x (k0 + (i : Int)) (i : Int)) (k0 + (n : Int), marks k0 n) := by
 induction d with
 | zero =>
  intro x i hx hi hd ht
  refine Ev.step (fun k => by rw [laws_markByteS.l0]) ?_
  refine ev_if_neg (by omega) ?_
  obtain rfl : i = n := by omega
  rw [eq_of_take hx (marks_length k0 i) ht]
  exact Ev.now _
 | succ d ih =>
  intro x i hx hi hd ht
  refine Ev.step (fun k => by rw [laws_markByteS.l0]) ?_
  refine ev_if_pos (by omega) (ev_if_pos (by omega) ?_)
  have h := ih (x.set i ((k0 + (i : Int)) % 256)) (i + 1) (by rw [List.length_set]; exact hx) (by omega) (by omega) (take_set_succ x (marks k0 n) i _ (by omega) (by rw [marks_length]; omega) ht (marks_get k0 n i _).symm)
  rw [w64 (by omega) (by omega), w64 (by omega) (by omega), Int.toNat_natCast]
  rw [Int.natCast_add, Int.natCast_one, ← Int.add_assoc] at h
  exact h
theorem markByteS_ev (l : List Int) (k0 : Int) (h0 : 0 ≤ k0) (hk : k0 + l.length ≤ 4611686018427387904) : Ev (fun k => laws_markByteS.f k l k0) (k0 + (l.length : Int), marks k0 l.length) := by
 have h := markByteS_loop l.length k0 h0 hk l.length l 0 rfl (by omega) (by omega) rfl
 simp only [Int.natCast_zero, Int.add_zero] at h
 exact h
theorem heldByteS_loop (n : Nat) (k0 : Int) (h0 : 0 ≤ k0) (hk : k0 + n ≤ 4611686018427387904) (d : Nat) : ∀ (i : Nat), i ≤ n → n - i = d → Ev (fun k => laws_heldByteS.l0 k (marks k0 n) (k0 + (i : Int)) (i : Int)) (k0 + (n : Int)) := by
 induction d with
 | zero =>
  intro i hi hd
  refine Ev.step (fun k => by rw [laws_heldByteS.l0]) ?_
  refine ev_if_neg (by rw [marks_length]; omega) ?_
  obtain rfl : i = n := by omega
  exact Ev.now _
 | succ d ih =>
  intro i hi hd
  refine Ev.step (fun k => by rw [laws_heldByteS.l0]) ?_
  refine ev_if_pos (by rw [marks_length]; omega) (ev_if_pos (by omega) (ev_if_pos (by rw [rd_get _ i (by rw [marks_length]; omega), marks_get]) ?_))
  have h := ih (i + 1) (by omega) (by omega)
  rw [w64 (by omega) (by omega), w64 (by omega) (by omega)]
  rw [Int.natCast_add, Int.natCast_one, ← Int.add_assoc] at h
  exact h
theorem heldByteS_ev (n : Nat) (k0 : Int) (h0 : 0 ≤ k0) (hk : k0 + n ≤ 4611686018427387904) : Ev (fun k => laws_heldByteS.f k (marks k0 n) k0) (k0 + (n : Int)) := by
 have h := heldByteS_loop n k0 h0 hk n 0 (by omega) (by omega)
 simp only [Int.natCast_zero, Int.add_zero] at h
 exact h
-- rowsmark.lean: rows of rows: marks, and that they are found again
/-- How much rows hold in all. -/
def tot (l : List (List Int)) : Nat := (l.map List.length).sum
/-- Marks, row by row. -/
def marksR : Int → List (List Int) → List (List Int)
 | _, [] => []
 | a, x :: xs => marks a x.length :: marksR (a + (x.length : Int)) xs
theorem tot_cons (x : List Int) (l : List (List Int)) : tot (x :: l) = x.length + tot l := rfl
theorem tot_le (l : List (List Int)) (m : Nat) (h : ∀ x ∈ l, x.length ≤ m) : tot l ≤ m * l.length := by
 induction l with
 | nil => simp [tot]
 | cons x xs ih =>
  have h1 := h x (List.mem_cons_self ..)
  have h2 := ih (fun y hy => h y (List.mem_cons_of_mem _ hy))
  rw [tot_cons, List.length_cons, Nat.mul_succ]
  omega
theorem mk_eq (l : List (List Int)) : ∀ a, laws_markByteSS.mk a l = marksR a l := by
 induction l with
 | nil => intro a; rfl
 | cons x xs ih =>
  intro a
  rw [laws_markByteSS.mk, marksR, ih]
  rfl
theorem markByteSS_ev (l : List (List Int)) : ∀ (a : Int), 0 ≤ a → a + (tot l : Int) ≤ 4611686018427387904 → Ev (fun k => laws_markByteSS.f k l a) (a + (tot l : Int)) := by
 induction l with
 | nil =>
  intro a _ _
  refine ev_done ?_
  simp [tot]
 | cons x xs ih =>
  intro a h0 h1
  rw [tot_cons] at h1
  refine ev_of (Ev.bind (markByteS_ev x a h0 (by omega)) (ev_if_pos ⟨rfl, rfl⟩ (ih (a + (x.length : Int)) (by omega) (by omega)))) ?_
  rw [tot_cons, Int.natCast_add, Int.add_assoc]
theorem markByteSS1_ev (l : List (List Int)) (a : Int) (h0 : 0 ≤ a) (h1 : a + (tot l : Int) ≤ 4611686018427387904) (hl : l.length < 1000000000) : Ev (fun k => laws_markByteSS1.f k l a) (a + (tot l : Int)) := by
 unfold laws_markByteSS1.f
 exact ev_if_pos hl (markByteSS_ev l a h0 h1)
theorem marksR_length (l : List (List Int)) : ∀ a, (marksR a l).length = l.length := by
 induction l with
 | nil => intro a; rfl
 | cons x xs ih => intro a; rw [marksR, List.length_cons, List.length_cons, ih]
theorem rd_L1_at (l : List (List Int)) (i : Nat) (h : i < l.length) : rd_L1 l (i : Int) = l[i] := by
 unfold rd_L1
 rw [Int.toNat_natCast]
 simp [List.getD, h]
theorem heldByteSS_loop (n : Nat) (l : List (List Int)) : ∀ (a : Int) (pre : List (List Int)), 0 ≤ a → a + (tot l : Int) ≤ 4611686018427387904 → (pre ++ marksR a l).length < 1000000000 →
  Ev (fun k => laws_heldByteSS.l0 k (pre ++ marksR a l) a (pre.length : Int)) (a + (tot l : Int)) := by
 induction l with
 | nil =>
  intro a pre h0 h1 hn
  refine Ev.step (fun k => by rw [laws_heldByteSS.l0]) (ev_if_neg (by simp [marksR]) (ev_done ?_))
  simp [tot]
 | cons x xs ih =>
  intro a pre h0 h1 hn
  rw [tot_cons] at h1
  have hL : (pre ++ marksR a (x :: xs)).length = pre.length + (xs.length + 1) := by rw [List.length_append, marksR_length, List.length_cons]
  have hx : rd_L1 (pre ++ marksR a (x :: xs)) (pre.length : Int) = marks a x.length := by
   rw [rd_L1_at _ _ (by omega)]
   rw [List.getElem_append_right (Nat.le_refl _)]
   simp [marksR]
  have h := ih (a + (x.length : Int)) (pre ++ [marks a x.length]) (by omega) (by omega) (by rw [List.append_assoc]; exact hn)
  rw [List.append_assoc, List.singleton_append, List.length_append, List.length_singleton, Int.natCast_add, Int.natCast_one] at h
  refine Ev.step (fun k => by rw [laws_heldByteSS.l0]) ?_
  rw [hx, w64 (x := (pre.length : Int) + 1) (by omega) (by omega)]
  refine ev_if_pos (by omega) (ev_if_pos (by omega) (Ev.bind (heldByteS_ev x.length a h0 (by omega)) (ev_if_neg (by omega) ?_)))
  refine ev_of h ?_
  rw [tot_cons, Int.natCast_add, Int.add_assoc]
theorem heldByteSSm_ev (l : List (List Int)) (h1 : 1 + (tot l : Int) ≤ 4611686018427387904) (hl : l.length < 1000000000) : Ev (fun k => laws_heldByteSSm.f k l 1) (1 + (tot l : Int)) := by
 unfold laws_heldByteSSm.f
 rw [mk_eq]
 unfold laws_heldByteSS.f
 have h := heldByteSS_loop 0 l 1 [] (by decide) h1 (by rw [List.nil_append, marksR_length]; exact hl)
 exact h
theorem eqByteSS_loop (l : List (List Int)) (hl : l.length < 1000000000) (hx : ∀ x ∈ l, x.length ≤ 140737488350000) (d : Nat) : ∀ i : Nat, i ≤ l.length → l.length - i = d → Ev (fun k => laws_eqByteSS.l0 k l l (i : Int)) true := by
 induction d with
 | zero =>
  intro i hi hd
  exact Ev.step (fun k => by rw [laws_eqByteSS.l0]) (ev_if_neg (by omega) (Ev.now _))
 | succ d ih =>
  intro i hi hd
  have hi' : i < l.length := by omega
  have h := ih (i + 1) (by omega) (by omega)
  refine Ev.step (fun k => by rw [laws_eqByteSS.l0]) ?_
  rw [rd_L1_at l i hi', w64 (by omega) (by omega)]
  rw [Int.natCast_add, Int.natCast_one] at h
  exact ev_if_pos (by omega) (ev_if_pos (by omega) (ev_if_pos (by omega) (Ev.bind (eqByteS_self _ (by have := hx _ (List.getElem_mem hi'); omega)) (ev_if_pos rfl h))))
theorem eqByteSS_self (l : List (List Int)) (hl : l.length < 1000000000) (hx : ∀ x ∈ l, x.length ≤ 140737488350000) : Ev (fun k => laws_eqByteSS.f k l l) true := by
 unfold laws_eqByteSS.f
 exact ev_if_pos rfl (eqByteSS_loop l hl hx l.length 0 (by omega) (by omega))
-- trees.lean: trees: what holds of one that was read, its copy
mutual
/-- A tree as the program has it. -/
def cvTree : S25 → S30
 | ⟨a, b, c, ks⟩ => ⟨a, b, c, cvTrees ks⟩
def cvTrees : List S25 → List S30
 | [] => []
 | x :: xs => cvTree x :: cvTrees xs
end
theorem cvTrees_map (l : List S25) : cvTrees l = l.map cvTree := by
 induction l with
 | nil => rw [cvTrees]; rfl
 | cons x xs ih => rw [cvTrees, ih]; rfl
theorem cvTree_eq (t : S25) : cvTree t = ⟨t.f0, t.f1, t.f2, t.f3.map cvTree⟩ := by
 cases t
 rw [cvTree, cvTrees_map]
/-- All of its rows are short. -/
inductive FitT : S25 → Prop
 | mk (t : S25) (h0 : t.f0.length ≤ 1048576) (h3 : t.f3.length ≤ 1048576) (hk : ∀ x ∈ t.f3, FitT x) : FitT t
inductive FitU : S30 → Prop
 | mk (t : S30) (h0 : t.f0.length ≤ 1048576) (h3 : t.f3.length ≤ 1048576) (hk : ∀ x ∈ t.f3, FitU x) : FitU t
theorem FitU.h0 {t : S30} (h : FitU t) : t.f0.length ≤ 1048576 := by cases h; assumption
theorem FitU.h3 {t : S30} (h : FitU t) : t.f3.length ≤ 1048576 := by cases h; assumption
theorem FitU.hk {t : S30} (h : FitU t) : ∀ x ∈ t.f3, FitU x := by cases h; assumption
theorem fit_cv {t : S25} (h : FitT t) : FitU (cvTree t) := by
 induction h with
 | mk t h0 h3 hk ih =>
  refine FitU.mk _ ?_ ?_ ?_
  ·rw [cvTree_eq]; exact h0
  ·rw [cvTree_eq]; show (t.f3.map cvTree).length ≤ _; rw [List.length_map]; exact h3
  ·intro x hx
   rw [cvTree_eq] at hx
   obtain ⟨y, hy, rfl⟩ := List.mem_map.1 hx
   exact ih y hy
theorem rd_T25_get (l : List S25) (i : Nat) (h : i < l.length) : rd_T25 l (i : Int) = l[i] := by
 unfold rd_T25
 rw [Int.toNat_natCast]
 simp [List.getD, h]
theorem rd_T30_get (l : List S30) (i : Nat) (h : i < l.length) : rd_T30 l (i : Int) = l[i] := by
 unfold rd_T30
 rw [Int.toNat_natCast]
 simp [List.getD, h]
-- treeeq.lean: a tree compared with itself
theorem eqTreeS_loop (l : List S30) (hn : l.length ≤ 1048576) (hk : ∀ x ∈ l, Ev (fun k => laws_eqTree.f k x.f0 x.f1 x.f2 x.f3 x.f0 x.f1 x.f2 x.f3) true) (d : Nat) : ∀ (i : Nat), i ≤ l.length → l.length - i = d → Ev (fun k => laws_eqTreeS.l0 k l l (i : Int)) true := by
 induction d with
 | zero =>
  intro i hi hd
  exact Ev.step (fun k => by rw [laws_eqTreeS.l0]) (ev_if_neg (by omega) (Ev.now _))
 | succ d ih =>
  intro i hi hd
  have hi' : i < l.length := by omega
  have hm := hk l[i] (List.getElem_mem hi')
  have h := ih (i + 1) (by omega) (by omega)
  refine Ev.step (fun k => by rw [laws_eqTreeS.l0]) ?_
  rw [rd_T30_get l i hi', w64 (x := (i : Int) + 1) (by omega) (by omega)]
  rw [Int.natCast_add, Int.natCast_one] at h
  exact ev_if_pos (by omega) (ev_if_pos (by omega) (ev_if_pos (by omega) (Ev.bind hm (ev_if_pos rfl h))))
theorem eqTree_self {t : S30} (h : FitU t) : Ev (fun k => laws_eqTree.f k t.f0 t.f1 t.f2 t.f3 t.f0 t.f1 t.f2 t.f3) true := by
 induction h with
 | mk t h0 h3 hk ih =>
  refine Ev.step (fun k => by rw [laws_eqTree.f]) ?_
  refine Ev.bind (eqByteS_self t.f0 (by omega)) (ev_if_pos rfl (ev_if_neg (by simp) (ev_if_pos rfl (Ev.bind (a := true) ?_ (ev_if_pos rfl (Ev.now _))))))
  have e : Ev (fun k => laws_eqTreeS.l0 k t.f3 t.f3 0) true := eqTreeS_loop t.f3 h3 ih t.f3.length 0 (by omega) (by omega)
  refine Ev.step (fun k => by rw [laws_eqTreeS.f]) ?_
  exact ev_if_pos rfl e
-- strs.lean: bytes as a string, compared
theorem strOf_list (a : List Int) : (strOfNums a).toList = a.map fun n => UInt8.ofNat n.toNat := Lib.strOfNums_toList a
theorem byte_inj {x y : Int} (h0 : 0 ≤ x) (h1 : x ≤ 255) (h2 : 0 ≤ y) (h3 : y ≤ 255) (h : UInt8.ofNat x.toNat = UInt8.ofNat y.toNat) : x = y := by
 have h4 := congrArg UInt8.toNat h
 simp at h4
 omega
theorem str_inj : ∀ (a b : List Int), (∀ x ∈ a, (Lit.int .u8 x).wf = true) → (∀ x ∈ b, (Lit.int .u8 x).wf = true) → (a.map fun n => UInt8.ofNat n.toNat) = (b.map fun n => UInt8.ofNat n.toNat) → a = b
 | [], [], _, _, _ => rfl
 | [], _ :: _, _, _, h => by simp at h
 | _ :: _, [], _, _, h => by simp at h
 | x :: a, y :: b, ha, hb, h => by
  simp only [List.map_cons, List.cons.injEq] at h
  have hx := wf_u8 (ha x List.mem_cons_self)
  have hy := wf_u8 (hb y List.mem_cons_self)
  rw [byte_inj hx.1 hx.2 hy.1 hy.2 h.1, str_inj a b (fun z hz => ha z (List.mem_cons_of_mem _ hz)) (fun z hz => hb z (List.mem_cons_of_mem _ hz)) h.2]
theorem str_eq (a b : List Int) (ha : ∀ x ∈ a, (Lit.int .u8 x).wf = true) (hb : ∀ x ∈ b, (Lit.int .u8 x).wf = true) : ((strOfNums a).toList == (strOfNums b).toList) = decide (a = b) := by
 rw [strOf_list, strOf_list, Bool.eq_iff_iff]
 simp only [beq_iff_eq, decide_eq_true_eq]
 exact ⟨str_inj a b ha hb, fun h => by rw [h]⟩
-- hasprefix.lean: HasPrefix of bytes
def hasP (a p : List Int) : Bool := decide (p.length ≤ a.length ∧ a.take p.length = p)
theorem implHasPrefix_eq (a p : List Int) (ha : Bytes a) (hp : Bytes p) : impl_HasPrefix.f a p = some (hasP a p) := by
 unfold impl_HasPrefix.f bytes_HasPrefix.f bytes_Equal.f hasP
 by_cases c : (a.length : Int) ≥ (p.length : Int)
 ·rw [if_pos c, if_pos (by omega), if_pos (by omega), Int.toNat_natCast, str_eq _ _ (bytes_take _ ha) hp]
  have hc : p.length ≤ a.length := by omega
  simp [hc]
 ·rw [if_neg c, decide_eq_false (fun h => c (by omega))]
  rfl
-- rdents.lean
theorem rd_T84_get (l : List S84) (i : Nat) (h : i < l.length) : rd_T84 l (i : Int) = l[i] := by
 unfold rd_T84
 rw [Int.toNat_natCast]
 simp [List.getD, h]
-- concat.lean: two rows in one
theorem rd_L1_0 (a b : List Int) : rd_L1 [a, b] 0 = a := rfl
theorem rd_L1_1 (a b : List Int) : rd_L1 [a, b] 1 = b := rfl
theorem grow_eq (l : List Int) (n : Int) (h0 : 0 ≤ n) (h1 : n < 140737488355328) : slices_Grow_byte_byte.f l n = some [] := by
 unfold slices_Grow_byte_byte.f
 rw [if_pos h0, if_pos h1]
theorem concat2_ev (a b : List Int) (ha : a.length ≤ 1073741824) (hb : b.length ≤ 1073741824) : Ev (fun k => slices_Concat_byte_byte.f k [a, b]) (a ++ b) := by
 unfold slices_Concat_byte_byte.f
 have z1 : wrap64 (0 + 1) = 1 := w64 (by decide) (by decide)
 have z2 : wrap64 (1 + 1) = 2 := w64 (by decide) (by decide)
 have e1 : wrap64 (0 + (a.length : Int)) = (a.length : Int) := by rw [w64 (by omega) (by omega)]; omega
 have e2 : wrap64 ((a.length : Int) + (b.length : Int)) = (a.length : Int) + (b.length : Int) := w64 (by omega) (by omega)
 refine Ev.step (fun k => by rw [slices_Concat_byte_byte.l0]) ?_
 rw [rd_L1_0, e1, z1]
 refine ev_if_pos (by simp) (ev_if_pos (by omega) (ev_if_pos (by simp) (ev_if_neg (by omega) ?_)))
 refine Ev.step (fun k => by rw [slices_Concat_byte_byte.l0]) ?_
 rw [rd_L1_1, e2, z2]
 refine ev_if_pos (by simp) (ev_if_pos (by omega) (ev_if_pos (by simp) (ev_if_neg (by omega) ?_)))
 refine Ev.step (fun k => by rw [slices_Concat_byte_byte.l0]) ?_
 refine ev_if_neg (by simp) (ev_bind_eq (grow_eq [] _ (by omega) (by omega)) ?_)
 refine Ev.step (fun k => by rw [slices_Concat_byte_byte.l1]) ?_
 rw [rd_L1_0, z1]
 refine ev_if_pos (by simp) (ev_if_pos (by omega) (ev_if_pos (by simp) (ev_if_pos (by simp; omega) ?_)))
 refine Ev.step (fun k => by rw [slices_Concat_byte_byte.l1]) ?_
 rw [rd_L1_1, z2]
 refine ev_if_pos (by simp) (ev_if_pos (by omega) (ev_if_pos (by simp) (ev_if_pos (by simp; omega) ?_)))
 refine Ev.step (fun k => by rw [slices_Concat_byte_byte.l1]) ?_
 exact ev_if_neg (by simp) (ev_done (by simp))
-- vconcat.lean: two rows in one, told as one call
theorem vconcat2_ev (a b : List Int) (ha : a.length ≤ 1073741824) (hb : b.length ≤ 1073741824) : Ev (fun k => virtual_concat2.f k a b) (a ++ b) := concat2_ev a b ha hb
-- treesize.lean: how many keys a valid tree has, told by both programs
theorem entries_loop (r : Nat) (ahead : List Int) (ks : List S30) (hn : ks.length ≤ 1048576) (hk : ∀ x ∈ ks, Ev (fun k => impl_Tree_entries.f k x.f0 x.f1 x.f2 x.f3 ahead) (entsD r ahead x)) (d : Nat) :
  ∀ (i : Nat) (out : List S84), i ≤ ks.length → ks.length - i = d → out.length + (entsFrom r ahead ks i).length ≤ 1000 → Ev (fun k => impl_Tree_entries.l0 k ahead out ks (ks.length : Int) (i : Int)) (out ++ entsFrom r ahead ks i) := by
 induction d with
 | zero =>
  intro i out hi hd hm
  refine Ev.step (fun k => by rw [impl_Tree_entries.l0]) (ev_if_neg (by omega) (ev_done ?_))
  rw [entsFrom_end r ahead ks i (by omega), List.append_nil]
 | succ d ih =>
  intro i out hi hd hm
  have hi' : i < ks.length := by omega
  rw [entsFrom_step r ahead ks i hi'] at hm ⊢
  rw [List.length_append] at hm
  have h := ih (i + 1) (out ++ entsD r ahead ks[i]) (by omega) (by omega) (by rw [List.length_append]; omega)
  rw [Int.natCast_add i, Int.natCast_one, List.append_assoc] at h
  refine Ev.step (fun k => by rw [impl_Tree_entries.l0]) ?_
  rw [rd_T30_get ks i hi', w64 (x := (i : Int) + 1) (by omega) (by omega)]
  exact ev_if_pos (by omega) (ev_if_pos (by omega) (ev_if_pos (by omega) (Ev.bind (hk ks[i] (List.getElem_mem hi')) (ev_if_pos (by omega) h))))
theorem entries_ev (r : Nat) : ∀ (t : S30) (ahead : List Int), r ≤ 25 → FitU t → okD r t → cntD r t ≤ 200 → ahead.length ≤ (25 - r) * 1048576 → Ev (fun k => impl_Tree_entries.f k t.f0 t.f1 t.f2 t.f3 ahead) (entsD r ahead t) := by
 induction r with
 | zero => intro t ahead _ _ h _ _; exact h.elim
 | succ r ih =>
  intro t ahead hr hf h hc ha
  have ok := ((okD_succ r t).1 h).2.2.2.2
  rw [cntD_succ] at hc
  have h0 := hf.h0
  have ha2 : (25 - (r + 1)) * 1048576 ≤ 25 * 1048576 := Nat.mul_le_mul_right _ (by omega)
  have ha3 : (ahead ++ t.f0).length ≤ (25 - r) * 1048576 := by
   rw [List.length_append]
   have : (25 - r) * 1048576 = (25 - (r + 1)) * 1048576 + 1048576 := by
    rw [show 25 - r = (25 - (r + 1)) + 1 by omega, Nat.add_mul]
   omega
  have hl : (entsFrom r (ahead ++ t.f0) t.f3 0).length ≤ 200 := by
   have e : (entsFrom r (ahead ++ t.f0) t.f3 0).length = sizeFrom r t.f3 0 := length_flatten_map _ (sizeD r) _ (fun x _ => entsD_length r _ x)
   have := sizeFrom_le r t.f3 0
   omega
  have hk : ∀ x ∈ t.f3, Ev (fun k => impl_Tree_entries.f k x.f0 x.f1 x.f2 x.f3 (ahead ++ t.f0)) (entsD r (ahead ++ t.f0) x) := fun x hx => by
   obtain ⟨j, hj, rfl⟩ := List.mem_iff_getElem.1 hx
   have hcj : cntD r t.f3[j] ≤ cntFrom r t.f3 0 := by
    have : ∀ l : List S30, ∀ x ∈ l, cntD r x ≤ (l.map (cntD r)).sum := by
     intro l
     induction l with
     | nil => intro x hx; simp at hx
     | cons y ys ih2 =>
      intro x hx
      rw [List.map_cons, List.sum_cons]
      rcases List.mem_cons.1 hx with rfl | hx
      ·omega
      ·have := ih2 x hx
       omega
    rw [cntFrom, List.drop_zero]
    exact this t.f3 _ hx
   exact ih _ _ (by omega) (hf.hk _ hx) (ok j (by omega) hj).1 (by omega) ha3
  refine Ev.step (fun k => by rw [impl_Tree_entries.f]) (Ev.bind (vconcat2_ev ahead t.f0 (by omega) (by omega)) ?_)
  rw [entsD_succ]
  by_cases g : t.f1 = true
  ·have e : Ev (fun k => impl_Tree_entries.l0 k (ahead ++ t.f0) [⟨ahead ++ t.f0, t.f2⟩] t.f3 (t.f3.length : Int) 0) _ := entries_loop r (ahead ++ t.f0) t.f3 hf.h3 hk t.f3.length 0 [⟨ahead ++ t.f0, t.f2⟩] (by omega) (by omega) (by simp; omega)
   rw [if_pos g]
   refine ev_if_pos g (ev_if_pos (by simp) ?_)
   rw [List.nil_append]
   exact Ev.step (fun k => by rw [impl_Tree_entries.j0]) e
  ·have e : Ev (fun k => impl_Tree_entries.l0 k (ahead ++ t.f0) [] t.f3 (t.f3.length : Int) 0) _ := entries_loop r (ahead ++ t.f0) t.f3 hf.h3 hk t.f3.length 0 [] (by omega) (by omega) (by simp; omega)
   rw [if_neg g]
   exact ev_if_neg g (Ev.step (fun k => by rw [impl_Tree_entries.j0]) e)
-- cmps.lean: rows of bytes compared
-- treesort.lean: a valid tree's entries are sorted
/-- All edges are bytes. -/
inductive ByU : S30 → Prop
 | mk (t : S30) (h0 : Bytes t.f0) (hk : ∀ x ∈ t.f3, ByU x) : ByU t
theorem ByU.h0 {t : S30} (h : ByU t) : Bytes t.f0 := by cases h; assumption
theorem ByU.hk {t : S30} (h : ByU t) : ∀ x ∈ t.f3, ByU x := by cases h; assumption
theorem by_cv {t : S25} (h : okS25 t) : ByU (cvTree t) := by
 induction h with
 | mk t h0 _ _ h3 g3 ih =>
  refine ByU.mk _ ?_ ?_
  ·rw [cvTree_eq]
   exact h0.2
  ·intro x hx
   rw [cvTree_eq] at hx
   obtain ⟨y, hy, rfl⟩ := List.mem_map.1 hx
   exact ih y hy
theorem mem_entsFrom (r : Nat) (ahead : List Int) (ks : List S30) (e : S84) : e ∈ entsFrom r ahead ks 0 ↔ ∃ j, ∃ h : j < ks.length, e ∈ entsD r ahead ks[j] := by
 unfold entsFrom
 rw [List.drop_zero, List.mem_flatten]
 constructor
 ·rintro ⟨l, hl, he⟩
  obtain ⟨x, hx, rfl⟩ := List.mem_map.1 hl
  obtain ⟨j, hj, rfl⟩ := List.mem_iff_getElem.1 hx
  exact ⟨j, hj, he⟩
 ·rintro ⟨j, hj, he⟩
  exact ⟨_, List.mem_map.2 ⟨ks[j], List.getElem_mem hj, rfl⟩, he⟩
theorem ents_bytes (r : Nat) : ∀ (ahead : List Int) (t : S30), Bytes ahead → ByU t → ∀ e ∈ entsD r ahead t, Bytes e.f0 := by
 induction r with
 | zero => intro ahead t _ _ e h; rw [entsD] at h; simp at h
 | succ r ih =>
  intro ahead t ha hb e h
  rw [entsD_succ, List.mem_append] at h
  rcases h with h | h
  ·by_cases g : t.f1 = true
   ·rw [if_pos g, List.mem_singleton] at h
    subst h
    exact bytes_append ha hb.h0
   ·rw [if_neg g] at h
    simp at h
  ·obtain ⟨j, hj, he⟩ := (mem_entsFrom r _ _ e).1 h
   exact ih _ _ (bytes_append ha hb.h0) (hb.hk _ (List.getElem_mem hj)) e he
-- treel6ok.lean: the reference's look at a tree
/-- What the reference's look at a part answers. -/
def OkSays (ok : Prop) (cnt : Nat) (left q : Int) : Prop := (ok ∧ (cnt : Int) ≤ left → q = left - (cnt : Int)) ∧ (¬ (ok ∧ (cnt : Int) ≤ left) → q = -1)
theorem l6ok_loop (r : Nat) (hr : r < 25) (a : List Int) (b : Bool) (c : Int) (ks : List S30) (hn : ks.length ≤ 1048576)
  (hk : ∀ x ∈ ks, ∀ left : Int, 0 ≤ left → left ≤ 200 → ∃ q, Ev (fun k => spec_l6ok.f k x.f0 x.f1 x.f2 x.f3 false left (25 - (r : Int))) q ∧ OkSays (okD r x) (cntD r x) left q) (d : Nat) :
  ∀ (i : Nat) (left : Int), i ≤ ks.length → ks.length - i = d → 0 ≤ left → left ≤ 200 → (0 < i → ∀ h : i - 1 < ks.length, 0 < ks[i - 1].f0.length) →
  ∃ q, Ev (fun k => spec_l6ok.l0 k left (24 - (r : Int)) (i : Int) a b c ks) q ∧ OkSays (okFrom r ks i) (cntFrom r ks i) left q := by
 induction d with
 | zero =>
  intro i left hi hd h0 h1 hp
  refine ⟨left, Ev.step (fun k => by rw [spec_l6ok.l0]) (ev_if_neg (by omega) (Ev.now _)), ?_⟩
  rw [cntFrom_end r ks i (by omega)]
  exact ⟨fun _ => by simp, fun h => absurd ⟨okFrom_end r ks i (by omega), by simpa using h0⟩ h⟩
 | succ d ih =>
  intro i left hi hd h0 h1 hp
  have hi' : i < ks.length := by omega
  have T : Ev (fun k => spec_l6ok.j2 k left (24 - (r : Int)) (i : Int) true a b c ks ks[i].f0 ks[i].f1 ks[i].f2 ks[i].f3) (-1) :=
   Ev.step (fun k => by rw [spec_l6ok.j2]) (ev_if_pos rfl (Ev.now _))
  have F : 0 < ks[i].f0.length → ∃ q, Ev (fun k => spec_l6ok.j2 k left (24 - (r : Int)) (i : Int) false a b c ks ks[i].f0 ks[i].f1 ks[i].f2 ks[i].f3) q ∧ OkSays (okD r ks[i] ∧ okFrom r ks (i + 1)) (cntD r ks[i] + cntFrom r ks (i + 1)) left q := by
   intro hpos
   obtain ⟨q, e, hq1, hq2⟩ := hk ks[i] (List.getElem_mem hi') left h0 h1
   by_cases g : okD r ks[i] ∧ (cntD r ks[i] : Int) ≤ left
   ·have hq := hq1 g
    have hc := cntD_pos r ks[i]
    obtain ⟨q', e', hq'1, hq'2⟩ := ih (i + 1) q (by omega) (by omega) (by omega) (by omega) (fun _ h => by simpa using hpos)
    refine ⟨q', Ev.step (fun k => by rw [spec_l6ok.j2]) (ev_if_neg (by simp) ?_), ?_⟩
    ·rw [w64 (x := 24 - (r : Int) + 1) (by omega) (by omega), w64 (x := (i : Int) + 1) (by omega) (by omega), show 24 - (r : Int) + 1 = 25 - (r : Int) by omega]
     rw [Int.natCast_add, Int.natCast_one] at e'
     exact Ev.bind e (ev_if_neg (by omega) e')
    ·constructor
     ·rintro ⟨⟨u1, u2⟩, u3⟩
      have := hq'1 ⟨u2, by omega⟩
      omega
     ·intro u
      exact hq'2 (fun ⟨v1, v2⟩ => u ⟨⟨g.1, v1⟩, by omega⟩)
   ·have hq := hq2 g
    refine ⟨-1, Ev.step (fun k => by rw [spec_l6ok.j2]) (ev_if_neg (by simp) ?_), ?_⟩
    ·rw [w64 (x := 24 - (r : Int) + 1) (by omega) (by omega), show 24 - (r : Int) + 1 = 25 - (r : Int) by omega]
     exact Ev.bind e (ev_if_pos (by omega) (Ev.now _))
    ·constructor
     ·rintro ⟨⟨u1, u2⟩, u3⟩
      exact absurd ⟨u1, by omega⟩ g
     ·intro _
      rfl
  have S := okFrom_step r ks i hi'
  have bad : ¬ okFrom r ks i → OkSays (okFrom r ks i) (cntFrom r ks i) left (-1) := fun h => ⟨fun g => absurd g.1 h, fun _ => rfl⟩
  have good : (0 < i → rd (ks[i - 1]'(by omega)).f0 0 < rd ks[i].f0 0) → ∀ q, OkSays (okD r ks[i] ∧ okFrom r ks (i + 1)) (cntD r ks[i] + cntFrom r ks (i + 1)) left q → OkSays (okFrom r ks i) (cntFrom r ks i) left q := by
   intro g q h
   rw [cntFrom_step r ks i hi']
   exact ⟨fun ⟨u1, u2⟩ => h.1 ⟨⟨(S.1 u1).1.1, (S.1 u1).2⟩, u2⟩, fun u => h.2 (fun ⟨⟨v1, v2⟩, v3⟩ => u ⟨S.2 ⟨⟨v1, g⟩, v2⟩, v3⟩)⟩
  by_cases z : (ks[i].f0.length : Int) = 0
  ·refine ⟨-1, Ev.step (fun k => by rw [spec_l6ok.l0]) ?_, bad (fun g => ?_)⟩
   ·rw [rd_T30_get ks i hi']
    exact ev_if_pos (by omega) (ev_if_pos (by omega) (ev_if_pos z T))
   ·have := okD_edge (S.1 g).1.1 hr
    omega
  ·have hpos : 0 < ks[i].f0.length := by omega
   by_cases i0 : 0 < i
   ·have hi1 : i - 1 < ks.length := by omega
    have hpp := hp i0 hi1
    have ei : (i : Int) - 1 = ((i - 1 : Nat) : Int) := by omega
    by_cases o : rd ks[i - 1].f0 0 ≥ rd ks[i].f0 0
    ·refine ⟨-1, Ev.step (fun k => by rw [spec_l6ok.l0]) ?_, bad (fun g => ?_)⟩
     ·rw [rd_T30_get ks i hi', w64 (x := (i : Int) - 1) (by omega) (by omega), ei, rd_T30_get ks (i - 1) hi1]
      refine ev_if_pos (by omega) (ev_if_pos (by omega) (ev_if_neg z (ev_if_pos (by omega) (ev_if_pos (by omega) (ev_if_pos (by omega) (ev_if_pos (by omega) (ev_if_pos (by omega) ?_)))))))
      rw [decide_eq_true o]
      exact T
     ·have := (S.1 g).1.2 i0
      omega
    ·obtain ⟨q, e, hq⟩ := F hpos
     refine ⟨q, Ev.step (fun k => by rw [spec_l6ok.l0]) ?_, good (fun _ => by omega) q hq⟩
     rw [rd_T30_get ks i hi', w64 (x := (i : Int) - 1) (by omega) (by omega), ei, rd_T30_get ks (i - 1) hi1]
     refine ev_if_pos (by omega) (ev_if_pos (by omega) (ev_if_neg z (ev_if_pos (by omega) (ev_if_pos (by omega) (ev_if_pos (by omega) (ev_if_pos (by omega) (ev_if_pos (by omega) ?_)))))))
     rw [decide_eq_false o]
     exact e
   ·obtain ⟨q, e, hq⟩ := F hpos
    refine ⟨q, Ev.step (fun k => by rw [spec_l6ok.l0]) ?_, good (fun h => absurd h i0) q hq⟩
    rw [rd_T30_get ks i hi']
    exact ev_if_pos (by omega) (ev_if_pos (by omega) (ev_if_neg z (ev_if_neg (by omega) e)))
set_option maxHeartbeats 4000000 in
theorem l6ok_ev (r : Nat) : ∀ (t : S30), r ≤ 25 → FitU t → ∀ (root : Bool) (left : Int), (root = true ↔ r = 25) → 0 ≤ left → left ≤ 200 →
  ∃ q, Ev (fun k => spec_l6ok.f k t.f0 t.f1 t.f2 t.f3 root left (25 - (r : Int))) q ∧ OkSays (okD r t) (cntD r t) left q := by
 induction r with
 | zero =>
  intro t hr hf root left hroot h0 h1
  refine ⟨-1, Ev.step (fun k => by rw [spec_l6ok.f]) ?_, ⟨fun g => g.1.elim, fun _ => rfl⟩⟩
  have T : ∀ l : Int, Ev (fun k => spec_l6ok.j0 k l (25 - ((0 : Nat) : Int)) true t.f0 t.f1 t.f2 t.f3) (-1) := fun l => Ev.step (fun k => by rw [spec_l6ok.j0]) (ev_if_pos rfl (Ev.now _))
  exact ev_ite (fun _ => T _) (fun _ => ev_if_pos (by simp) (T _))
 | succ r ih =>
  intro t hr hf root left hroot h0 h1
  have T : ∀ l : Int, Ev (fun k => spec_l6ok.j0 k l (24 - (r : Int)) true t.f0 t.f1 t.f2 t.f3) (-1) := fun l => Ev.step (fun k => by rw [spec_l6ok.j0]) (ev_if_pos rfl (Ev.now _))
  have ed : 25 - ((r + 1 : Nat) : Int) = 24 - (r : Int) := by omega
  have hlen : (0 : Int) ≤ (t.f0.length : Int) := Int.natCast_nonneg _
  rw [ed]
  by_cases N : ((t.f0.length = 0 ↔ r = 24) ∧ (t.f1 = true → 0 ≤ t.f2 ∧ t.f2 ≤ 2147483647) ∧ (t.f1 = false → t.f2 = 0) ∧ (r = 24 ∨ t.f1 = true ∨ 2 ≤ t.f3.length)) ∧ 1 ≤ left
  ·obtain ⟨q, e, hq1, hq2⟩ := l6ok_loop r (by omega) t.f0 t.f1 t.f2 t.f3 hf.h3 (fun x hx l a b => ih x (by omega) (hf.hk x hx) false l (by constructor <;> intro h <;> first | omega | simp at h) a b) t.f3.length 0 (left - 1) (by omega) (by omega) (by omega) (by omega) (fun h => absurd h (by omega))
   have e : Ev (fun k => spec_l6ok.l0 k (left - 1) (24 - (r : Int)) 0 t.f0 t.f1 t.f2 t.f3) q := e
   have F : Ev (fun k => spec_l6ok.j0 k (left - 1) (24 - (r : Int)) false t.f0 t.f1 t.f2 t.f3) q := Ev.step (fun k => by rw [spec_l6ok.j0]) (ev_if_neg (by simp) e)
   refine ⟨q, Ev.step (fun k => by rw [spec_l6ok.f]) ?_, ?_⟩
   ·rw [w64 (x := left - 1) (by omega) (by omega)]
    obtain ⟨⟨n1, n2, n3, n4⟩, n5⟩ := N
    repeat' (first
     | exact F
     | refine ev_ite (fun hc => ?_) (fun hc => ?_)
     | (rw [decide_eq_false (by grind)]; exact F)
     | (exfalso; grind))
   ·rw [okD_succ, cntD_succ]
    constructor
    ·rintro ⟨⟨_, _, _, _, u⟩, v⟩
     have := hq1 ⟨u, by omega⟩
     omega
    ·intro u
     exact hq2 (fun ⟨v1, v2⟩ => u ⟨⟨N.1.1, N.1.2.1, N.1.2.2.1, N.1.2.2.2, v1⟩, by omega⟩)
  ·refine ⟨-1, Ev.step (fun k => by rw [spec_l6ok.f]) ?_, ?_⟩
   ·rw [w64 (x := left - 1) (by omega) (by omega)]
    repeat' (first
     | exact T _
     | refine ev_ite (fun hc => ?_) (fun hc => ?_)
     | (rw [decide_eq_true (by grind)]; exact T _)
     | (exfalso; grind))
   ·rw [okD_succ, cntD_succ]
    constructor
    ·rintro ⟨⟨u1, u2, u3, u4, u⟩, v⟩
     exact absurd ⟨⟨u1, u2, u3, u4⟩, by omega⟩ N
    ·intro _
     rfl
-- treelong.lean: how long a tree's longest key is
theorem longFrom_le (r : Nat) (m : Nat) (ks : List S30) (h : ∀ x ∈ ks, longD r x ≤ m) (i : Nat) : longFrom r ks i ≤ m := by
 have : ∀ l : List S30, (∀ x ∈ l, longD r x ≤ m) → (l.map (longD r)).foldr max 0 ≤ m := by
  intro l
  induction l with
  | nil => intro _; simp
  | cons x xs ih =>
   intro g
   rw [List.map_cons, List.foldr_cons]
   have a := g x (List.mem_cons_self ..)
   have b := ih (fun y hy => g y (List.mem_cons_of_mem _ hy))
   omega
 exact this _ (fun x hx => h x (List.mem_of_mem_drop hx))
theorem longD_le (r : Nat) : ∀ t : S30, FitU t → longD r t ≤ (r + 1) * 1048576 := by
 induction r with
 | zero =>
  intro t h
  have := h.h0
  rw [longD]
  omega
 | succ r ih =>
  intro t h
  have := h.h0
  have := longFrom_le r ((r + 1) * 1048576) t.f3 (fun x hx => ih x (h.hk x hx)) 0
  rw [longD_succ]
  omega
theorem l6long_loop (r : Nat) (hr : r < 25) (a : List Int) (ha : a.length ≤ 1048576) (b : Bool) (c : Int) (ks : List S30) (hn : ks.length ≤ 1048576)
  (hk : ∀ x ∈ ks, Ev (fun k => spec_l6long.f k x.f0 x.f1 x.f2 x.f3) (longD r x : Int)) (hb : ∀ x ∈ ks, longD r x ≤ (r + 1) * 1048576) (d : Nat) :
  ∀ (i : Nat) (most : Nat), i ≤ ks.length → ks.length - i = d → most ≤ (r + 1) * 1048576 →
  Ev (fun k => spec_l6long.l0 k (most : Int) (i : Int) a b c ks) ((max most (longFrom r ks i) + a.length : Nat) : Int) := by
 induction d with
 | zero =>
  intro i most hi hd hm
  refine Ev.step (fun k => by rw [spec_l6long.l0]) (ev_if_neg (by omega) (ev_done ?_))
  have : (r + 1) * 1048576 ≤ 25 * 1048576 := Nat.mul_le_mul_right _ (by omega)
  rw [longFrom_end r ks i (by omega), w64 (by omega) (by omega)]
  omega
 | succ d ih =>
  intro i most hi hd hm
  have hi' : i < ks.length := by omega
  have e := hk ks[i] (List.getElem_mem hi')
  have hx := hb ks[i] (List.getElem_mem hi')
  have h1 := ih (i + 1) (longD r ks[i]) (by omega) (by omega) hx
  have h2 := ih (i + 1) most (by omega) (by omega) hm
  rw [Int.natCast_add i, Int.natCast_one] at h1 h2
  refine Ev.step (fun k => by rw [spec_l6long.l0]) ?_
  rw [rd_T30_get ks i hi', w64 (x := (i : Int) + 1) (by omega) (by omega), longFrom_step r ks i hi']
  refine ev_if_pos (by omega) (ev_if_pos (by omega) (Ev.bind e (ev_ite (fun g => ?_) (fun g => ?_))))
  ·exact ev_of h1 (by congr 1; omega)
  ·exact ev_of h2 (by congr 1; omega)
theorem l6long_ev (r : Nat) : ∀ t : S30, r ≤ 25 → FitU t → okD r t → Ev (fun k => spec_l6long.f k t.f0 t.f1 t.f2 t.f3) (longD r t : Int) := by
 induction r with
 | zero => intro t _ _ h; exact h.elim
 | succ r ih =>
  intro t hr hf h
  have ok := ((okD_succ r t).1 h).2.2.2.2
  refine Ev.step (fun k => by rw [spec_l6long.f]) ?_
  rw [longD_succ]
  have := l6long_loop r (by omega) t.f0 hf.h0 t.f1 t.f2 t.f3 hf.h3 (fun x hx => by
   obtain ⟨j, hj, rfl⟩ := List.mem_iff_getElem.1 hx
   exact ih _ (by omega) (hf.hk _ hx) (ok j (by omega) hj).1) (fun x hx => longD_le r x (hf.hk x hx)) t.f3.length 0 0 (by omega) (by omega) (by omega)
  refine ev_of this (by congr 1; omega)
-- within.lean
theorem within_eq (a b c : Int) : impl_within.f a b c = some (decide (b ≤ a ∧ a ≤ c)) := by
 unfold impl_within.f
 by_cases h : b ≤ a
 ·rw [if_pos h]
  by_cases h2 : a ≤ c
  ·rw [decide_eq_true h2, decide_eq_true ⟨h, h2⟩]
  ·rw [decide_eq_false h2, decide_eq_false (fun z => h2 z.2)]
 ·rw [if_neg h, decide_eq_false (fun z => h z.1)]
-- treescan.lean: the program's own look at a tree
/-- What 'scan' answers. -/
def ScanSays (ok : Prop) (cnt lng : Nat) (long count : Int) (b : Bool) (c : Int) : Prop :=
 (b = true ↔ ok ∧ count + (cnt : Int) ≤ 200 ∧ long + (lng : Int) ≤ 20) ∧ (b = true → c = count + (cnt : Int))
theorem scan_loop (r : Nat) (hr : r < 25) (a : List Int) (ha : a.length ≤ 1048576) (b : Bool) (c : Int) (ks : List S30) (hn : ks.length ≤ 1048576) (long : Int) (hl0 : 0 ≤ long) (hl1 : long + (a.length : Int) ≤ 20)
  (hk : ∀ x ∈ ks, ∀ count : Int, 0 ≤ count → count ≤ 200 → ∃ v n, Ev (fun k => impl_scan.f k x.f0 x.f1 x.f2 x.f3 (25 - (r : Int)) (long + (a.length : Int)) count) (v, n) ∧ ScanSays (okD r x) (cntD r x) (longD r x) (long + (a.length : Int)) count v n) (d : Nat) :
  ∀ (i : Nat) (count : Int), i ≤ ks.length → ks.length - i = d → 0 ≤ count → count ≤ 200 → (0 < i → ∀ h : i - 1 < ks.length, 0 < ks[i - 1].f0.length) →
  ∃ v n, Ev (fun k => impl_scan.l0 k (24 - (r : Int)) long ks (ks.length : Int) (i : Int) count a b c ks) (v, n) ∧ ScanSays (okFrom r ks i) (cntFrom r ks i) (longFrom r ks i) (long + (a.length : Int)) count v n := by
 induction d with
 | zero =>
  intro i count hi hd h0 h1 hp
  refine ⟨true, count, Ev.step (fun k => by rw [impl_scan.l0]) (ev_if_neg (by omega) (Ev.now _)), ?_⟩
  rw [cntFrom_end r ks i (by omega), longFrom_end r ks i (by omega)]
  exact ⟨⟨fun _ => ⟨okFrom_end r ks i (by omega), by simpa using h1, by simpa using hl1⟩, fun _ => rfl⟩, fun _ => by simp⟩
 | succ d ih =>
  intro i count hi hd h0 h1 hp
  have hi' : i < ks.length := by omega
  have S := okFrom_step r ks i hi'
  obtain ⟨v, n, e, hv, hc⟩ := hk ks[i] (List.getElem_mem hi') count h0 h1
  have go : ∀ (R : Nat → Option (Bool × Int)) (v' : Bool) (n' : Int), (if v = true then Ev R (v', n') else (v', n') = (false, n)) → Ev (fun k => (if v = true then R k else some (false, n))) (v', n') := by
   intro R v' n' h
   by_cases g : v = true
   ·rw [if_pos g] at h
    exact ev_if_pos g h
   ·rw [if_neg g] at h
    exact ev_if_neg g (ev_done h.symm)
  have main : ∀ (v' : Bool) (n' : Int), Ev (fun k => if v = true then (if (i : Int) > 0 then (if 0 ≤ (wrap64 ((i : Int) - 1)) then (if (wrap64 ((i : Int) - 1)) < (ks.length : Int) then (if 0 < (((rd_T30 ks (wrap64 ((i : Int) - 1))).f0).length : Int) then (if 0 < ((ks[i].f0).length : Int) then (if (rd ((rd_T30 ks (wrap64 ((i : Int) - 1))).f0) 0) ≥ (rd (ks[i].f0) 0) then (some (false, n)) else (impl_scan.l0 k (24 - (r : Int)) long ks (ks.length : Int) (wrap64 ((i : Int) + 1)) n a b c ks)) else (none)) else (none)) else (none)) else (none)) else (impl_scan.l0 k (24 - (r : Int)) long ks (ks.length : Int) (wrap64 ((i : Int) + 1)) n a b c ks)) else (some (false, n))) (v', n') →
    Ev (fun k => impl_scan.l0 k (24 - (r : Int)) long ks (ks.length : Int) (i : Int) count a b c ks) (v', n') := by
   intro v' n' h
   refine Ev.step (fun k => by rw [impl_scan.l0]) ?_
   rw [rd_T30_get ks i hi', w64 (x := 24 - (r : Int) + 1) (by omega) (by omega), w64 (x := long + (a.length : Int)) (by omega) (by omega), show 24 - (r : Int) + 1 = 25 - (r : Int) by omega]
   exact ev_if_pos (by omega) (ev_if_pos (by omega) (ev_if_pos (by omega) (Ev.bind e h)))
  by_cases hvt : v = true
  ·obtain ⟨o1, o2, o3⟩ := hv.1 hvt
   have hn' := hc hvt
   have hpos := okD_edge o1 hr
   have hcp := cntD_pos r ks[i]
   obtain ⟨v', n', e', hv', hc'⟩ := ih (i + 1) n (by omega) (by omega) (by omega) (by omega) (fun _ h => by simpa using hpos)
   rw [Int.natCast_add, Int.natCast_one] at e'
   have good : (0 < i → rd (ks[i - 1]'(by omega)).f0 0 < rd ks[i].f0 0) → ScanSays (okFrom r ks i) (cntFrom r ks i) (longFrom r ks i) (long + (a.length : Int)) count v' n' := by
    intro g
    rw [cntFrom_step r ks i hi', longFrom_step r ks i hi']
    constructor
    ·constructor
     ·intro h
      obtain ⟨p1, p2, p3⟩ := hv'.1 h
      exact ⟨S.2 ⟨⟨o1, g⟩, p1⟩, by omega, by omega⟩
     ·rintro ⟨p1, p2, p3⟩
      exact hv'.2 ⟨(S.1 p1).2, by omega, by omega⟩
    ·intro h
     have := hc' h
     omega
   by_cases i0 : 0 < i
   ·have hi1 : i - 1 < ks.length := by omega
    have hpp := hp i0 hi1
    have ei : (i : Int) - 1 = ((i - 1 : Nat) : Int) := by omega
    by_cases o : rd ks[i - 1].f0 0 ≥ rd ks[i].f0 0
    ·refine ⟨false, n, main _ _ (ev_if_pos hvt ?_), ⟨⟨fun h => absurd h (by simp), fun h => ?_⟩, fun h => absurd h (by simp)⟩⟩
     ·rw [w64 (x := (i : Int) - 1) (by omega) (by omega), ei, rd_T30_get ks (i - 1) hi1]
      exact ev_if_pos (by omega) (ev_if_pos (by omega) (ev_if_pos (by omega) (ev_if_pos (by omega) (ev_if_pos (by omega) (ev_if_pos o (Ev.now _))))))
     ·have := (S.1 h.1).1.2 i0
      omega
    ·refine ⟨v', n', main _ _ (ev_if_pos hvt ?_), good (fun _ => by omega)⟩
     rw [w64 (x := (i : Int) - 1) (by omega) (by omega), ei, rd_T30_get ks (i - 1) hi1, w64 (x := (i : Int) + 1) (by omega) (by omega)]
     exact ev_if_pos (by omega) (ev_if_pos (by omega) (ev_if_pos (by omega) (ev_if_pos (by omega) (ev_if_pos (by omega) (ev_if_neg o e')))))
   ·refine ⟨v', n', main _ _ (ev_if_pos hvt (ev_if_neg (by omega) ?_)), good (fun h => absurd h i0)⟩
    rw [w64 (x := (i : Int) + 1) (by omega) (by omega)]
    exact e'
  ·refine ⟨false, n, main _ _ (ev_if_neg hvt (Ev.now _)), ⟨⟨fun h => absurd h (by simp), fun h => ?_⟩, fun h => absurd h (by simp)⟩⟩
   rw [cntFrom_step r ks i hi', longFrom_step r ks i hi'] at h
   exact absurd (hv.2 ⟨(S.1 h.1).1.1, by omega, by omega⟩) hvt
set_option maxHeartbeats 4000000 in
theorem scan_ev (r : Nat) : ∀ (t : S30), r ≤ 25 → FitU t → ∀ (long count : Int), 0 ≤ long → long ≤ 20 → 0 ≤ count → count ≤ 200 →
  ∃ v n, Ev (fun k => impl_scan.f k t.f0 t.f1 t.f2 t.f3 (25 - (r : Int)) long count) (v, n) ∧ ScanSays (okD r t) (cntD r t) (longD r t) long count v n := by
 induction r with
 | zero =>
  intro t hr hf long count hl0 hl1 h0 h1
  refine ⟨false, count + 1, Ev.step (fun k => by rw [impl_scan.f]) ?_, ⟨⟨fun h => absurd h (by simp), fun h => h.1.elim⟩, fun h => absurd h (by simp)⟩⟩
  have T : Ev (fun k => impl_scan.j0 k (25 - ((0 : Nat) : Int)) long true (count + 1) t.f0 t.f1 t.f2 t.f3) (false, count + 1) := Ev.step (fun k => by rw [impl_scan.j0]) (ev_if_pos rfl (Ev.now _))
  rw [w64 (x := count + 1) (by omega) (by omega)]
  exact ev_ite (fun _ => T) (fun _ => ev_if_pos (by simp) T)
 | succ r ih =>
  intro t hr hf long count hl0 hl1 h0 h1
  have ht0 := hf.h0
  have T : Ev (fun k => impl_scan.j0 k (24 - (r : Int)) long true (count + 1) t.f0 t.f1 t.f2 t.f3) (false, count + 1) := Ev.step (fun k => by rw [impl_scan.j0]) (ev_if_pos rfl (Ev.now _))
  have J : Ev (fun k => impl_scan.j1 k (24 - (r : Int)) long true (count + 1) t.f0 t.f1 t.f2 t.f3) (false, count + 1) := Ev.step (fun k => by rw [impl_scan.j1]) (ev_if_pos rfl (Ev.now _))
  have ed : 25 - ((r + 1 : Nat) : Int) = 24 - (r : Int) := by omega
  have ee : ((((t.f0.length : Int) == 0) != (24 - (r : Int) == 0)) = true) ↔ ¬ (t.f0.length = 0 ↔ r = 24) := by
   have e1 : ((t.f0.length : Int) == 0) = decide (t.f0.length = 0) := by
    rw [Bool.eq_iff_iff, beq_iff_eq, decide_eq_true_iff]; omega
   have e2 : ((24 - (r : Int)) == 0) = decide (r = 24) := by
    rw [Bool.eq_iff_iff, beq_iff_eq, decide_eq_true_iff]; omega
   rw [e1, e2]
   by_cases p : t.f0.length = 0 <;> by_cases q : r = 24 <;> simp [p, q]
  rw [ed]
  by_cases N1 : (t.f0.length = 0 ↔ r = 24) ∧ count + 1 ≤ 200 ∧ long + (t.f0.length : Int) ≤ 20
  ·have A : ∀ v n, Ev (fun k => impl_scan.j0 k (24 - (r : Int)) long false (count + 1) t.f0 t.f1 t.f2 t.f3) (v, n) → Ev (fun k => impl_scan.f k t.f0 t.f1 t.f2 t.f3 (24 - (r : Int)) long count) (v, n) := by
    intro v n h
    refine Ev.step (fun k => by rw [impl_scan.f]) ?_
    rw [w64 (x := count + 1) (by omega) (by omega), w64 (x := long + (t.f0.length : Int)) (by omega) (by omega)]
    refine ev_if_neg (by omega) (ev_if_neg (by omega) (ev_if_neg (fun g => (ee.1 g) N1.1) ?_))
    rw [decide_eq_false (by omega)]
    exact h
   by_cases N2 : (t.f1 = true → 0 ≤ t.f2 ∧ t.f2 ≤ 2147483647) ∧ (t.f1 = false → t.f2 = 0) ∧ (r = 24 ∨ t.f1 = true ∨ 2 ≤ t.f3.length)
   ·obtain ⟨v, n, e, hv, hc⟩ := scan_loop r (by omega) t.f0 ht0 t.f1 t.f2 t.f3 hf.h3 long hl0 N1.2.2 (fun x hx cn a b => ih x (by omega) (hf.hk x hx) (long + (t.f0.length : Int)) cn (by omega) (by omega) a b) t.f3.length 0 (count + 1) (by omega) (by omega) (by omega) (by omega) (fun h => absurd h (by omega))
    have e : Ev (fun k => impl_scan.l0 k (24 - (r : Int)) long t.f3 (t.f3.length : Int) 0 (count + 1) t.f0 t.f1 t.f2 t.f3) (v, n) := e
    have F : Ev (fun k => impl_scan.j1 k (24 - (r : Int)) long false (count + 1) t.f0 t.f1 t.f2 t.f3) (v, n) := Ev.step (fun k => by rw [impl_scan.j1]) (ev_if_neg (by simp) e)
    refine ⟨v, n, A v n (Ev.step (fun k => by rw [impl_scan.j0]) (ev_if_neg (by simp) ?_)), ?_⟩
    ·obtain ⟨n2, n3, n4⟩ := N2
     repeat' (first
      | exact F
      | refine ev_bind_eq (within_eq _ _ _) ?_
      | refine ev_ite (fun hc => ?_) (fun hc => ?_)
      | (rw [decide_eq_false (by grind)]; exact F)
      | (exfalso; grind))
    ·rw [okD_succ, cntD_succ, longD_succ]
     constructor
     ·constructor
      ·intro h
       obtain ⟨p1, p2, p3⟩ := hv.1 h
       exact ⟨⟨N1.1, N2.1, N2.2.1, N2.2.2, p1⟩, by omega, by omega⟩
      ·rintro ⟨⟨_, _, _, _, p1⟩, p2, p3⟩
       exact hv.2 ⟨p1, by omega, by omega⟩
     ·intro h
      have := hc h
      omega
   ·refine ⟨false, count + 1, A _ _ (Ev.step (fun k => by rw [impl_scan.j0]) (ev_if_neg (by simp) ?_)), ⟨⟨fun h => absurd h (by simp), fun h => ?_⟩, fun h => absurd h (by simp)⟩⟩
    ·repeat' (first
      | exact J
      | refine ev_bind_eq (within_eq _ _ _) ?_
      | refine ev_ite (fun hc => ?_) (fun hc => ?_)
      | (rw [decide_eq_true (by grind)]; exact J)
      | (exfalso; grind))
    ·rw [okD_succ] at h
     exact absurd ⟨h.1.2.1, h.1.2.2.1, h.1.2.2.2.1⟩ N2
  ·refine ⟨false, count + 1, Ev.step (fun k => by rw [impl_scan.f]) ?_, ⟨⟨fun h => absurd h (by simp), fun h => ?_⟩, fun h => absurd h (by simp)⟩⟩
   ·rw [w64 (x := count + 1) (by omega) (by omega), w64 (x := long + (t.f0.length : Int)) (by omega) (by omega)]
    refine ev_ite (fun _ => T) (fun g1 => ev_ite (fun _ => T) (fun g2 => ev_ite (fun _ => T) (fun g3 => ?_)))
    rw [decide_eq_true (by
     have g4 := Classical.not_not.1 (fun q => g3 (ee.2 q))
     have : ¬ long + (t.f0.length : Int) ≤ 20 := fun q => N1 ⟨g4, by omega, q⟩
     omega)]
    exact T
   ·rw [okD_succ, cntD_succ, longD_succ] at h
    exact absurd ⟨h.1.1, by omega, by omega⟩ N1
-- treevalid.lean: both programs find the same trees valid
def ValidT (t : S30) : Prop := okD 25 t ∧ cntD 25 t ≤ 200 ∧ longD 25 t ≤ 20
theorem specTreeOk_ev {t : S30} (hf : FitU t) : ∃ b, Ev (fun k => spec_TreeOk.f k t.f0 t.f1 t.f2 t.f3) b ∧ (b = true ↔ ValidT t) := by
 obtain ⟨q, e, h1, h2⟩ := l6ok_ev 25 t (by omega) hf true 200 (by simp) (by omega) (by omega)
 unfold spec_TreeOk.f
 by_cases g : okD 25 t ∧ (cntD 25 t : Int) ≤ 200
 ·have hq := h1 g
  refine ⟨decide ((longD 25 t : Int) ≤ 20), Ev.bind e (ev_if_pos (by omega) (Ev.bind (l6long_ev 25 t (by omega) hf g.1) (Ev.now _))), ?_⟩
  rw [decide_eq_true_iff]
  unfold ValidT
  constructor
  ·intro h
   exact ⟨g.1, by omega, by omega⟩
  ·intro h
   have := h.2.2
   omega
 ·have hq := h2 g
  refine ⟨false, Ev.bind e (ev_if_neg (by omega) (Ev.now _)), ⟨fun h => absurd h (by simp), fun h => ?_⟩⟩
  exact absurd ⟨h.1, by have := h.2.1; omega⟩ g
theorem implTreeOk_ev {t : S30} (hf : FitU t) : ∃ b, Ev (fun k => impl_TreeOk.f k t.f0 t.f1 t.f2 t.f3) b ∧ (b = true ↔ ValidT t) := by
 obtain ⟨v, n, e, hv, _⟩ := scan_ev 25 t (by omega) hf 0 0 (by omega) (by omega) (by omega) (by omega)
 unfold impl_TreeOk.f
 refine ⟨v, Ev.bind e (Ev.now _), ?_⟩
 rw [hv]
 unfold ValidT
 constructor
 ·rintro ⟨a, b, c⟩
  exact ⟨a, by omega, by omega⟩
 ·rintro ⟨a, b, c⟩
  exact ⟨a, by omega, by omega⟩
-- treekeys.lean: a valid tree's keys that begin with a text, told by both programs
def keysOf (p : List Int) (l : List S84) : List (List Int) := (l.map (fun e => e.f0)).filter (fun a => hasP a p)
theorem keysOf_append (p : List Int) (a b : List S84) : keysOf p (a ++ b) = keysOf p a ++ keysOf p b := by
 unfold keysOf
 rw [List.map_append, List.filter_append]
theorem keysOf_length (p : List Int) (l : List S84) : (keysOf p l).length ≤ l.length := by
 unfold keysOf
 have := List.length_filter_le (fun a => hasP a p) (l.map (fun e => e.f0))
 rw [List.length_map] at this
 exact this
theorem entsFrom_length (r : Nat) (ahead : List Int) (ks : List S30) (i : Nat) : (entsFrom r ahead ks i).length = sizeFrom r ks i := length_flatten_map _ (sizeD r) _ (fun x _ => entsD_length r _ x)
theorem specHasP_eq (a p : List Int) (ha : Bytes a) (hp : Bytes p) : spec_HasPrefix.f a p = some (hasP a p) := by
 unfold spec_HasPrefix.f hasP
 by_cases c : (a.length : Int) ≥ (p.length : Int)
 ·rw [if_pos c, if_pos (by omega), if_pos (by omega), Int.toNat_natCast, str_eq _ _ (bytes_take _ ha) hp]
  have hc : p.length ≤ a.length := by omega
  simp [hc]
 ·rw [if_neg c, decide_eq_false (fun h => c (by omega))]
theorem l6keys_loop (r : Nat) (p me : List Int) (a : List Int) (b : Bool) (c : Int) (ks : List S30) (hn : ks.length ≤ 1048576) (hk : ∀ x ∈ ks, Ev (fun k => spec_l6keys.f k x.f0 x.f1 x.f2 x.f3 me p) (keysOf p (entsD r me x))) (d : Nat) :
  ∀ (i : Nat) (out : List (List Int)), i ≤ ks.length → ks.length - i = d → out.length + (entsFrom r me ks i).length ≤ 1000 → Ev (fun k => spec_l6keys.l0 k p out me (i : Int) a b c ks) (out ++ keysOf p (entsFrom r me ks i)) := by
 induction d with
 | zero =>
  intro i out hi hd hm
  refine Ev.step (fun k => by rw [spec_l6keys.l0]) (ev_if_neg (by omega) (ev_done ?_))
  rw [entsFrom_end r me ks i (by omega)]
  exact (List.append_nil out).symm
 | succ d ih =>
  intro i out hi hd hm
  have hi' : i < ks.length := by omega
  rw [entsFrom_step r me ks i hi'] at hm ⊢
  rw [List.length_append] at hm
  have hq := keysOf_length p (entsD r me ks[i])
  have h := ih (i + 1) (out ++ keysOf p (entsD r me ks[i])) (by omega) (by omega) (by rw [List.length_append]; omega)
  rw [Int.natCast_add i, Int.natCast_one, List.append_assoc, ← keysOf_append] at h
  refine Ev.step (fun k => by rw [spec_l6keys.l0]) ?_
  rw [rd_T30_get ks i hi', w64 (x := (i : Int) + 1) (by omega) (by omega)]
  exact ev_if_pos (by omega) (ev_if_pos (by omega) (Ev.bind (hk ks[i] (List.getElem_mem hi')) (ev_if_pos (by omega) h)))
theorem l6keys_ev (r : Nat) (p : List Int) (hp : Bytes p) : ∀ (t : S30) (ahead : List Int), r ≤ 25 → FitU t → ByU t → Bytes ahead → okD r t → cntD r t ≤ 200 → ahead.length ≤ (25 - r) * 1048576 → Ev (fun k => spec_l6keys.f k t.f0 t.f1 t.f2 t.f3 ahead p) (keysOf p (entsD r ahead t)) := by
 induction r with
 | zero => intro t ahead _ _ _ _ h _ _; exact h.elim
 | succ r ih =>
  intro t ahead hr hf hb hba h hc ha
  have ok := ((okD_succ r t).1 h).2.2.2.2
  rw [cntD_succ] at hc
  have h0 := hf.h0
  have ha2 : (25 - (r + 1)) * 1048576 ≤ 25 * 1048576 := Nat.mul_le_mul_right _ (by omega)
  have ha3 : (ahead ++ t.f0).length ≤ (25 - r) * 1048576 := by
   rw [List.length_append]
   have : (25 - r) * 1048576 = (25 - (r + 1)) * 1048576 + 1048576 := by
    rw [show 25 - r = (25 - (r + 1)) + 1 by omega, Nat.add_mul]
   omega
  have hl : (entsFrom r (ahead ++ t.f0) t.f3 0).length ≤ 200 := by
   have e := entsFrom_length r (ahead ++ t.f0) t.f3 0
   have := sizeFrom_le r t.f3 0
   omega
  have hbm : Bytes (ahead ++ t.f0) := bytes_append hba hb.h0
  have hk : ∀ x ∈ t.f3, Ev (fun k => spec_l6keys.f k x.f0 x.f1 x.f2 x.f3 (ahead ++ t.f0) p) (keysOf p (entsD r (ahead ++ t.f0) x)) := fun x hx => by
   obtain ⟨j, hj, rfl⟩ := List.mem_iff_getElem.1 hx
   have hcj : cntD r t.f3[j] ≤ cntFrom r t.f3 0 := by
    have : ∀ l : List S30, ∀ x ∈ l, cntD r x ≤ (l.map (cntD r)).sum := by
     intro l
     induction l with
     | nil => intro x hx; simp at hx
     | cons y ys ih2 =>
      intro x hx
      rw [List.map_cons, List.sum_cons]
      rcases List.mem_cons.1 hx with rfl | hx
      ·omega
      ·have := ih2 x hx
       omega
    rw [cntFrom, List.drop_zero]
    exact this t.f3 _ hx
   exact ih _ _ (by omega) (hf.hk _ hx) (hb.hk _ hx) hbm (ok j (by omega) hj).1 (by omega) ha3
  have hme := specHasP_eq (ahead ++ t.f0) p hbm hp
  rw [List.length_append] at ha3
  refine Ev.step (fun k => by rw [spec_l6keys.f]) ?_
  refine ev_bind_eq rfl ?_
  refine ev_if_pos (by simp; omega) ?_
  refine ev_bind_eq rfl ?_
  refine ev_if_pos (by simp; omega) ?_
  refine ev_bind_eq rfl ?_
  rw [List.nil_append]
  rw [entsD_succ, keysOf_append]
  have l0 : ∀ out : List (List Int), out.length ≤ 1 → Ev (fun k => spec_l6keys.j1 k p out (ahead ++ t.f0) t.f0 t.f1 t.f2 t.f3) (out ++ keysOf p (entsFrom r (ahead ++ t.f0) t.f3 0)) := fun out ho => by
   have e : Ev (fun k => spec_l6keys.l0 k p out (ahead ++ t.f0) 0 t.f0 t.f1 t.f2 t.f3) _ := l6keys_loop r p (ahead ++ t.f0) t.f0 t.f1 t.f2 t.f3 hf.h3 hk t.f3.length 0 out (by omega) (by omega) (by omega)
   exact Ev.step (fun k => by rw [spec_l6keys.j1]) e
  have no : Ev (fun k => spec_l6keys.j0 k p [] (ahead ++ t.f0) false t.f0 t.f1 t.f2 t.f3) (keysOf p (entsFrom r (ahead ++ t.f0) t.f3 0)) := by
   refine Ev.step (fun k => by rw [spec_l6keys.j0]) ?_
   refine ev_if_neg (by simp) ?_
   exact ev_of (l0 [] (by simp)) (by rw [List.nil_append])
  by_cases g : t.f1 = true
  ·rw [if_pos g]
   refine ev_if_pos g (ev_bind_eq hme ?_)
   by_cases q : hasP (ahead ++ t.f0) p = true
   ·rw [q, show keysOf p [⟨ahead ++ t.f0, t.f2⟩] = [ahead ++ t.f0] by simp [keysOf, q]]
    refine Ev.step (fun k => by rw [spec_l6keys.j0]) ?_
    refine ev_if_pos rfl (ev_if_pos (by simp) ?_)
    rw [List.nil_append]
    exact l0 _ (by simp)
   ·have q2 : hasP (ahead ++ t.f0) p = false := by simpa using q
    rw [q2, show keysOf p [⟨ahead ++ t.f0, t.f2⟩] = [] by simp [keysOf, q2], List.nil_append]
    exact no
  ·rw [if_neg g]
   exact ev_if_neg g no
theorem treeKeys_loop (p : List Int) (hp : Bytes p) (l : List S84) (hl : l.length ≤ 1000) (hb : ∀ x ∈ l, Bytes x.f0) (d : Nat) : ∀ (i : Nat) (out : List (List Int)), i ≤ l.length → l.length - i = d → out.length + (l.length - i) ≤ 1000 →
  Ev (fun k => impl_TreeKeys.l0 k p out l (l.length : Int) (i : Int)) (out ++ keysOf p (l.drop i)) := by
 induction d with
 | zero =>
  intro i out hi hd hm
  refine Ev.step (fun k => by rw [impl_TreeKeys.l0]) (ev_if_neg (by omega) (ev_done ?_))
  rw [List.drop_of_length_le (by omega)]
  exact (List.append_nil out).symm
 | succ d ih =>
  intro i out hi hd hm
  have hi' : i < l.length := by omega
  have h1 := ih (i + 1) (out ++ [l[i].f0]) (by omega) (by omega) (by simp; omega)
  have h2 := ih (i + 1) out (by omega) (by omega) (by omega)
  rw [Int.natCast_add i, Int.natCast_one] at h1 h2
  have hx := implHasPrefix_eq l[i].f0 p (hb _ (List.getElem_mem hi')) hp
  refine Ev.step (fun k => by rw [impl_TreeKeys.l0]) ?_
  rw [rd_T84_get l i hi', w64 (x := (i : Int) + 1) (by omega) (by omega), List.drop_eq_getElem_cons hi', show l[i] :: l.drop (i + 1) = [l[i]] ++ l.drop (i + 1) from rfl, keysOf_append]
  refine ev_if_pos (by omega) (ev_if_pos (by omega) (ev_if_pos (by omega) (ev_bind_eq hx ?_)))
  by_cases q : hasP l[i].f0 p = true
  ·rw [show keysOf p [l[i]] = [l[i].f0] by simp [keysOf, q]]
   refine ev_if_pos q (ev_if_pos (by omega) (ev_of h1 (by rw [List.append_assoc])))
  ·have q2 : hasP l[i].f0 p = false := by simpa using q
   rw [show keysOf p [l[i]] = [] by simp [keysOf, q2]]
   refine ev_if_neg q (ev_of h2 (by rw [List.nil_append]))
/-- The keys of a tree, as both have them. -/
theorem keys_same (t : S30) (p : List Int) (hf : FitU t) (hb : ByU t) (hp : Bytes p) (hv : ValidT t) :
  Ev (fun k => spec_l6keys.f k t.f0 t.f1 t.f2 t.f3 [] p) (keysOf p (entsD 25 [] t)) ∧ Ev (fun k => (impl_Tree_entries.f k t.f0 t.f1 t.f2 t.f3 []).bind fun l => impl_TreeKeys.l0 k p [] l (l.length : Int) 0) (keysOf p (entsD 25 [] t)) := by
 obtain ⟨o1, o2, _⟩ := hv
 refine ⟨l6keys_ev 25 p hp t [] (by omega) hf hb bytes_nil o1 o2 (by simp), ?_⟩
 have hlen : (entsD 25 [] t).length ≤ 200 := by
  rw [entsD_length]
  have := sizeD_le 25 t
  omega
 have e := entries_ev 25 t [] (by omega) hf o1 o2 (by simp)
 have q := treeKeys_loop p hp (entsD 25 [] t) (by omega) (ents_bytes 25 [] t bytes_nil hb) (entsD 25 [] t).length 0 [] (by omega) (by omega) (by simp; omega)
 rw [List.nil_append, List.drop_zero] at q
 exact Ev.bind e q
theorem implTreeKeys_ev (t : S30) (p : List Int) (hf : FitU t) (hb : ByU t) (hp : Bytes p) : ∃ v, Ev (fun k => spec_TreeOk.f k t.f0 t.f1 t.f2 t.f3) v ∧ (v = true ↔ ValidT t) ∧ Ev (fun k => impl_TreeKeys.f k t.f0 t.f1 t.f2 t.f3 p) (if v = true then keysOf p (entsD 25 [] t) else []) := by
 obtain ⟨b, eb, hb1⟩ := specTreeOk_ev hf
 obtain ⟨v, ev, hv⟩ := implTreeOk_ev hf
 have same : v = b := by
  have : v = true ↔ b = true := hv.trans hb1.symm
  cases v <;> cases b <;> simp_all
 subst same
 refine ⟨v, eb, hv, ?_⟩
 unfold impl_TreeKeys.f
 by_cases g : v = true
 ·rw [if_pos g]
  exact Ev.bind ev (ev_if_pos g (keys_same t p hf hb hp (hv.1 g)).2)
 ·rw [if_neg g]
  exact Ev.bind ev (ev_if_neg g (Ev.now _))
theorem ents_short (r : Nat) : ∀ (ahead : List Int) (t : S30), FitU t → r ≤ 25 → ahead.length ≤ (25 - r) * 1048576 → ∀ e ∈ entsD r ahead t, e.f0.length ≤ 1000000000 := by
 induction r with
 | zero => intro ahead t _ _ _ e h; rw [entsD] at h; simp at h
 | succ r ih =>
  intro ahead t hf hr ha e h
  have h0 := hf.h0
  have ha3 : (ahead ++ t.f0).length ≤ (25 - r) * 1048576 := by
   rw [List.length_append]
   have : (25 - r) * 1048576 = (25 - (r + 1)) * 1048576 + 1048576 := by
    rw [show 25 - r = (25 - (r + 1)) + 1 by omega, Nat.add_mul]
   omega
  have h25 : (25 - r) * 1048576 ≤ 25 * 1048576 := Nat.mul_le_mul_right _ (by omega)
  rw [entsD_succ, List.mem_append] at h
  rcases h with h | h
  ·by_cases g : t.f1 = true
   ·rw [if_pos g, List.mem_singleton] at h
    subst h
    show (ahead ++ t.f0).length ≤ _
    omega
   ·rw [if_neg g] at h
    simp at h
  ·obtain ⟨j, hj, he⟩ := (mem_entsFrom r _ _ e).1 h
   exact ih _ _ (hf.hk _ (List.getElem_mem hj)) (by omega) ha3 e he
-- sizes.lean: how much an argument holds
theorem szByteS_eq (l : List Int) (left : Int) (h0 : 0 ≤ left) (h1 : left ≤ 1048576) (hl : l.length ≤ maxLen) : ∃ r, laws_szByteS.f l left = some r ∧ (0 ≤ r → r ≤ left ∧ (l.length : Int) ≤ left) := by
 unfold laws_szByteS.f
 unfold maxLen at hl
 rw [w64 (by omega) (by omega)]
 by_cases c : left - (l.length : Int) < 0
 ·rw [if_pos c]
  exact ⟨-1, rfl, fun h => absurd h (by decide)⟩
 ·rw [if_neg c]
  exact ⟨_, rfl, fun _ => ⟨by omega, by omega⟩⟩
theorem szByteS_eq2 (l : List Int) (left : Int) (h0 : 0 ≤ left) (h1 : left ≤ 1048576) (hl : l.length ≤ maxLen) : ∃ r, laws_szByteS.f l left = some r ∧ (0 ≤ r → r + (l.length : Int) = left) := by
 unfold laws_szByteS.f
 unfold maxLen at hl
 rw [w64 (by omega) (by omega)]
 by_cases c : left - (l.length : Int) < 0
 ·rw [if_pos c]
  exact ⟨-1, rfl, fun h => absurd h (by decide)⟩
 ·rw [if_neg c]
  exact ⟨_, rfl, fun _ => by omega⟩
-- treeszw.lean: how much a tree holds bounds what its marks count
theorem ev_unique {α : Type} {g : Nat → Option α} {a b : α} (h : Ev g a) (k : Ev g b) : a = b := by
 obtain ⟨K, h⟩ := h
 obtain ⟨L, k⟩ := k
 have x := h (max K L) (by omega)
 have y := k (max K L) (by omega)
 rw [x] at y
 exact Option.some.inj y
mutual
def szN : S25 → Nat
 | ⟨a, _, _, ks⟩ => a.length + szNs ks + ks.length
def szNs : List S25 → Nat
 | [] => 0
 | x :: xs => szN x + szNs xs
end
theorem szN_eq (t : S25) : szN t = t.f0.length + szNs t.f3 + t.f3.length := by
 cases t
 rw [szN]
theorem szTreeS_loopW (l : List S25) (hl : l.length ≤ maxLen) (hs : ∀ x ∈ l, ∀ left : Int, 0 ≤ left → left ≤ 1048576 → ∃ r, Ev (fun k => laws_szTree.f k x.f0 x.f1 x.f2 x.f3 left) r ∧ (0 ≤ r → r + szN x ≤ left)) (d : Nat) : ∀ (i : Nat) (left : Int), i ≤ l.length → l.length - i = d → 0 ≤ left → left ≤ 1048576 →
  ∃ r, Ev (fun k => laws_szTreeS.l0 k l left (i : Int)) r ∧ (0 ≤ r → r + szNs (l.drop i) ≤ left) := by
 induction d with
 | zero =>
  intro i left hi hd h0 h1
  refine ⟨left, Ev.step (fun k => by rw [laws_szTreeS.l0]) (ev_if_neg (by omega) (Ev.now _)), fun _ => ?_⟩
  rw [List.drop_of_length_le (by omega), szNs]
  omega
 | succ d ih =>
  intro i left hi hd h0 h1
  have hi' : i < l.length := by omega
  obtain ⟨q, e, hq⟩ := hs l[i] (List.getElem_mem hi') left h0 h1
  by_cases c : q < 0
  ·refine ⟨-1, Ev.step (fun k => by rw [laws_szTreeS.l0]) ?_, fun h => absurd h (by decide)⟩
   rw [rd_T25_get l i hi']
   exact ev_if_pos (by omega) (ev_if_pos (by omega) (Ev.bind e (ev_if_pos c (Ev.now _))))
  ·have q1 := hq (by omega)
   obtain ⟨r, er, hr⟩ := ih (i + 1) q (by omega) (by omega) (by omega) (by omega)
   refine ⟨r, Ev.step (fun k => by rw [laws_szTreeS.l0]) ?_, fun h => ?_⟩
   ·unfold maxLen at hl
    rw [rd_T25_get l i hi', w64 (x := (i : Int) + 1) (by omega) (by omega)]
    refine ev_if_pos (by omega) (ev_if_pos (by omega) (Ev.bind e (ev_if_neg c ?_)))
    rw [Int.natCast_add, Int.natCast_one] at er
    exact er
   ·have h2 := hr h
    rw [List.drop_eq_getElem_cons hi', szNs]
    omega
theorem szTree_evW {t : S25} (h : okS25 t) : ∀ left : Int, 0 ≤ left → left ≤ 1048576 → ∃ r, Ev (fun k => laws_szTree.f k t.f0 t.f1 t.f2 t.f3 left) r ∧ (0 ≤ r → r + szN t ≤ left) := by
 induction h with
 | mk t h0 _ _ h3 g3 ih =>
  intro left l0 l1
  obtain ⟨q, e, hq⟩ := szByteS_eq2 t.f0 left l0 l1 h0.1
  by_cases c : q < 0
  ·exact ⟨-1, Ev.step (fun k => by rw [laws_szTree.f]) (ev_bind_eq e (ev_if_pos c (Ev.now _))), fun h => absurd h (by decide)⟩
  ·have q1 := hq (by omega)
   have hl' := h3
   unfold maxLen at hl'
   have key : ∃ r, Ev (fun k => laws_szTreeS.f k t.f3 q) r ∧ (0 ≤ r → r + szNs t.f3 + t.f3.length ≤ q) := by
    by_cases c2 : q - (t.f3.length : Int) < 0
    ·refine ⟨-1, Ev.step (fun k => by rw [laws_szTreeS.f]) ?_, fun h => absurd h (by decide)⟩
     rw [w64 (x := q - (t.f3.length : Int)) (by omega) (by omega)]
     exact ev_if_pos c2 (Ev.now _)
    ·obtain ⟨r, er, hr⟩ := szTreeS_loopW t.f3 h3 (fun x hx left a b => ih x hx left a b) t.f3.length 0 (q - (t.f3.length : Int)) (by omega) (by omega) (by omega) (by omega)
     refine ⟨r, Ev.step (fun k => by rw [laws_szTreeS.f]) ?_, fun h => ?_⟩
     ·rw [w64 (x := q - (t.f3.length : Int)) (by omega) (by omega)]
      exact ev_if_neg c2 er
     ·have a := hr h
      rw [List.drop_zero] at a
      omega
   obtain ⟨r, er, hr⟩ := key
   by_cases c3 : r < 0
   ·exact ⟨-1, Ev.step (fun k => by rw [laws_szTree.f]) (ev_bind_eq e (ev_if_neg c (Ev.bind er (ev_if_pos c3 (Ev.now _))))), fun h => absurd h (by decide)⟩
   ·refine ⟨r, Ev.step (fun k => by rw [laws_szTree.f]) (ev_bind_eq e (ev_if_neg c (Ev.bind er (ev_if_neg c3 (Ev.now _))))), fun h => ?_⟩
    have a := hr h
    rw [szN_eq]
    omega
-- treemarks.lean: a tree that is marked: only how far the marks count is told
theorem mark_stable {t : S25} (h : FitT t) : ∃ K v, v ≤ 2 * szN t + 2 ∧ ∀ k, K ≤ k → laws_markTree.S_dp k (cvTree t) = true ∧ laws_markTree.S_wt k (cvTree t) = v := by
 induction h with
 | mk t h0 h3 hk ih =>
  have key : ∀ l : List S25, (∀ x ∈ l, ∃ K v, v ≤ 2 * szN x + 2 ∧ ∀ k, K ≤ k → laws_markTree.S_dp k (cvTree x) = true ∧ laws_markTree.S_wt k (cvTree x) = v) →
    ∃ K v, v ≤ 2 * szNs l + 2 * l.length ∧ ∀ k, K ≤ k → (l.map cvTree).all (laws_markTree.S_dp k) = true ∧ ((l.map cvTree).map (laws_markTree.S_wt k)).sum = v := by
   intro l
   induction l with
   | nil => intro _; exact ⟨0, 0, by omega, fun k _ => ⟨rfl, rfl⟩⟩
   | cons x xs ih2 =>
    intro hx
    obtain ⟨K, v, hv, e⟩ := hx x (List.mem_cons_self ..)
    obtain ⟨L, u, hu, g⟩ := ih2 (fun y hy => hx y (List.mem_cons_of_mem _ hy))
    refine ⟨max K L, v + u, by rw [szNs, List.length_cons]; omega, fun k hk => ?_⟩
    have a := e k (by omega)
    have b := g k (by omega)
    rw [List.map_cons, List.map_cons, List.all_cons, List.sum_cons, a.1, b.1, a.2, b.2]
    exact ⟨rfl, rfl⟩
  obtain ⟨K, v, hv, e⟩ := key t.f3 ih
  refine ⟨K + 1, t.f0.length + 2 + v, by rw [szN_eq]; omega, fun k hk => ?_⟩
  obtain ⟨k, rfl⟩ : ∃ m, k = m + 1 := ⟨k - 1, by omega⟩
  have a := e k (by omega)
  rw [laws_markTree.S_dp, laws_markTree.S_wt, cvTree_eq]
  exact ⟨a.1, by rw [a.2]⟩
theorem markTree_ev {t : S25} (h : FitT t) (hs : szN t ≤ 1048576) (a : Int) (h0 : 0 ≤ a) (h1 : a ≤ 100000000) : ∃ m : Int, Ev (fun k => laws_markTree.f k (cvTree t).f0 (cvTree t).f1 (cvTree t).f2 (cvTree t).f3 a) m ∧ a ≤ m ∧ m ≤ a + 4194304 := by
 obtain ⟨K, v, hv, e⟩ := mark_stable h
 have hl : (cvTree t).f0.length ≤ 1048576 := by
  rw [cvTree_eq]
  rw [szN_eq] at hs
  show t.f0.length ≤ _
  omega
 have hw : ∀ k, K ≤ k → (cvTree t).f3.all (laws_markTree.S_dp k) = true ∧ ((cvTree t).f3.map (laws_markTree.S_wt k)).sum + (cvTree t).f0.length + 2 = v := fun k hk => by
  have a := e (k + 1) (by omega)
  rw [laws_markTree.S_dp, laws_markTree.S_wt] at a
  exact ⟨a.1, by rw [← a.2]; omega⟩
 refine ⟨a + v - 2, ⟨K, fun k hk => ?_⟩, ?_, by omega⟩
 ·obtain ⟨x, y⟩ := hw k hk
  show laws_markTree.f k _ _ _ _ a = _
  unfold laws_markTree.f
  rw [if_pos ⟨x, h0, by omega⟩]
  congr 1
  omega
 ·have := (hw K (Nat.le_refl _)).2
  omega
-- treesz.lean: how much a tree holds
theorem szTreeS_loop (l : List S25) (hl : l.length ≤ maxLen) (hs : ∀ x ∈ l, ∀ left : Int, 0 ≤ left → left ≤ 1048576 → ∃ r, Ev (fun k => laws_szTree.f k x.f0 x.f1 x.f2 x.f3 left) r ∧ (0 ≤ r → r ≤ left ∧ FitT x)) (d : Nat) : ∀ (i : Nat) (left : Int), i ≤ l.length → l.length - i = d → 0 ≤ left → left ≤ 1048576 →
  ∃ r, Ev (fun k => laws_szTreeS.l0 k l left (i : Int)) r ∧ (0 ≤ r → r ≤ left ∧ ∀ x ∈ l.drop i, FitT x) := by
 induction d with
 | zero =>
  intro i left hi hd h0 h1
  refine ⟨left, Ev.step (fun k => by rw [laws_szTreeS.l0]) (ev_if_neg (by omega) (Ev.now _)), fun _ => ⟨by omega, ?_⟩⟩
  rw [List.drop_of_length_le (by omega)]
  simp
 | succ d ih =>
  intro i left hi hd h0 h1
  have hi' : i < l.length := by omega
  obtain ⟨q, e, hq⟩ := hs l[i] (List.getElem_mem hi') left h0 h1
  by_cases c : q < 0
  ·refine ⟨-1, Ev.step (fun k => by rw [laws_szTreeS.l0]) ?_, fun h => absurd h (by decide)⟩
   rw [rd_T25_get l i hi']
   exact ev_if_pos (by omega) (ev_if_pos (by omega) (Ev.bind e (ev_if_pos c (Ev.now _))))
  ·obtain ⟨q1, q2⟩ := hq (by omega)
   obtain ⟨r, er, hr⟩ := ih (i + 1) q (by omega) (by omega) (by omega) (by omega)
   refine ⟨r, Ev.step (fun k => by rw [laws_szTreeS.l0]) ?_, fun h => ?_⟩
   ·unfold maxLen at hl
    rw [rd_T25_get l i hi', w64 (x := (i : Int) + 1) (by omega) (by omega)]
    refine ev_if_pos (by omega) (ev_if_pos (by omega) (Ev.bind e (ev_if_neg c ?_)))
    rw [Int.natCast_add, Int.natCast_one] at er
    exact er
   ·obtain ⟨h2, h3⟩ := hr h
    refine ⟨by omega, fun x hx => ?_⟩
    rw [List.drop_eq_getElem_cons hi'] at hx
    rcases List.mem_cons.1 hx with rfl | hx
    ·exact q2
    ·exact h3 x hx
theorem szTree_ev {t : S25} (h : okS25 t) : ∀ left : Int, 0 ≤ left → left ≤ 1048576 → ∃ r, Ev (fun k => laws_szTree.f k t.f0 t.f1 t.f2 t.f3 left) r ∧ (0 ≤ r → r ≤ left ∧ FitT t) := by
 induction h with
 | mk t h0 _ _ h3 g3 ih =>
  intro left l0 l1
  obtain ⟨q, e, hq⟩ := szByteS_eq t.f0 left l0 l1 h0.1
  by_cases c : q < 0
  ·exact ⟨-1, Ev.step (fun k => by rw [laws_szTree.f]) (ev_bind_eq e (ev_if_pos c (Ev.now _))), fun h => absurd h (by decide)⟩
  ·obtain ⟨q1, q2⟩ := hq (by omega)
   have hl' := h3
   unfold maxLen at hl'
   have key : ∃ r, Ev (fun k => laws_szTreeS.f k t.f3 q) r ∧ (0 ≤ r → r ≤ q ∧ (t.f3.length : Int) ≤ q ∧ ∀ x ∈ t.f3, FitT x) := by
    by_cases c2 : q - (t.f3.length : Int) < 0
    ·refine ⟨-1, Ev.step (fun k => by rw [laws_szTreeS.f]) ?_, fun h => absurd h (by decide)⟩
     rw [w64 (x := q - (t.f3.length : Int)) (by omega) (by omega)]
     exact ev_if_pos c2 (Ev.now _)
    ·obtain ⟨r, er, hr⟩ := szTreeS_loop t.f3 h3 (fun x hx left a b => ih x hx left a b) t.f3.length 0 (q - (t.f3.length : Int)) (by omega) (by omega) (by omega) (by omega)
     refine ⟨r, Ev.step (fun k => by rw [laws_szTreeS.f]) ?_, fun h => ?_⟩
     ·rw [w64 (x := q - (t.f3.length : Int)) (by omega) (by omega)]
      exact ev_if_neg c2 er
     ·obtain ⟨a, b⟩ := hr h
      exact ⟨by omega, by omega, by simpa using b⟩
   obtain ⟨r, er, hr⟩ := key
   by_cases c3 : r < 0
   ·exact ⟨-1, Ev.step (fun k => by rw [laws_szTree.f]) (ev_bind_eq e (ev_if_neg c (Ev.bind er (ev_if_pos c3 (Ev.now _))))), fun h => absurd h (by decide)⟩
   ·refine ⟨r, Ev.step (fun k => by rw [laws_szTree.f]) (ev_bind_eq e (ev_if_neg c (Ev.bind er (ev_if_neg c3 (Ev.now _))))), fun h => ?_⟩
    obtain ⟨a, b, g⟩ := hr h
    exact ⟨by omega, FitT.mk t (by omega) (by omega) g⟩
-- treeto.lean: a tree's copy, and its comparison with itself
theorem toTreeS_loop (l : List S25) (hn : l.length ≤ 1048576) (hk : ∀ x ∈ l, Ev (fun k => laws_toTree.f k x.f0 x.f1 x.f2 x.f3) (x.f0, x.f1, x.f2, x.f3.map cvTree)) (d : Nat) : ∀ (i : Nat), i ≤ l.length → l.length - i = d →
  Ev (fun k => laws_toTreeS.l0 k l ((l.take i).map cvTree ++ List.replicate (l.length - i) z30) (i : Int)) (l.map cvTree) := by
 induction d with
 | zero =>
  intro i hi hd
  refine Ev.step (fun k => by rw [laws_toTreeS.l0]) (ev_if_neg (by omega) (ev_done ?_))
  rw [hd, List.replicate_zero, List.append_nil, List.take_of_length_le (by omega)]
 | succ d ih =>
  intro i hi hd
  have hi' : i < l.length := by omega
  have hm := hk l[i] (List.getElem_mem hi')
  have h := ih (i + 1) (by omega) (by omega)
  refine Ev.step (fun k => by rw [laws_toTreeS.l0]) ?_
  rw [rd_T25_get l i hi', w64 (x := (i : Int) + 1) (by omega) (by omega)]
  refine ev_if_pos (by omega) (ev_if_pos (by omega) (Ev.bind hm ?_))
  refine ev_if_pos (by rw [List.length_append, List.length_map, List.length_take, List.length_replicate]; omega) ?_
  dsimp only
  rw [← cvTree_eq l[i]]
  rw [Int.natCast_add, Int.natCast_one] at h
  have hs : ((l.take i).map cvTree ++ List.replicate (l.length - i) z30).set ((i : Int).toNat) (cvTree l[i]) = (l.take (i + 1)).map cvTree ++ List.replicate (l.length - (i + 1)) z30 := by
   rw [Int.toNat_natCast, List.set_append_right _ _ (by rw [List.length_map, List.length_take]; omega), List.length_map, List.length_take, Nat.min_eq_left hi, Nat.sub_self,
    show l.length - i = (l.length - (i + 1)) + 1 by omega, List.replicate_succ, List.set_cons_zero, List.take_succ_eq_append_getElem hi', List.map_append, List.append_assoc]
   rfl
  rw [← hs] at h
  exact h
theorem toTree_ev0 {t : S25} (h : FitT t) : Ev (fun k => laws_toTree.f k t.f0 t.f1 t.f2 t.f3) (t.f0, t.f1, t.f2, t.f3.map cvTree) := by
 induction h with
 | mk t h0 h3 hk ih =>
  have key : Ev (fun k => laws_toTreeS.f k t.f3) (t.f3.map cvTree) := by
   have h := toTreeS_loop t.f3 h3 ih t.f3.length 0 (by omega) (by omega)
   rw [List.take_zero, List.map_nil, List.nil_append, Nat.sub_zero] at h
   refine Ev.step (fun k => by rw [laws_toTreeS.f]) ?_
   refine ev_if_pos (by omega) (ev_if_pos (by omega) ?_)
   rw [Int.toNat_natCast]
   exact h
  refine Ev.step (fun k => by rw [laws_toTree.f]) ?_
  refine Ev.bind (toByteS_ev t.f0 (by omega)) ?_
  refine Ev.bind key ?_
  exact Ev.now _
theorem toTree_ev {t : S25} (h : FitT t) : Ev (fun k => laws_toTree.f k t.f0 t.f1 t.f2 t.f3) ((cvTree t).f0, (cvTree t).f1, (cvTree t).f2, (cvTree t).f3) := by
 rw [cvTree_eq]
 exact toTree_ev0 h
end Go.Proofs.Ytoaddpfoecggpaa.Pure
