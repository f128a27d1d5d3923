import Derived.Test.YtmfedjoofnlncaaPTx0
import Derived.Test.YtmfedjoofnlncaaPTx1
import Derived.Test.YtmfedjoofnlncaaPTx10
import Derived.Test.YtmfedjoofnlncaaPTx11
import Derived.Test.YtmfedjoofnlncaaPTx12
import Derived.Test.YtmfedjoofnlncaaPTx13
import Derived.Test.YtmfedjoofnlncaaPTx14
import Derived.Test.YtmfedjoofnlncaaPTx15
import Derived.Test.YtmfedjoofnlncaaPTx16
import Derived.Test.YtmfedjoofnlncaaPTx17
import Derived.Test.YtmfedjoofnlncaaPTx2
import Derived.Test.YtmfedjoofnlncaaPTx3
import Derived.Test.YtmfedjoofnlncaaPTx4
import Derived.Test.YtmfedjoofnlncaaPTx5
import Derived.Test.YtmfedjoofnlncaaPTx6
import Derived.Test.YtmfedjoofnlncaaPTx7
import Derived.Test.YtmfedjoofnlncaaPTx8
import Derived.Test.YtmfedjoofnlncaaPTx9
import Derived.Lib.Bytes
namespace Go.Proofs.Ytmfedjoofnlncaa.Pure
open Go.RowKit Go.Proofs.Ytmfedjoofnlncaa.PT Go.Proofs.YtmfedjoofnlncaaW.PrintWords Go.Proofs.YtmfedjoofnlncaaW.PrintLast Go.Proofs.YtmfedjoofnlncaaW.PrintMore
set_option linter.unusedVariables false
set_option linter.unusedSimpArgs false
theorem sj {x : Int} (h0 : -9223372036854775808 ≤ x) (h1 : x ≤ 9223372036854775807) : wrap64 x = x := by
 unfold wrap64
 omega
theorem aa {α : Type} {c : Prop} [Decidable c] {g f : Nat → Option α} {r : α} (h : c) (k : Ev g r) : Ev (fun n => if c then g n else f n) r := by
 simp only [if_pos h]
 exact k
theorem az {α : Type} {c : Prop} [Decidable c] {g f : Nat → Option α} {r : α} (h : ¬ c) (k : Ev f r) : Ev (fun n => if c then g n else f n) r := by
 simp only [if_neg h]
 exact k
theorem bU {α β : Type} {g : Option α} {f : Nat → α → Option β} {a : α} {r : β} (h : g = some a) (k : Ev (fun n => f n a) r) : Ev (fun n => g.bind (f n)) r := by
 subst h
 exact k
theorem auA (l : List Int) (i : Nat) : rd l (i : Int) = l.getD i 0 := by
 unfold rd
 rw [Int.toNat_natCast]
theorem vK (l : List Int) (i : Nat) (h : i < l.length) : rd l (i : Int) = l[i] := by
 rw [auA, List.getD_eq_getElem?_getD, List.getElem?_eq_getElem h]
 rfl
theorem Es {α : Type} (x l : List α) (i : Nat) (v : α) (hx : i < x.length) (hl : i < l.length) (h : x.take i = l.take i) (hv : v = l[i]) : (x.set i v).take (i + 1) = l.take (i + 1) := by
 rw [List.take_succ_eq_append_getElem (by simpa using hx), List.take_succ_eq_append_getElem hl, List.take_set_of_le (Nat.le_refl i), h, List.getElem_set_self, hv]
theorem ES {α : Type} {x l : List α} {n : Nat} (hx : x.length = n) (hl : l.length = n) (h : x.take n = l.take n) : x = l := by
 rw [List.take_of_length_le (by omega), List.take_of_length_le (by omega)] at h
 exact h
def marks (k : Int) (n : Nat) : List Int := (List.range n).map fun (j : Nat) => (k + (j : Int)) % 256
theorem uK (k : Int) (n : Nat) : (marks k n).length = n := by simp [marks]
theorem QD (k : Int) (n i : Nat) (h : i < (marks k n).length) : (marks k n)[i] = (k + (i : Int)) % 256 := by simp [marks]
theorem wf_u8 {n : Int} (h : (Lit.int .u8 n).wf = true) : 0 ≤ n ∧ n ≤ 255 := by
 simp [Lit.wf, IntKind.min, IntKind.max, IntKind.signed, IntKind.bits] at h
 omega
theorem jv {α : Type} {c : Prop} [Decidable c] {g f : Nat → Option α} {r : α} (h : c → Ev g r) (h' : ¬ c → Ev f r) : Ev (fun n => if c then g n else f n) r := by
 by_cases hc : c
 ·exact aa hc (h hc)
 ·exact az hc (h' hc)
theorem uL {α : Type} {a b : α} (h : a = b) : Ev (fun _ => some a) b := h ▸ Ev.now a
theorem ape {α : Type} {g : Nat → Option α} {a b : α} (h : Ev g a) (e : a = b) : Ev g b := e ▸ h
-- bytes.lean: the law package's helpers on bytes
theorem UC (l : List Int) (hn : l.length ≤ 140737488351232) (d : Nat) : ∀ (x : List Int) (i : Nat), x.length = l.length → i ≤ l.length → l.length - i = d → x.take i = l.take i → Ev (fun k => fO.l0 k l x (i : Int)) l := by
 induction d with
 | zero =>
  intro x i hx hi hd ht
  refine Ev.step (fun k => by rw [fO.l0]) ?_
  refine az (by omega) ?_
  obtain rfl : i = l.length := by omega
  rw [ES hx rfl ht]
  exact Ev.now _
 | succ d ih =>
  intro x i hx hi hd ht
  refine Ev.step (fun k => by rw [fO.l0]) ?_
  refine aa (by omega) (aa (by omega) (aa (by omega) ?_))
  have h := ih (x.set i (rd l (i : Int))) (i + 1) (by rw [List.length_set]; exact hx) (by omega) (by omega) (Es x l i _ (by omega) (by omega) ht (vK l i (by omega)))
  rw [sj (by omega) (by omega), Int.toNat_natCast]
  rw [Int.natCast_add, Int.natCast_one] at h
  exact h
theorem ET (l : List Int) (hn : l.length ≤ 140737488351232) : Ev (fun k => fO.f k l) l := by
 unfold fO.f
 refine aa (by omega) (aa (by omega) ?_)
 exact UC l hn l.length _ 0 (by rw [List.length_replicate, Int.toNat_natCast]) (by omega) (by omega) rfl
theorem UD (a b : List Int) (hn : a.length ≤ 140737488351232) (hab : a.length = b.length) (d : Nat) : ∀ (i : Nat), i ≤ a.length → a.length - i = d → a.take i = b.take i → Ev (fun k => cZ.l0 k a b (i : Int)) (decide (a = b)) := by
 induction d with
 | zero =>
  intro i hi hd ht
  refine Ev.step (fun k => by rw [cZ.l0]) ?_
  refine az (by omega) ?_
  obtain rfl : i = a.length := by omega
  rw [decide_eq_true (ES rfl hab.symm ht)]
  exact Ev.now _
 | succ d ih =>
  intro i hi hd ht
  refine Ev.step (fun k => by rw [cZ.l0]) ?_
  refine aa (by omega) (aa (by omega) (aa (by omega) ?_))
  by_cases e : rd a (i : Int) = rd b (i : Int)
  ·refine aa e ?_
   have h := ih (i + 1) (by omega) (by omega) (by
    rw [vK a i (by omega), vK b i (by omega)] at e
    rw [List.take_succ_eq_append_getElem (by omega), List.take_succ_eq_append_getElem (by omega), ht, e])
   rw [sj (by omega) (by omega)]
   rw [Int.natCast_add, Int.natCast_one] at h
   exact h
  ·refine az e ?_
   rw [decide_eq_false (fun h => e (by rw [h]))]
   exact Ev.now _
theorem aaq (a b : List Int) (hn : a.length ≤ 140737488351232) : Ev (fun k => cZ.f k a b) (decide (a = b)) := by
 by_cases hab : a.length = b.length
 ·unfold cZ.f
  refine aa (by omega) ?_
  exact UD a b hn hab a.length 0 (by omega) (by omega) rfl
 ·unfold cZ.f
  refine az (by omega) ?_
  rw [decide_eq_false (fun h => hab (by rw [h]))]
  exact Ev.now _
theorem yf (a : List Int) (hn : a.length ≤ 140737488351232) : Ev (fun k => cZ.f k a a) true := by
 have h := aaq a a hn
 rw [decide_eq_true rfl] at h
 exact h
-- loops.lean: loops that copy, compare, weigh
theorem DI {α β : Type} (l : List α) (cv : α → β) (z : β) (L : Nat → List β → Int → Option (List β)) (h0 : ∀ x, Ev (fun k => L k x (l.length : Int)) x)
  (h1 : ∀ i, (hi : i < l.length) → ∀ x : List β, x.length = l.length → ∀ r, Ev (fun k => L k (x.set i (cv l[i])) ((i + 1 : Nat) : Int)) r → Ev (fun k => L k x (i : Int)) r) : Ev (fun k => L k (List.replicate l.length z) 0) (l.map cv) := by
 have key : ∀ d i, i ≤ l.length → l.length - i = d → Ev (fun k => L k ((l.take i).map cv ++ List.replicate (l.length - i) z) (i : Int)) (l.map cv) := by
  intro d
  induction d with
  | zero =>
   intro i hi hd
   have : i = l.length := by omega
   subst this
   have e := h0 ((l.take l.length).map cv ++ List.replicate (l.length - l.length) z)
   rw [Nat.sub_self, List.replicate_zero, List.append_nil, List.take_length] at e ⊢
   exact e
  | succ d ih =>
   intro i hi hd
   have hi' : i < l.length := by omega
   have h := ih (i + 1) (by omega) (by omega)
   refine h1 i hi' _ (by rw [List.length_append, List.length_map, List.length_take, List.length_replicate]; omega) _ ?_
   have hs : ((l.take i).map cv ++ List.replicate (l.length - i) z).set i (cv l[i]) = (l.take (i + 1)).map cv ++ List.replicate (l.length - (i + 1)) z := by
    rw [List.set_append_right _ _ (by rw [List.length_map, List.length_take]; omega), List.length_map, List.length_take, Nat.min_eq_left hi, Nat.sub_self,
     show l.length - i = (l.length - (i + 1)) + 1 by omega, List.replicate_succ, List.set_cons_zero, List.take_succ_eq_append_getElem hi', List.map_append, List.append_assoc]
    rfl
   rw [hs]
   exact h
 have h := key l.length 0 (by omega) (by omega)
 rw [List.take_zero, List.map_nil, List.nil_append, Nat.sub_zero] at h
 exact h
theorem DJ {n : Nat} (L : Nat → Int → Option Bool) (h0 : Ev (fun k => L k (n : Int)) true) (h1 : ∀ i, i < n → Ev (fun k => L k ((i + 1 : Nat) : Int)) true → Ev (fun k => L k (i : Int)) true) : Ev (fun k => L k 0) true := by
 have key : ∀ d i, i ≤ n → n - i = d → Ev (fun k => L k (i : Int)) true := by
  intro d
  induction d with
  | zero =>
   intro i hi hd
   have : i = n := by omega
   subst this
   exact h0
  | succ d ih =>
   intro i hi hd
   exact h1 i (by omega) (ih (i + 1) (by omega) (by omega))
 exact key n 0 (by omega) (by omega)
theorem QE {α : Type} (l : List α) (fit : α → Prop) (wt : α → Nat) (L : Nat → Int → Int → Option Int) (h0 : ∀ left, Ev (fun k => L k left (l.length : Int)) left)
  (h1 : ∀ i, (hi : i < l.length) → ∀ left : Int, 0 ≤ left → left ≤ 1048576 → (∃ q : Int, 0 ≤ q ∧ q + (wt l[i] : Int) = left ∧ fit l[i] ∧ ∀ r, Ev (fun k => L k q ((i + 1 : Nat) : Int)) r → Ev (fun k => L k left (i : Int)) r) ∨ Ev (fun k => L k left (i : Int)) (-1))
  (left : Int) (l0 : 0 ≤ left) (l1 : left ≤ 1048576) : ∃ r, Ev (fun k => L k left 0) r ∧ (0 ≤ r → r + (((l.map wt).sum : Nat) : Int) = left ∧ ∀ x ∈ l, fit x) := by
 have key : ∀ d i, i ≤ l.length → l.length - i = d → ∀ left : Int, 0 ≤ left → left ≤ 1048576 → ∃ r, Ev (fun k => L k left (i : Int)) r ∧ (0 ≤ r → r + ((((l.drop i).map wt).sum : Nat) : Int) = left ∧ ∀ x ∈ l.drop i, fit x) := by
  intro d
  induction d with
  | zero =>
   intro i hi hd left _ _
   have : i = l.length := by omega
   subst this
   refine ⟨left, h0 left, fun _ => ?_⟩
   rw [List.drop_length]
   simp
  | succ d ih =>
   intro i hi hd left a b
   have hi' : i < l.length := by omega
   rcases h1 i hi' left a b with ⟨q, q0, q1, q2, q3⟩ | e
   ·obtain ⟨r, er, hr⟩ := ih (i + 1) (by omega) (by omega) q q0 (by omega)
    refine ⟨r, q3 r er, fun h => ?_⟩
    obtain ⟨x1, x2⟩ := hr h
    rw [List.drop_eq_getElem_cons hi', List.map_cons, List.sum_cons]
    refine ⟨by omega, fun x hx => ?_⟩
    rcases List.mem_cons.1 hx with rfl | hx
    ·exact q2
    ·exact x2 x hx
   ·exact ⟨-1, e, fun h => absurd h (by decide)⟩
 have h := key l.length 0 (by omega) (by omega) left l0 l1
 rw [List.drop_zero] at h
 exact h
-- sizes.lean: how much an argument holds
theorem CR (l : List Int) (left : Int) (h0 : 0 ≤ left) (h1 : left ≤ 1048576) (hl : l.length ≤ maxLen) : ∃ r, iV.f l left = some r ∧ (0 ≤ r → r + (l.length : Int) = left) := by
 unfold iV.f
 unfold maxLen at hl
 rw [sj (by omega) (by omega)]
 by_cases c : left - (l.length : Int) < 0
 ·rw [if_pos c]
  exact ⟨-1, rfl, fun h => absurd h (by decide)⟩
 ·rw [if_neg c]
  exact ⟨_, rfl, fun _ => by omega⟩
-- bytesp.lean: lists of bytes
def Bytes (l : List Int) : Prop := ∀ x ∈ l, (Lit.int .u8 x).wf = true
-- cmps.lean: rows of bytes compared
theorem Jg (a : List Int) : aA.cmp a a = 0 := by
 induction a with
 | nil => rfl
 | cons x xs ih => rw [aA.cmp, if_neg (by omega), if_neg (by omega), ih]
theorem Xb : ∀ a b : List Int, aA.cmp a b = 0 → a = b
 | [], [], _ => rfl
 | [], _ :: _, h => by rw [aA.cmp] at h; omega
 | _ :: _, [], h => by rw [aA.cmp] at h; omega
 | x :: xs, y :: ys, h => by
  rw [aA.cmp] at h
  by_cases c1 : x < y
  ·rw [if_pos c1] at h; omega
  by_cases c2 : y < x
  ·rw [if_neg c1, if_pos c2] at h; omega
  rw [if_neg c1, if_neg c2] at h
  rw [Xb xs ys h, show x = y by omega]
theorem Ar : ∀ a b c : List Int, aA.cmp a b < 0 → aA.cmp b c < 0 → aA.cmp a c < 0
 | [], [], _, h, _ => by rw [aA.cmp] at h; omega
 | _ :: _, [], _, h, _ => by rw [aA.cmp] at h; omega
 | [], _ :: _, [], _, h => by rw [aA.cmp] at h; omega
 | [], _ :: _, _ :: _, _, _ => by rw [aA.cmp]; omega
 | _ :: _, _ :: _, [], _, h => by rw [aA.cmp] at h; omega
 | x :: xs, y :: ys, z :: zs, h1, h2 => by
  rw [aA.cmp] at h1 h2 ⊢
  by_cases c1 : x < y
  ·by_cases d1 : y < z
   ·rw [if_pos (by omega)]; omega
   ·by_cases d2 : z < y
    ·rw [if_neg d1, if_pos d2] at h2; omega
    ·rw [if_pos (by omega)]; omega
  ·by_cases c2 : y < x
   ·rw [if_neg c1, if_pos c2] at h1; omega
   ·rw [if_neg c1, if_neg c2] at h1
    by_cases d1 : y < z
    ·rw [if_pos (by omega)]; omega
    ·by_cases d2 : z < y
     ·rw [if_neg d1, if_pos d2] at h2; omega
     ·rw [if_neg d1, if_neg d2] at h2
      rw [if_neg (by omega), if_neg (by omega)]
      exact Ar xs ys zs h1 h2
theorem Bt (p a b : List Int) : aA.cmp (p ++ a) (p ++ b) = aA.cmp a b := by
 induction p with
 | nil => rfl
 | cons x xs ih => rw [List.cons_append, List.cons_append, aA.cmp, if_neg (by omega), if_neg (by omega), ih]
theorem aar (p s : List Int) (h : 0 < s.length) : aA.cmp p (p ++ s) < 0 := by
 have e := Bt p [] s
 rw [List.append_nil] at e
 rw [e]
 cases s with
 | nil => simp at h
 | cons x xs => rw [aA.cmp]; omega
theorem wB (a b : List Int) (ha : Bytes a) (hb : Bytes b) : aA.f a b = some (aA.cmp a b) := by
 unfold aA.f
 rw [if_pos ⟨fun x hx => wf_u8 (ha x hx), fun x hx => wf_u8 (hb x hx)⟩]
-- keyok.lean: what a key is
def sM (c : Int) : Bool := decide ((97 ≤ c ∧ c ≤ 122) ∨ c = 47)
def CS (l : List Int) : Bool := decide (1 ≤ l.length ∧ l.length ≤ 20) && l.all sM
theorem drop_cons (l : List Int) (i : Nat) (h : i < l.length) : l.drop i = rd l (i : Int) :: l.drop (i + 1) := by
 rw [vK l i h]
 exact List.drop_eq_getElem_cons h
theorem UE (l : List Int) (hn : l.length ≤ 140737488351232) (d : Nat) : ∀ (i : Nat), i ≤ l.length → l.length - i = d → Ev (fun k => fD.l0 k l (i : Int)) ((l.drop i).all sM) := by
 induction d with
 | zero =>
  intro i hi hd
  refine Ev.step (fun k => by rw [fD.l0]) ?_
  refine az (by omega) ?_
  rw [List.drop_of_length_le (by omega)]
  exact Ev.now _
 | succ d ih =>
  intro i hi hd
  have h := ih (i + 1) (by omega) (by omega)
  rw [Int.natCast_add, Int.natCast_one] at h
  rw [drop_cons l i (by omega), List.all_cons]
  refine Ev.step (fun k => by rw [fD.l0]) ?_
  rw [sj (by omega) (by omega)]
  refine aa (by omega) (aa (by omega) ?_)
  by_cases c1 : rd l (i : Int) < 97
  ·refine aa c1 ?_
   by_cases c2 : rd l (i : Int) = 47
   ·refine aa c2 ?_
    rw [show sM (rd l (i : Int)) = true from decide_eq_true (.inr c2), Bool.true_and]
    exact h
   ·refine az c2 ?_
    rw [show sM (rd l (i : Int)) = false from decide_eq_false (by omega), Bool.false_and]
    exact Ev.now _
  ·refine az c1 ?_
   by_cases c3 : rd l (i : Int) > 122
   ·refine aa c3 ?_
    refine az (by omega) ?_
    rw [show sM (rd l (i : Int)) = false from decide_eq_false (by omega), Bool.false_and]
    exact Ev.now _
   ·refine az c3 ?_
    rw [show sM (rd l (i : Int)) = true from decide_eq_true (by omega), Bool.true_and]
    exact h
theorem OG (l : List Int) (hn : l.length ≤ 140737488351232) : Ev (fun k => fD.f k l) (CS l) := by
 unfold fD.f
 by_cases c : (l.length : Int) < 1
 ·refine aa c ?_
  refine Ev.step (fun k => by rw [fD.j0]) ?_
  refine aa rfl ?_
  rw [show CS l = false from by unfold CS; rw [decide_eq_false (by omega), Bool.false_and]]
  exact Ev.now _
 ·refine az c ?_
  refine Ev.step (fun k => by rw [fD.j0]) ?_
  by_cases c2 : (l.length : Int) > 20
  ·refine aa (decide_eq_true c2) ?_
   rw [show CS l = false from by unfold CS; rw [decide_eq_false (by omega), Bool.false_and]]
   exact Ev.now _
  ·refine az (by rw [decide_eq_false c2]; decide) ?_
   rw [show CS l = l.all sM from by unfold CS; rw [decide_eq_true (by omega), Bool.true_and]]
   exact UE l hn l.length 0 (by omega) (by omega)
theorem UF (l : List Int) (hn : l.length ≤ 140737488351232) (d : Nat) : ∀ (i : Nat), i ≤ l.length → l.length - i = d → Ev (fun k => gL.l0 k l l (l.length : Int) (i : Int)) (decide (1 ≤ l.length ∧ l.length ≤ 20) && (l.drop i).all sM) := by
 induction d with
 | zero =>
  intro i hi hd
  refine Ev.step (fun k => by rw [gL.l0]) ?_
  refine az (by omega) ?_
  rw [List.drop_of_length_le (by omega), List.all_nil, Bool.and_true]
  unfold dw.f
  by_cases c : 1 ≤ (l.length : Int)
  ·rw [if_pos c, decide_eq_decide.mpr (show (1 ≤ l.length ∧ l.length ≤ 20) ↔ ((l.length : Int) ≤ 20) by omega)]
   exact Ev.now _
  ·rw [if_neg c, decide_eq_false (by omega)]
   exact Ev.now _
 | succ d ih =>
  intro i hi hd
  have h := ih (i + 1) (by omega) (by omega)
  rw [Int.natCast_add, Int.natCast_one] at h
  rw [drop_cons l i (by omega), List.all_cons]
  refine Ev.step (fun k => by rw [gL.l0]) ?_
  rw [sj (by omega) (by omega)]
  refine aa (by omega) (aa (by omega) (aa (by omega) ?_))
  by_cases c1 : rd l (i : Int) < 97
  ·refine aa c1 ?_
   by_cases c2 : rd l (i : Int) = 47
   ·refine aa c2 ?_
    rw [show sM (rd l (i : Int)) = true from decide_eq_true (.inr c2), Bool.true_and]
    exact h
   ·refine az c2 ?_
    rw [show sM (rd l (i : Int)) = false from decide_eq_false (by omega), Bool.false_and, Bool.and_false]
    exact Ev.now _
  ·refine az c1 ?_
   by_cases c3 : rd l (i : Int) > 122
   ·refine aa c3 ?_
    refine az (by omega) ?_
    rw [show sM (rd l (i : Int)) = false from decide_eq_false (by omega), Bool.false_and, Bool.and_false]
    exact Ev.now _
   ·refine az c3 ?_
    rw [show sM (rd l (i : Int)) = true from decide_eq_true (by omega), Bool.true_and]
    exact h
theorem OH (l : List Int) (hn : l.length ≤ 140737488351232) : Ev (fun k => gL.f k l) (CS l) :=
 UF l hn l.length 0 (by omega) (by omega)
-- half.lean: the middle of two places
theorem am' (i j : Nat) (h : i + j ≤ 1000000) : wrap64 ((IntKind.u64.wrap (wrap64 ((i : Int) + (j : Int)))) / 2) = (((i + j) / 2 : Nat) : Int) := by
 rw [sj (x := (i : Int) + (j : Int)) (by omega) (by omega)]
 have e : IntKind.u64.wrap ((i : Int) + (j : Int)) = (i : Int) + (j : Int) := by
  simp [IntKind.wrap, IntKind.signed, IntKind.bits]
  omega
 rw [e, sj (by omega) (by omega)]
 omega
-- statev.lean: what a valid state is; loops that hold a test at every place
theorem yO {L : Nat → Nat → Option Bool} (n : Nat) (P : Nat → Prop) (R : Prop) (hend : ∃ b, Ev (fun k => L k n) b ∧ (b = true ↔ R))
  (hstep : ∀ i, i < n → (∀ j, j < i → P j) → (P i ∧ ∀ b, Ev (fun k => L k (i + 1)) b → Ev (fun k => L k i) b) ∨ (¬ P i ∧ Ev (fun k => L k i) false)) (d : Nat) :
  ∀ i, i ≤ n → n - i = d → (∀ j, j < i → P j) → ∃ b, Ev (fun k => L k i) b ∧ (b = true ↔ ((∀ j, j < n → P j) ∧ R)) := by
 induction d with
 | zero =>
  intro i hi hd hp
  obtain rfl : i = n := by omega
  obtain ⟨b, e, h⟩ := hend
  exact ⟨b, e, h.trans ⟨fun r => ⟨hp, r⟩, fun r => r.2⟩⟩
 | succ d ih =>
  intro i hi hd hp
  rcases hstep i (by omega) hp with ⟨p, next⟩ | ⟨p, e⟩
  ·obtain ⟨b, e, h⟩ := ih (i + 1) (by omega) (by omega) (fun j hj => by
    rcases Nat.lt_or_ge j i with z | z
    ·exact hp j z
    ·have : j = i := by omega
     subst this
     exact p)
   exact ⟨b, next b e, h⟩
  ·exact ⟨false, e, ⟨fun h => absurd h (by simp), fun h => absurd (h.1 i (by omega)) p⟩⟩
theorem aft {L : Nat → Nat → Option Bool} (n : Nat) (P : Nat → Prop) (R : Prop) (hend : (∀ j, j < n → P j) → ∃ b, Ev (fun k => L k n) b ∧ (b = true ↔ R))
  (hstep : ∀ i, i < n → (∀ j, j < i → P j) → (P i ∧ ∀ b, Ev (fun k => L k (i + 1)) b → Ev (fun k => L k i) b) ∨ (¬ P i ∧ Ev (fun k => L k i) false)) (d : Nat) :
  ∀ i, i ≤ n → n - i = d → (∀ j, j < i → P j) → ∃ b, Ev (fun k => L k i) b ∧ (b = true ↔ ((∀ j, j < n → P j) ∧ R)) := by
 induction d with
 | zero =>
  intro i hi hd hp
  obtain rfl : i = n := by omega
  obtain ⟨b, e, h⟩ := hend hp
  exact ⟨b, e, h.trans ⟨fun r => ⟨hp, r⟩, fun r => r.2⟩⟩
 | succ d ih =>
  intro i hi hd hp
  rcases hstep i (by omega) hp with ⟨p, next⟩ | ⟨p, e⟩
  ·obtain ⟨b, e, h⟩ := ih (i + 1) (by omega) (by omega) (fun j hj => by
    rcases Nat.lt_or_ge j i with z | z
    ·exact hp j z
    ·have : j = i := by omega
     subst this
     exact p)
   exact ⟨b, next b e, h⟩
  ·exact ⟨false, e, ⟨fun h => absurd h (by simp), fun h => absurd (h.1 i (by omega)) p⟩⟩
theorem Bu (l : List kG) (i : Nat) (h : i < l.length) : ax l (i : Int) ∈ l := by
 unfold ax
 rw [Int.toNat_natCast]
 simp [List.getD, h]
theorem OI (l : List lQ) (i : Nat) (h : i < l.length) : bu l (i : Int) ∈ l := by
 unfold bu
 rw [Int.toNat_natCast]
 simp [List.getD, h]
theorem qm (l : List kG) (i : Nat) (h : i < l.length) : ax l (i : Int) = l[i] := by
 unfold ax
 rw [Int.toNat_natCast]
 simp [List.getD, h]
theorem OJ (l : List lQ) (i : Nat) (h : i < l.length) : bu l (i : Int) = l[i] := by
 unfold bu
 rw [Int.toNat_natCast]
 simp [List.getD, h]
theorem KP (l : List l7) (i : Nat) (h : i < l.length) : bS l (i : Int) = l[i] := by
 unfold bS
 rw [Int.toNat_natCast]
 simp [List.getD, h]
theorem aas (l : List mE) (i : Nat) (h : i < l.length) : bn l (i : Int) = l[i] := by
 unfold bn
 rw [Int.toNat_natCast]
 simp [List.getD, h]
def yP (id : Int) : List l7 → Int → Int
 | [], _ => -1
 | x :: xs, i => if x.f0 = id then i else yP id xs (i + 1)
def BL (key : List Int) : List lQ → Int → Int
 | [], _ => -1
 | x :: xs, i => if x.f0 = key then i else BL key xs (i + 1)
def EU (idx : Int) (sess : List l7) (rows : List kG) (i : Nat) : Prop :=
 CS (ax rows i).f0 = true ∧ (ax rows i).f1.length ≤ 20 ∧ 1 ≤ (ax rows i).f2 ∧ (ax rows i).f2 ≤ idx ∧ ((ax rows i).f3 = 0 ∨ ¬ yP (ax rows i).f3 sess 0 < 0) ∧ (0 < i → aA.cmp (ax rows ((i : Int) - 1)).f0 (ax rows i).f0 < 0)
def Jh (idx lost : Int) (rows : List kG) (tombs : List lQ) (i : Nat) : Prop :=
 CS (bu tombs i).f0 = true ∧ (∀ r ∈ rows, r.f0 ≠ (bu tombs i).f0) ∧ BL (bu tombs i).f0 tombs 0 = (i : Int) ∧ 1 ≤ (bu tombs i).f1 ∧ (bu tombs i).f1 ≤ idx ∧ lost ≤ (bu tombs i).f1 ∧ (0 < i → (bu tombs ((i : Int) - 1)).f1 ≤ (bu tombs i).f1)
def Au (idx : Int) (sess : List l7) (i : Nat) : Prop :=
 1 ≤ (bS sess i).f0 ∧ (bS sess i).f0 ≤ idx ∧ (0 < i → (bS sess ((i : Int) - 1)).f0 < (bS sess i).f0)
def yQ (idx : Int) (lasts : List mE) (i : Nat) : Prop :=
 0 ≤ (bn lasts i).f0 ∧ (bn lasts i).f0 ≤ 3 ∧ 1 ≤ (bn lasts i).f1 ∧ (bn lasts i).f1 ≤ 1000000 ∧ 0 ≤ (bn lasts i).f2.f0 ∧ (bn lasts i).f2.f0 ≤ 5 ∧ 1 ≤ (bn lasts i).f2.f1 ∧ (bn lasts i).f2.f1 ≤ idx ∧ (0 < i → (bn lasts ((i : Int) - 1)).f0 < (bn lasts i).f0)
def ai9 (idx : Int) (rows : List kG) (tombs : List lQ) (lost : Int) (sess : List l7) (lasts : List mE) : Prop :=
 (0 ≤ idx ∧ idx ≤ 1000000) ∧ (0 ≤ lost ∧ lost ≤ idx) ∧ rows.length ≤ 20 ∧ tombs.length ≤ 10 ∧ sess.length ≤ 8 ∧ lasts.length ≤ 4
def J7 (idx : Int) (rows : List kG) (tombs : List lQ) (lost : Int) (sess : List l7) (lasts : List mE) : Prop :=
 ai9 idx rows tombs lost sess lasts ∧ (∀ i, i < rows.length → EU idx sess rows i) ∧ (∀ i, i < tombs.length → Jh idx lost rows tombs i) ∧ (∀ i, i < sess.length → Au idx sess i) ∧ (∀ i, i < lasts.length → yQ idx lasts i)
def Bv (rows : List kG) : Prop := ∀ r ∈ rows, Bytes r.f0 ∧ Bytes r.f1
def uM (tombs : List lQ) : Prop := ∀ t ∈ tombs, Bytes t.f0
theorem ai_ {l : List Int} (h : CS l = true) : 1 ≤ l.length ∧ l.length ≤ 20 := by
 unfold CS at h
 rw [Bool.and_eq_true, decide_eq_true_iff] at h
 exact h.1
-- staterow.lean: the program's search for a row
def UG (l : List kG) : Prop := ∀ i j, (hi : i < l.length) → (hj : j < l.length) → i < j → aA.cmp l[i].f0 l[j].f0 < 0
theorem UH (l : List kG) (key : List Int) (hn : l.length ≤ 1000) (hb : ∀ x ∈ l, Bytes x.f0) (hk : Bytes key) (hs : UG l) (d : Nat) : ∀ (i j : Nat), i ≤ j → j ≤ l.length → j - i ≤ d →
  (∀ q, (h : q < l.length) → q < i → aA.cmp l[q].f0 key < 0) → (∀ q, (h : q < l.length) → j ≤ q → ¬ aA.cmp l[q].f0 key < 0) →
  ∃ p b, Ev (fun k => eT.l0 k l key (l.length : Int) (i : Int) (j : Int)) (((p : Nat) : Int), b) ∧ (b = true → ∃ h : p < l.length, l[p].f0 = key) ∧ (b = false → ∀ x ∈ l, x.f0 ≠ key) := by
 have fin : ∀ i : Nat, i ≤ l.length → (∀ q, (h : q < l.length) → q < i → aA.cmp l[q].f0 key < 0) → (∀ q, (h : q < l.length) → i ≤ q → ¬ aA.cmp l[q].f0 key < 0) →
   ∃ p b, Ev (fun k => eT.l0 k l key (l.length : Int) (i : Int) (i : Int)) (((p : Nat) : Int), b) ∧ (b = true → ∃ h : p < l.length, l[p].f0 = key) ∧ (b = false → ∀ x ∈ l, x.f0 ≠ key) := by
  intro i hi h1 h2
  by_cases c : i < l.length
  ·have hm := hb l[i] (List.getElem_mem c)
   refine ⟨i, (aA.cmp l[i].f0 key == 0), Ev.step (fun k => by rw [eT.l0]) (az (by omega) (aa (by omega) (aa (by omega) (aa (by omega) ?_)))), ?_, ?_⟩
   ·rw [qm l i c]
    unfold iH.f
    rw [wB _ _ hm hk]
    exact Ev.now _
   ·intro g
    exact ⟨c, Xb _ _ (by simpa using g)⟩
   ·intro g x hx e
    obtain ⟨q, hq, rfl⟩ := List.mem_iff_getElem.1 hx
    have gz : ¬ aA.cmp l[i].f0 key = 0 := by simpa using g
    rcases Nat.lt_trichotomy q i with z | z | z
    ·have := h1 q hq z
     rw [e, Jg] at this
     omega
    ·subst z
     rw [e, Jg] at gz
     exact gz rfl
    ·have a := hs i q c hq z
     rw [e] at a
     exact h2 i c (Nat.le_refl _) a
  ·refine ⟨i, false, Ev.step (fun k => by rw [eT.l0]) (az (by omega) (az (by omega) (Ev.now _))), fun g => absurd g (by simp), fun _ x hx e => ?_⟩
   obtain ⟨q, hq, rfl⟩ := List.mem_iff_getElem.1 hx
   have := h1 q hq (by omega)
   rw [e, Jg] at this
   omega
 induction d with
 | zero =>
  intro i j hij hj hd h1 h2
  have e : j = i := by omega
  subst e
  exact fin j hj h1 h2
 | succ d ih =>
  intro i j hij hj hd h1 h2
  by_cases c : i < j
  ·have hm : (i + j) / 2 < l.length := by omega
   have hmb := hb l[(i + j) / 2] (List.getElem_mem hm)
   have step : ∀ (R : Int × Bool), (if aA.cmp l[(i + j) / 2].f0 key < 0 then Ev (fun k => eT.l0 k l key (l.length : Int) (((i + j) / 2 + 1 : Nat) : Int) (j : Int)) R else Ev (fun k => eT.l0 k l key (l.length : Int) (i : Int) (((i + j) / 2 : Nat) : Int)) R) →
     Ev (fun k => eT.l0 k l key (l.length : Int) (i : Int) (j : Int)) R := by
    intro R h
    refine Ev.step (fun k => by rw [eT.l0]) ?_
    rw [am' i j (by omega), qm l _ hm, sj (x := (((i + j) / 2 : Nat) : Int) + 1) (by omega) (by omega)]
    refine aa (by omega) (aa (by omega) (aa (by omega) ?_))
    unfold iH.f
    rw [wB _ _ hmb hk]
    by_cases g : aA.cmp l[(i + j) / 2].f0 key < 0
    ·rw [if_pos g] at h
     rw [Int.natCast_add, Int.natCast_one] at h
     exact bU rfl (aa g h)
    ·rw [if_neg g] at h
     exact bU rfl (az g h)
   by_cases g : aA.cmp l[(i + j) / 2].f0 key < 0
   ·obtain ⟨p, b, e, r⟩ := ih ((i + j) / 2 + 1) j (by omega) hj (by omega) (fun q hq hqi => by
     rcases Nat.lt_or_ge q ((i + j) / 2) with z | z
     ·exact Ar _ _ _ (hs q ((i + j) / 2) hq hm z) g
     ·have z2 : q = (i + j) / 2 := by omega
      subst z2
      exact g) h2
    exact ⟨p, b, step _ (by rw [if_pos g]; exact e), r⟩
   ·obtain ⟨p, b, e, r⟩ := ih i ((i + j) / 2) (by omega) (by omega) (by omega) h1 (fun q hq hqi z => by
     rcases Nat.lt_or_ge ((i + j) / 2) q with z2 | z2
     ·exact g (Ar _ _ _ (hs ((i + j) / 2) q hm hq z2) z)
     ·have z3 : q = (i + j) / 2 := by omega
      subst z3
      exact g z)
    exact ⟨p, b, step _ (by rw [if_neg g]; exact e), r⟩
  ·have e : j = i := by omega
   subst e
   exact fin j hj h1 h2
theorem aat (idx : Int) (rows : List kG) (tombs : List lQ) (lost : Int) (sess : List l7) (lasts : List mE) (key : List Int) (hn : rows.length ≤ 1000) (hb : ∀ x ∈ rows, Bytes x.f0) (hk : Bytes key) (hs : UG rows) :
  ∃ p b, Ev (fun k => jE.f k idx rows tombs lost sess lasts key) (((p : Nat) : Int), b) ∧ (b = true → ∃ h : p < rows.length, rows[p].f0 = key) ∧ (b = false → ∀ x ∈ rows, x.f0 ≠ key) := by
 obtain ⟨p, b, e, r⟩ := UH rows key hn hb hk hs rows.length 0 rows.length (by omega) (Nat.le_refl _) (by omega) (fun q _ h => absurd h (by omega)) (fun q h h2 => absurd h (by omega))
 have e : Ev (fun k => eT.l0 k rows key (rows.length : Int) 0 (rows.length : Int)) (((p : Nat) : Int), b) := e
 refine ⟨p, b, ?_, r⟩
 unfold jE.f eT.f
 exact Ev.bind e (Ev.now _)
theorem aau (idx : Int) (sess : List l7) (rows : List kG) (h : ∀ i, i < rows.length → EU idx sess rows i) : UG rows := by
 have step : ∀ i, (hi : i + 1 < rows.length) → aA.cmp rows[i].f0 rows[i + 1].f0 < 0 := by
  intro i hi
  have := (h (i + 1) hi).2.2.2.2.2 (by omega)
  rw [qm rows (i + 1) hi, show (((i + 1 : Nat) : Int) - 1) = ((i : Nat) : Int) by omega, qm rows i (by omega)] at this
  exact this
 have far : ∀ d i, (hi : i + d + 1 < rows.length) → aA.cmp rows[i].f0 rows[i + d + 1].f0 < 0 := by
  intro d
  induction d with
  | zero => intro i hi; exact step i hi
  | succ d ih =>
   intro i hi
   exact Ar _ _ _ (ih i (by omega)) (step (i + d + 1) hi)
 intro i j hi hj hij
 have := far (j - i - 1) i (by omega)
 have e : i + (j - i - 1) + 1 = j := by omega
 simpa [e] using this
-- strs.lean: bytes as a string, compared
theorem Bw (a : List Int) : (strOfNums a).toList = a.map fun n => UInt8.ofNat n.toNat := Lib.strOfNums_toList a
theorem Xc {x y : Int} (h0 : 0 ≤ x) (h1 : x ≤ 255) (h2 : 0 ≤ y) (h3 : y ≤ 255) (h : UInt8.ofNat x.toNat = UInt8.ofNat y.toNat) : x = y := by
 have h4 := congrArg UInt8.toNat h
 simp at h4
 omega
theorem str_inj : ∀ (a b : List Int), (∀ x ∈ a, (Lit.int .u8 x).wf = true) → (∀ x ∈ b, (Lit.int .u8 x).wf = true) → (a.map fun n => UInt8.ofNat n.toNat) = (b.map fun n => UInt8.ofNat n.toNat) → a = b
 | [], [], _, _, _ => rfl
 | [], _ :: _, _, _, h => by simp at h
 | _ :: _, [], _, _, h => by simp at h
 | x :: a, y :: b, ha, hb, h => by
  simp only [List.map_cons, List.cons.injEq] at h
  have hx := wf_u8 (ha x List.mem_cons_self)
  have hy := wf_u8 (hb y List.mem_cons_self)
  rw [Xc hx.1 hx.2 hy.1 hy.2 h.1, str_inj a b (fun z hz => ha z (List.mem_cons_of_mem _ hz)) (fun z hz => hb z (List.mem_cons_of_mem _ hz)) h.2]
theorem str_eq (a b : List Int) (ha : ∀ x ∈ a, (Lit.int .u8 x).wf = true) (hb : ∀ x ∈ b, (Lit.int .u8 x).wf = true) : ((strOfNums a).toList == (strOfNums b).toList) = decide (a = b) := by
 rw [Bw, Bw, Bool.eq_iff_iff]
 simp only [beq_iff_eq, decide_eq_true_eq]
 exact ⟨str_inj a b ha hb, fun h => by rw [h]⟩
-- within.lean
theorem j4 (a b c : Int) : dw.f a b c = some (decide (b ≤ a ∧ a ≤ c)) := by
 unfold dw.f
 by_cases h : b ≤ a
 ·rw [if_pos h]
  by_cases h2 : a ≤ c
  ·rw [decide_eq_true h2, decide_eq_true ⟨h, h2⟩]
  ·rw [decide_eq_false h2, decide_eq_false (fun z => h2 z.2)]
 ·rw [if_neg h, decide_eq_false (fun z => h z.1)]
-- stateimpl.lean: the program's StateOk
theorem Et (id : Int) : ∀ (l : List l7) (i : Int), dn.find id l i = yP id l i
 | [], _ => rfl
 | x :: xs, i => by rw [dn.find, yP, Et id xs (i + 1)]
theorem Xd (idx : Int) (rows : List kG) (tombs : List lQ) (lost : Int) (sess : List l7) (lasts : List mE) (id : Int) (hn : sess.length ≤ 1048576) : dn.f idx rows tombs lost sess lasts id = some (yP id sess 0) := by
 unfold dn.f
 rw [if_pos (by omega), Et]
theorem Eu (key : List Int) (hk : Bytes key) : ∀ (l : List lQ) (i : Int), uM l → dM.find key l i = BL key l i
 | [], _, _ => rfl
 | x :: xs, i, h => by
  have e := str_eq x.f0 key (h x (List.mem_cons_self ..)) hk
  rw [dM.find, BL, Eu key hk xs (i + 1) (fun t ht => h t (List.mem_cons_of_mem _ ht)), e]
  simp only [decide_eq_true_iff]
theorem Xe (idx : Int) (rows : List kG) (tombs : List lQ) (lost : Int) (sess : List l7) (lasts : List mE) (key : List Int) (hn : tombs.length ≤ 1048576) (ht : uM tombs) (hk : Bytes key) : dM.f idx rows tombs lost sess lasts key = some (BL key tombs 0) := by
 unfold dM.f
 rw [if_pos (by omega), Eu key hk tombs 0 ht]
theorem UI (idx : Int) (rows : List kG) (tombs : List lQ) (lost : Int) (sess : List l7) (lasts : List mE) (hn : lasts.length ≤ 1048576) :
  ∃ b, Ev (fun k => av.l3 k lasts (lasts.length : Int) ((0 : Nat) : Int) idx rows tombs lost sess lasts) b ∧ (b = true ↔ ((∀ i, i < lasts.length → yQ idx lasts i) ∧ True)) := by
 refine yO (L := fun k i => av.l3 k lasts (lasts.length : Int) (i : Int) idx rows tombs lost sess lasts) lasts.length (yQ idx lasts) True ⟨true, (by refine Ev.step (fun k => by rw [av.l3]) ?_; exact az (by omega) (Ev.now _)), by simp⟩ ?_ lasts.length 0 (by omega) (by omega) (by omega)
 intro i hi _
 have go : ∀ b, Ev (fun k => av.l3 k lasts (lasts.length : Int) ((i + 1 : Nat) : Int) idx rows tombs lost sess lasts) b → Ev (fun k => av.l3 k lasts (lasts.length : Int) (wrap64 ((i : Int) + 1)) idx rows tombs lost sess lasts) b := fun b e => by
  rw [sj (by omega) (by omega)]
  rw [Int.natCast_add, Int.natCast_one] at e
  exact e
 unfold yQ
 generalize hx : bn lasts (i : Int) = x
 generalize hy : bn lasts ((i : Int) - 1) = y
 have key : ∀ {g : Nat → Option Bool} {b : Bool}, (((0 ≤ x.f0 ∧ x.f0 ≤ 3) ∧ (1 ≤ x.f1 ∧ x.f1 ≤ 1000000) ∧ (0 ≤ x.f2.f0 ∧ x.f2.f0 ≤ 5) ∧ (1 ≤ x.f2.f1 ∧ x.f2.f1 ≤ idx)) → Ev g b) → (¬ ((0 ≤ x.f0 ∧ x.f0 ≤ 3) ∧ (1 ≤ x.f1 ∧ x.f1 ≤ 1000000) ∧ (0 ≤ x.f2.f0 ∧ x.f2.f0 ≤ 5) ∧ (1 ≤ x.f2.f1 ∧ x.f2.f1 ≤ idx)) → b = false) →
   Ev (fun k => (dw.f x.f0 0 3).bind fun aHi => (if aHi = true then ((dw.f x.f1 1 1000000).bind fun kM => (if kM = true then ((dw.f x.f2.f0 0 5).bind fun aHj => (if aHj = true then ((dw.f x.f2.f1 1 idx).bind fun aHk => (if aHk = true then g k else (some false))) else (some false))) else (some false))) else (some false))) b := by
  intro g b h1 h2
  refine bU (j4 _ _ _) (jv (fun c1 => bU (j4 _ _ _) (jv (fun c2 => bU (j4 _ _ _) (jv (fun c3 => bU (j4 _ _ _) (jv (fun c4 => ?_) (fun c4 => ?_))) (fun c3 => ?_))) (fun c2 => ?_))) (fun c1 => ?_))
  ·exact h1 ⟨of_decide_eq_true c1, of_decide_eq_true c2, of_decide_eq_true c3, of_decide_eq_true c4⟩
  ·rw [h2 (fun z => c4 (decide_eq_true z.2.2.2))]; exact Ev.now _
  ·rw [h2 (fun z => c3 (decide_eq_true z.2.2.1))]; exact Ev.now _
  ·rw [h2 (fun z => c2 (decide_eq_true z.2.1))]; exact Ev.now _
  ·rw [h2 (fun z => c1 (decide_eq_true z.1))]; exact Ev.now _
 by_cases p : 0 ≤ x.f0 ∧ x.f0 ≤ 3 ∧ 1 ≤ x.f1 ∧ x.f1 ≤ 1000000 ∧ 0 ≤ x.f2.f0 ∧ x.f2.f0 ≤ 5 ∧ 1 ≤ x.f2.f1 ∧ x.f2.f1 ≤ idx ∧ (0 < i → y.f0 < x.f0)
 ·refine .inl ⟨p, fun b e => ?_⟩
  have e := go b e
  obtain ⟨p1, p2, p3, p4, p5, p6, p7, p8, p9⟩ := p
  refine Ev.step (fun k => by rw [av.l3]) ?_
  rw [hx]
  refine aa (by omega) (aa (by omega) (aa (by omega) (key (fun _ => ?_) (fun z => absurd ⟨⟨p1, p2⟩, ⟨p3, p4⟩, ⟨p5, p6⟩, ⟨p7, p8⟩⟩ z))))
  refine jv (fun c => ?_) (fun _ => e)
  rw [sj (x := (i : Int) - 1) (by omega) (by omega), hy]
  have := p9 (by omega)
  exact aa (by omega) (aa (by omega) (az (by omega) e))
 ·refine .inr ⟨p, ?_⟩
  refine Ev.step (fun k => by rw [av.l3]) ?_
  rw [hx]
  refine aa (by omega) (aa (by omega) (aa (by omega) (key (fun q => ?_) (fun _ => rfl))))
  obtain ⟨⟨p1, p2⟩, ⟨p3, p4⟩, ⟨p5, p6⟩, ⟨p7, p8⟩⟩ := q
  by_cases c9 : (i : Int) > 0
  ·refine aa c9 ?_
   rw [sj (x := (i : Int) - 1) (by omega) (by omega), hy]
   refine aa (by omega) (aa (by omega) (aa ?_ (Ev.now _)))
   rcases Int.lt_or_le y.f0 x.f0 with z | z
   ·exact absurd ⟨p1, p2, p3, p4, p5, p6, p7, p8, fun _ => z⟩ p
   ·omega
  ·exact absurd ⟨p1, p2, p3, p4, p5, p6, p7, p8, fun z => by omega⟩ p
theorem K8 (idx : Int) (rows : List kG) (tombs : List lQ) (lost : Int) (sess : List l7) (lasts : List mE) (hs : sess.length ≤ 1048576) (hn : lasts.length ≤ 1048576) :
  ∃ b, Ev (fun k => av.l2 k sess (sess.length : Int) ((0 : Nat) : Int) idx rows tombs lost sess lasts) b ∧ (b = true ↔ ((∀ i, i < sess.length → Au idx sess i) ∧ (∀ i, i < lasts.length → yQ idx lasts i))) := by
 obtain ⟨bl, el, hl⟩ := UI idx rows tombs lost sess lasts hn
 refine yO (L := fun k i => av.l2 k sess (sess.length : Int) (i : Int) idx rows tombs lost sess lasts) sess.length (Au idx sess) _ ⟨bl, (by refine Ev.step (fun k => by rw [av.l2]) ?_; exact az (by omega) el), by rw [hl, and_true]⟩ ?_ sess.length 0 (by omega) (by omega) (by omega)
 intro i hi _
 have go : ∀ b, Ev (fun k => av.l2 k sess (sess.length : Int) ((i + 1 : Nat) : Int) idx rows tombs lost sess lasts) b → Ev (fun k => av.l2 k sess (sess.length : Int) (wrap64 ((i : Int) + 1)) idx rows tombs lost sess lasts) b := fun b e => by
  rw [sj (by omega) (by omega)]
  rw [Int.natCast_add, Int.natCast_one] at e
  exact e
 unfold Au
 generalize hx : bS sess (i : Int) = x
 generalize hy : bS sess ((i : Int) - 1) = y
 by_cases q : 1 ≤ x.f0 ∧ x.f0 ≤ idx
 case neg =>
  refine .inr ⟨fun z => q ⟨z.1, z.2.1⟩, ?_⟩
  refine Ev.step (fun k => by rw [av.l2]) ?_
  rw [hx]
  exact aa (by omega) (aa (by omega) (aa (by omega) (bU (j4 _ _ _) (az (by rw [decide_eq_true_iff]; exact q) (Ev.now _)))))
 have wq : decide (1 ≤ x.f0 ∧ x.f0 ≤ idx) = true := decide_eq_true q
 by_cases p : 0 < i → y.f0 < x.f0
 ·refine .inl ⟨⟨q.1, q.2, p⟩, fun b e => ?_⟩
  have e := go b e
  refine Ev.step (fun k => by rw [av.l2]) ?_
  rw [hx]
  refine aa (by omega) (aa (by omega) (aa (by omega) (bU (j4 _ _ _) (aa wq ?_))))
  refine jv (fun c => ?_) (fun _ => e)
  rw [sj (x := (i : Int) - 1) (by omega) (by omega), hy]
  have := p (by omega)
  exact aa (by omega) (aa (by omega) (az (by omega) e))
 ·refine .inr ⟨fun z => p z.2.2, ?_⟩
  refine Ev.step (fun k => by rw [av.l2]) ?_
  rw [hx]
  refine aa (by omega) (aa (by omega) (aa (by omega) (bU (j4 _ _ _) (aa wq ?_))))
  by_cases c9 : (i : Int) > 0
  ·refine aa c9 ?_
   rw [sj (x := (i : Int) - 1) (by omega) (by omega), hy]
   refine aa (by omega) (aa (by omega) (aa ?_ (Ev.now _)))
   rcases Int.lt_or_le y.f0 x.f0 with z | z
   ·exact absurd (fun _ => z) p
   ·omega
  ·exact absurd (fun z => by omega) p
def bef (lost : Int) (tombs : List lQ) (i : Nat) : Int := if i = 0 then mx 1 lost else (bu tombs ((i : Int) - 1)).f1
def adV (idx lost : Int) (rows : List kG) (tombs : List lQ) (i : Nat) : Prop :=
 (∀ r ∈ rows, r.f0 ≠ (bu tombs i).f0) ∧ CS (bu tombs i).f0 = true ∧ BL (bu tombs i).f0 tombs 0 = (i : Int) ∧ bef lost tombs i ≤ (bu tombs i).f1 ∧ (bu tombs i).f1 ≤ idx
theorem afu (idx lost : Int) (rows : List kG) (tombs : List lQ) : (∀ i, i < tombs.length → adV idx lost rows tombs i) ↔ (∀ i, i < tombs.length → Jh idx lost rows tombs i) := by
 constructor
 ·intro h
  have low : ∀ i, i < tombs.length → 1 ≤ (bu tombs i).f1 ∧ lost ≤ (bu tombs i).f1 := by
   intro i
   induction i with
   | zero =>
    intro hi
    have := (h 0 hi).2.2.2.1
    unfold bef mx at this
    rw [if_pos rfl] at this
    split at this <;> omega
   | succ i ih =>
    intro hi
    have := (h (i + 1) hi).2.2.2.1
    have b := ih (by omega)
    unfold bef at this
    rw [if_neg (by omega), show (((i + 1 : Nat) : Int) - 1) = ((i : Nat) : Int) by omega] at this
    omega
  intro i hi
  obtain ⟨a1, a2, a3, a4, a5⟩ := h i hi
  refine ⟨a2, a1, a3, (low i hi).1, a5, (low i hi).2, fun z => ?_⟩
  unfold bef at a4
  rw [if_neg (by omega)] at a4
  exact a4
 ·intro h i hi
  obtain ⟨a1, a2, a3, a4, a5, a6, a7⟩ := h i hi
  refine ⟨a2, a1, a3, ?_, a5⟩
  unfold bef mx
  by_cases z : i = 0
  ·rw [if_pos z]
   split <;> omega
  ·rw [if_neg z]
   exact a7 (by omega)
theorem UJ (idx : Int) (rows : List kG) (tombs : List lQ) (lost : Int) (sess : List l7) (lasts : List mE) (hr : rows.length ≤ 1000) (ht : tombs.length ≤ 1048576) (hs : sess.length ≤ 1048576) (hn : lasts.length ≤ 1048576) (hbr : Bv rows) (hbt : uM tombs) (hk : ∀ t ∈ tombs, t.f0.length ≤ 1048576) (hv : ∀ i, i < rows.length → EU idx sess rows i) :
  ∃ b, Ev (fun k => av.l1 k (bef lost tombs 0) tombs (tombs.length : Int) ((0 : Nat) : Int) idx rows tombs lost sess lasts) b ∧ (b = true ↔ ((∀ i, i < tombs.length → adV idx lost rows tombs i) ∧ (∀ i, i < sess.length → Au idx sess i) ∧ (∀ i, i < lasts.length → yQ idx lasts i))) := by
 obtain ⟨bl, el, hl⟩ := K8 idx rows tombs lost sess lasts hs hn
 refine yO (L := fun k i => av.l1 k (bef lost tombs i) tombs (tombs.length : Int) (i : Int) idx rows tombs lost sess lasts) tombs.length (adV idx lost rows tombs) _ ⟨bl, (by refine Ev.step (fun k => by rw [av.l1]) ?_; exact az (by omega) el), hl⟩ ?_ tombs.length 0 (by omega) (by omega) (by omega)
 intro i hi _
 have go : ∀ b, Ev (fun k => av.l1 k (bef lost tombs (i + 1)) tombs (tombs.length : Int) ((i + 1 : Nat) : Int) idx rows tombs lost sess lasts) b → Ev (fun k => av.l1 k (bu tombs (i : Int)).f1 tombs (tombs.length : Int) (wrap64 ((i : Int) + 1)) idx rows tombs lost sess lasts) b := fun b e => by
  rw [sj (by omega) (by omega)]
  unfold bef at e
  rw [if_neg (by omega), Int.natCast_add, Int.natCast_one, Int.add_sub_cancel] at e
  exact e
 have hm := OI tombs i hi
 unfold adV
 generalize bef lost tombs i = bf
 generalize hx : bu tombs (i : Int) = x at hm go
 have hb := hbt x hm
 have e1 := OH x.f0 (by have := hk x hm; omega)
 obtain ⟨p, b2, e2, r1, r2⟩ := aat idx rows tombs lost sess lasts x.f0 hr (fun r h => (hbr r h).1) hb (aau idx sess rows hv)
 have e3 := Xe idx rows tombs lost sess lasts x.f0 ht hbt hb
 cases b2 with
 | true =>
  obtain ⟨hp, hpk⟩ := r1 rfl
  refine .inr ⟨fun z => z.1 _ (List.getElem_mem hp) hpk, ?_⟩
  refine Ev.step (fun k => by rw [av.l1]) ?_
  rw [hx]
  exact aa (by omega) (aa (by omega) (aa (by omega) (Ev.bind e2 (aa rfl (Ev.now _)))))
 | false =>
  have q2 := r2 rfl
  by_cases p1 : CS x.f0 = true
  case neg =>
   refine .inr ⟨fun z => p1 z.2.1, ?_⟩
   refine Ev.step (fun k => by rw [av.l1]) ?_
   rw [hx]
   exact aa (by omega) (aa (by omega) (aa (by omega) (Ev.bind e2 (az (by simp) (Ev.bind e1 (az p1 (Ev.now _)))))))
  by_cases p3 : BL x.f0 tombs 0 = (i : Int)
  case neg =>
   refine .inr ⟨fun z => p3 z.2.2.1, ?_⟩
   refine Ev.step (fun k => by rw [av.l1]) ?_
   rw [hx]
   exact aa (by omega) (aa (by omega) (aa (by omega) (Ev.bind e2 (az (by simp) (Ev.bind e1 (aa p1 (bU e3 (az p3 (Ev.now _)))))))))
  by_cases p4 : bf ≤ x.f1 ∧ x.f1 ≤ idx
  ·refine .inl ⟨⟨q2, p1, p3, p4.1, p4.2⟩, fun b e => ?_⟩
   have e := go b e
   refine Ev.step (fun k => by rw [av.l1]) ?_
   rw [hx]
   exact aa (by omega) (aa (by omega) (aa (by omega) (Ev.bind e2 (az (by simp) (Ev.bind e1 (aa p1 (bU e3 (aa p3 (bU (j4 _ _ _) (aa (decide_eq_true p4) e))))))))))
  ·refine .inr ⟨fun z => p4 ⟨z.2.2.2.1, z.2.2.2.2⟩, ?_⟩
   refine Ev.step (fun k => by rw [av.l1]) ?_
   rw [hx]
   exact aa (by omega) (aa (by omega) (aa (by omega) (Ev.bind e2 (az (by simp) (Ev.bind e1 (aa p1 (bU e3 (aa p3 (bU (j4 _ _ _) (az (by rw [decide_eq_true_iff]; exact p4) (Ev.now _)))))))))))
theorem Xf (idx : Int) (rows : List kG) (tombs : List lQ) (lost : Int) (sess : List l7) (lasts : List mE) (hr : rows.length ≤ 1000) (ht : tombs.length ≤ 1048576) (hs : sess.length ≤ 1048576) (hn : lasts.length ≤ 1048576) (hbr : Bv rows) (hbt : uM tombs) (hk : ∀ t ∈ tombs, t.f0.length ≤ 1048576) (hkr : ∀ r ∈ rows, r.f0.length ≤ 1048576) :
  ∃ b, Ev (fun k => av.l0 k rows (rows.length : Int) ((0 : Nat) : Int) idx rows tombs lost sess lasts) b ∧ (b = true ↔ ((∀ i, i < rows.length → EU idx sess rows i) ∧ (∀ i, i < tombs.length → Jh idx lost rows tombs i) ∧ (∀ i, i < sess.length → Au idx sess i) ∧ (∀ i, i < lasts.length → yQ idx lasts i))) := by
 have fin : ∃ b, Ev (fun k => av.l1 k (bef lost tombs 0) tombs (tombs.length : Int) ((0 : Nat) : Int) idx rows tombs lost sess lasts) b ∧ (((∀ i, i < rows.length → EU idx sess rows i)) → (b = true ↔ ((∀ i, i < tombs.length → Jh idx lost rows tombs i) ∧ (∀ i, i < sess.length → Au idx sess i) ∧ (∀ i, i < lasts.length → yQ idx lasts i)))) ∨ ¬ (∀ i, i < rows.length → EU idx sess rows i) := by
  by_cases hv : ∀ i, i < rows.length → EU idx sess rows i
  ·obtain ⟨b, e, h⟩ := UJ idx rows tombs lost sess lasts hr ht hs hn hbr hbt hk hv
   rw [afu] at h
   exact ⟨b, .inl ⟨e, fun _ => h⟩⟩
  ·exact ⟨true, .inr hv⟩
 obtain ⟨bl, hfin⟩ := fin
 have main := aft (L := fun k i => av.l0 k rows (rows.length : Int) (i : Int) idx rows tombs lost sess lasts) rows.length (EU idx sess rows) ((∀ i, i < tombs.length → Jh idx lost rows tombs i) ∧ (∀ i, i < sess.length → Au idx sess i) ∧ (∀ i, i < lasts.length → yQ idx lasts i)) (fun hv => by
  rcases hfin with ⟨el, hl⟩ | h
  ·exact ⟨bl, (by refine Ev.step (fun k => by rw [av.l0]) ?_; exact az (by omega) el), hl hv⟩
  ·exact absurd hv h)
 refine main ?_ rows.length 0 (by omega) (by omega) (by omega)
 intro i hi _
 have go : ∀ b, Ev (fun k => av.l0 k rows (rows.length : Int) ((i + 1 : Nat) : Int) idx rows tombs lost sess lasts) b → Ev (fun k => av.l0 k rows (rows.length : Int) (wrap64 ((i : Int) + 1)) idx rows tombs lost sess lasts) b := fun b e => by
  rw [sj (by omega) (by omega)]
  rw [Int.natCast_add, Int.natCast_one] at e
  exact e
 have hm := Bu rows i hi
 have hy0 : 0 < i → ax rows ((i : Int) - 1) ∈ rows := fun z => by
  have := Bu rows (i - 1) (by omega)
  rwa [show ((i - 1 : Nat) : Int) = (i : Int) - 1 by omega] at this
 unfold EU
 generalize hx : ax rows (i : Int) = x at hm
 generalize hy : ax rows ((i : Int) - 1) = y at hy0
 have hb := (hbr x hm).1
 have e1 := OH x.f0 (by have := hkr x hm; omega)
 have e3 := Xd idx rows tombs lost sess lasts x.f3 hs
 have cmp : 0 < i → aA.f y.f0 x.f0 = some (aA.cmp y.f0 x.f0) := fun z => wB _ _ (hbr y (hy0 z)).1 hb
 by_cases p1 : CS x.f0 = true
 case neg =>
  refine .inr ⟨fun z => p1 z.1, ?_⟩
  refine Ev.step (fun k => by rw [av.l0]) ?_
  rw [hx]
  exact aa (by omega) (aa (by omega) (aa (by omega) (Ev.bind e1 (az p1 (Ev.now _)))))
 by_cases p2 : x.f1.length ≤ 20
 case neg =>
  refine .inr ⟨fun z => p2 z.2.1, ?_⟩
  refine Ev.step (fun k => by rw [av.l0]) ?_
  rw [hx]
  exact aa (by omega) (aa (by omega) (aa (by omega) (Ev.bind e1 (aa p1 (bU rfl (az (by rw [decide_eq_true_iff]; omega) (Ev.now _)))))))
 by_cases p3 : 1 ≤ x.f2 ∧ x.f2 ≤ idx
 case neg =>
  refine .inr ⟨fun z => p3 ⟨z.2.2.1, z.2.2.2.1⟩, ?_⟩
  refine Ev.step (fun k => by rw [av.l0]) ?_
  rw [hx]
  exact aa (by omega) (aa (by omega) (aa (by omega) (Ev.bind e1 (aa p1 (bU rfl (aa (by rw [decide_eq_true_iff]; omega) (bU (j4 _ _ _) (az (by rw [decide_eq_true_iff]; exact p3) (Ev.now _)))))))))
 have go2 : ∀ {g : Nat → Option Bool} {b : Bool}, Ev g b → Ev (fun k => (gL.f k x.f0).bind fun aeT => if aeT = true then ((rO.f x.f1).bind fun aeU => if aeU = true then ((dw.f x.f2 1 idx).bind fun aHl => if aHl = true then g k else some false) else some false) else some false) b := fun h => Ev.bind e1 (aa p1 (bU rfl (aa (by rw [decide_eq_true_iff]; omega) (bU (j4 _ _ _) (aa (decide_eq_true p3) h)))))
 have tail : ∀ b, (aA.cmp y.f0 x.f0 < 0 → Ev (fun k => av.l0 k rows (rows.length : Int) (wrap64 ((i : Int) + 1)) idx rows tombs lost sess lasts) b) → (¬ (i : Int) > 0 → Ev (fun k => av.l0 k rows (rows.length : Int) (wrap64 ((i : Int) + 1)) idx rows tombs lost sess lasts) b) → ((i : Int) > 0 → ¬ aA.cmp y.f0 x.f0 < 0 → b = false) →
   Ev (fun k => if (i : Int) > 0 then (if 0 ≤ (wrap64 ((i : Int) - 1)) then (if (wrap64 ((i : Int) - 1)) < (rows.length : Int) then ((aA.f ((ax rows (wrap64 ((i : Int) - 1))).f0) (x.f0)).bind fun aHm => (if aHm ≥ 0 then (some false) else (av.l0 k rows (rows.length : Int) (wrap64 ((i : Int) + 1)) idx rows tombs lost sess lasts))) else (none)) else (none)) else (av.l0 k rows (rows.length : Int) (wrap64 ((i : Int) + 1)) idx rows tombs lost sess lasts)) b := by
  intro b h1 h2 h3
  refine jv (fun c => ?_) (fun c => h2 c)
  rw [sj (x := (i : Int) - 1) (by omega) (by omega), hy, cmp (by omega)]
  refine aa (by omega) (aa (by omega) (bU rfl (jv (fun z => ?_) (fun z => ?_))))
  ·rw [h3 c (by omega)]
   exact Ev.now _
  ·exact h1 (by omega)
 by_cases p5 : x.f3 = 0 ∨ ¬ yP x.f3 sess 0 < 0
 case neg =>
  have a : ¬ x.f3 = 0 := fun z => p5 (.inl z)
  have b : yP x.f3 sess 0 < 0 := by
   rcases Int.lt_or_le (yP x.f3 sess 0) 0 with z | z
   ·exact z
   ·exact absurd (.inr (by omega)) p5
  refine .inr ⟨fun z => p5 z.2.2.2.2.1, ?_⟩
  refine Ev.step (fun k => by rw [av.l0]) ?_
  rw [hx]
  exact aa (by omega) (aa (by omega) (aa (by omega) (go2 (az a (bU e3 (aa b (Ev.now _)))))))
 have hold : ∀ {g : Nat → Option Bool} {b : Bool}, Ev g b → Ev (fun k => if x.f3 = 0 then g k else ((dn.f idx rows tombs lost sess lasts x.f3).bind fun aHn => if aHn < 0 then some false else g k)) b := fun h => jv (fun _ => h) (fun c => bU e3 (az (by rcases p5 with z | z; exact absurd z c; exact z) h))
 by_cases p6 : 0 < i → aA.cmp y.f0 x.f0 < 0
 ·refine .inl ⟨⟨p1, p2, p3.1, p3.2, p5, p6⟩, fun b e => ?_⟩
  have e := go b e
  refine Ev.step (fun k => by rw [av.l0]) ?_
  rw [hx]
  exact aa (by omega) (aa (by omega) (aa (by omega) (go2 (hold (tail b (fun _ => e) (fun _ => e) (fun c z => absurd (p6 (by omega)) z))))))
 ·refine .inr ⟨fun z => p6 z.2.2.2.2.2, ?_⟩
  refine Ev.step (fun k => by rw [av.l0]) ?_
  rw [hx]
  exact aa (by omega) (aa (by omega) (aa (by omega) (go2 (hold (tail false (fun z => absurd (fun _ => z) p6) (fun z => absurd (fun y => by omega) p6) (fun _ _ => rfl))))))
theorem OL (idx : Int) (rows : List kG) (tombs : List lQ) (lost : Int) (sess : List l7) (lasts : List mE) (hr : rows.length ≤ 1048576) (ht : tombs.length ≤ 1048576) (hs : sess.length ≤ 1048576) (hn : lasts.length ≤ 1048576) (hbr : Bv rows) (hbt : uM tombs) (hk : ∀ t ∈ tombs, t.f0.length ≤ 1048576) (hkr : ∀ r ∈ rows, r.f0.length ≤ 1048576) :
  ∃ b, Ev (fun k => av.f k idx rows tombs lost sess lasts) b ∧ (b = true ↔ J7 idx rows tombs lost sess lasts) := by
 have no : Ev (fun k => av.j0 k true idx rows tombs lost sess lasts) false := by
  refine Ev.step (fun k => by rw [av.j0]) ?_
  exact aa rfl (Ev.now _)
 unfold av.f J7 ai9
 by_cases c1 : 0 ≤ idx ∧ idx ≤ 1000000
 case neg => exact ⟨false, bU (j4 _ _ _) (az (by rw [decide_eq_true_iff]; exact c1) no), ⟨fun z => absurd z (by simp), fun z => absurd z.1.1 c1⟩⟩
 by_cases c2 : 0 ≤ lost ∧ lost ≤ idx
 case neg => exact ⟨false, bU (j4 _ _ _) (aa (decide_eq_true c1) (bU (j4 _ _ _) (az (by rw [decide_eq_true_iff]; exact c2) no))), ⟨fun z => absurd z (by simp), fun z => absurd z.1.2.1 c2⟩⟩
 by_cases q : rows.length ≤ 20 ∧ tombs.length ≤ 10 ∧ sess.length ≤ 8 ∧ lasts.length ≤ 4
 ·obtain ⟨q3, q4, q5, q6⟩ := q
  obtain ⟨b, e, h⟩ := Xf idx rows tombs lost sess lasts (by omega) ht hs hn hbr hbt hk hkr
  refine ⟨b, bU (j4 _ _ _) (aa (decide_eq_true c1) (bU (j4 _ _ _) (aa (decide_eq_true c2) (az (by omega) (az (by omega) (az (by omega) ?_)))))), h.trans ⟨fun z => ⟨⟨c1, c2, q3, q4, q5, q6⟩, z⟩, fun z => z.2⟩⟩
  rw [decide_eq_false (by omega)]
  refine Ev.step (fun k => by rw [av.j0]) ?_
  exact az (by simp) e
 ·refine ⟨false, bU (j4 _ _ _) (aa (decide_eq_true c1) (bU (j4 _ _ _) (aa (decide_eq_true c2) (jv (fun _ => no) (fun d1 => jv (fun _ => no) (fun d2 => jv (fun _ => no) (fun d5 => ?_))))))), ⟨fun z => absurd z (by simp), fun z => absurd z.1.2.2 q⟩⟩
  rw [decide_eq_true (show (lasts.length : Int) > 4 by
   rcases Nat.lt_or_ge 4 lasts.length with y | y
   ·omega
   ·exact absurd ⟨by omega, by omega, by omega, y⟩ q)]
  exact no
-- strcmp.lean: strings compared, bytes compared
theorem Xg : ∀ a b : List Int, aA.cmp a b = - aA.cmp b a
 | [], [] => rfl
 | [], _ :: _ => rfl
 | _ :: _, [] => rfl
 | x :: xs, y :: ys => by
  rw [aA.cmp, aA.cmp]
  by_cases c1 : x < y
  ·rw [if_pos c1, if_neg (by omega), if_pos c1]
  ·by_cases c2 : y < x
   ·rw [if_neg c1, if_pos c2, if_pos c2]
    rfl
   ·rw [if_neg c1, if_neg c2, if_neg c2, if_neg c1, Xg xs ys]
theorem ana {x y : Int} (hx : 0 ≤ x) (hx1 : x ≤ 255) (hy : 0 ≤ y) (hy1 : y ≤ 255) : (decide (UInt8.ofNat x.toNat < UInt8.ofNat y.toNat)) = decide (x < y) := by
 rw [Bool.eq_iff_iff, decide_eq_true_iff, decide_eq_true_iff, UInt8.lt_iff_toNat_lt]
 simp
 omega
theorem Ew : ∀ a b : List Int, Bytes a → Bytes b → Op.bytesLess (a.map fun n => UInt8.ofNat n.toNat) (b.map fun n => UInt8.ofNat n.toNat) = decide (aA.cmp a b < 0)
 | [], [], _, _ => rfl
 | _ :: _, [], _, _ => rfl
 | [], _ :: _, _, _ => rfl
 | x :: xs, y :: ys, ha, hb => by
  have hx := wf_u8 (ha x List.mem_cons_self)
  have hy := wf_u8 (hb y List.mem_cons_self)
  have ih := Ew xs ys (fun z hz => ha z (List.mem_cons_of_mem _ hz)) (fun z hz => hb z (List.mem_cons_of_mem _ hz))
  rw [List.map_cons, List.map_cons, Op.bytesLess, ih, ana hx.1 hx.2 hy.1 hy.2, aA.cmp]
  by_cases c1 : x < y
  ·rw [if_pos c1]
   simp [c1]
  ·rw [if_neg c1]
   by_cases c2 : y < x
   ·have hne : (UInt8.ofNat x.toNat == UInt8.ofNat y.toNat) = false := by
     rw [beq_eq_false_iff_ne]
     intro h
     have := Xc hx.1 hx.2 hy.1 hy.2 h
     omega
    rw [if_pos c2, hne]
    simp [c1]
   ·have e : x = y := by omega
    subst e
    simp
theorem aav (a b : List Int) (ha : Bytes a) (hb : Bytes b) : Op.bytesLess ((strOfNums a).toList) ((strOfNums b).toList) = decide (aA.cmp a b < 0) := by
 rw [Bw, Bw, Ew a b ha hb]
-- statespec.lean: the reference's StateOk
theorem Pj (idx : Int) (rows : List kG) (tombs : List lQ) (lost : Int) (sess : List l7) (lasts : List mE) (id : Int) (hn : sess.length ≤ 1048576) (d : Nat) : ∀ i : Nat, i ≤ sess.length → sess.length - i = d →
  Ev (fun k => iT.l0 k id (i : Int) idx rows tombs lost sess lasts) (yP id (sess.drop i) (i : Int)) := by
 induction d with
 | zero =>
  intro i hi hd
  refine Ev.step (fun k => by rw [iT.l0]) (az (by omega) (uL ?_))
  rw [List.drop_of_length_le (by omega), yP]
 | succ d ih =>
  intro i hi hd
  have hi' : i < sess.length := by omega
  have h := ih (i + 1) (by omega) (by omega)
  rw [Int.natCast_add i, Int.natCast_one] at h
  refine Ev.step (fun k => by rw [iT.l0]) ?_
  rw [KP sess i hi', sj (x := (i : Int) + 1) (by omega) (by omega), List.drop_eq_getElem_cons hi', yP]
  refine aa (by omega) (aa (by omega) ?_)
  by_cases c : sess[i].f0 = id
  ·rw [if_pos c]
   exact aa c (Ev.now _)
  ·rw [if_neg c]
   exact az c h
theorem Xh (idx : Int) (rows : List kG) (tombs : List lQ) (lost : Int) (sess : List l7) (lasts : List mE) (id : Int) (hn : sess.length ≤ 1048576) : Ev (fun k => iT.f k idx rows tombs lost sess lasts id) (yP id sess 0) := by
 have h : Ev (fun k => iT.l0 k id 0 idx rows tombs lost sess lasts) _ := Pj idx rows tombs lost sess lasts id hn sess.length 0 (by omega) (by omega)
 rw [List.drop_zero] at h
 exact h
theorem OM (a b : List Int) (ha : Bytes a) (hb : Bytes b) : ((strOfNums a).toList = (strOfNums b).toList) ↔ a = b := by
 have h := str_eq a b ha hb
 constructor
 ·intro e
  rw [e] at h
  simpa using h.symm
 ·intro e
  rw [e]
theorem Pk (idx : Int) (rows : List kG) (tombs : List lQ) (lost : Int) (sess : List l7) (lasts : List mE) (key : List Int) (hn : tombs.length ≤ 1048576) (ht : uM tombs) (hk : Bytes key) (d : Nat) : ∀ i : Nat, i ≤ tombs.length → tombs.length - i = d →
  Ev (fun k => iU.l0 k key (i : Int) idx rows tombs lost sess lasts) (BL key (tombs.drop i) (i : Int)) := by
 induction d with
 | zero =>
  intro i hi hd
  refine Ev.step (fun k => by rw [iU.l0]) (az (by omega) (uL ?_))
  rw [List.drop_of_length_le (by omega), BL]
 | succ d ih =>
  intro i hi hd
  have hi' : i < tombs.length := by omega
  have h := ih (i + 1) (by omega) (by omega)
  rw [Int.natCast_add i, Int.natCast_one] at h
  have hs := OM tombs[i].f0 key (ht _ (List.getElem_mem hi')) hk
  refine Ev.step (fun k => by rw [iU.l0]) ?_
  rw [OJ tombs i hi', sj (x := (i : Int) + 1) (by omega) (by omega), List.drop_eq_getElem_cons hi', BL]
  refine aa (by omega) (aa (by omega) ?_)
  by_cases c : tombs[i].f0 = key
  ·rw [if_pos c]
   exact aa (hs.2 c) (Ev.now _)
  ·rw [if_neg c]
   exact az (fun z => c (hs.1 z)) h
theorem Xi (idx : Int) (rows : List kG) (tombs : List lQ) (lost : Int) (sess : List l7) (lasts : List mE) (key : List Int) (hn : tombs.length ≤ 1048576) (ht : uM tombs) (hk : Bytes key) : Ev (fun k => iU.f k idx rows tombs lost sess lasts key) (BL key tombs 0) := by
 have h : Ev (fun k => iU.l0 k key 0 idx rows tombs lost sess lasts) _ := Pk idx rows tombs lost sess lasts key hn ht hk tombs.length 0 (by omega) (by omega)
 rw [List.drop_zero] at h
 exact h
def Ji (key : List Int) : List kG → Int → Int
 | [], _ => -1
 | x :: xs, i => if x.f0 = key then i else Ji key xs (i + 1)
theorem QF (key : List Int) : ∀ (l : List kG) (i : Int), 0 ≤ i → (0 ≤ Ji key l i ↔ ∃ r ∈ l, r.f0 = key)
 | [], i, _ => by simp [Ji]
 | x :: xs, i, h => by
  rw [Ji]
  by_cases c : x.f0 = key
  ·rw [if_pos c]
   simp [c, h]
  ·rw [if_neg c, QF key xs (i + 1) (by omega)]
   simp [c]
theorem UK (idx : Int) (rows : List kG) (tombs : List lQ) (lost : Int) (sess : List l7) (lasts : List mE) (key : List Int) (hn : rows.length ≤ 1048576) (ht : Bv rows) (hk : Bytes key) (d : Nat) : ∀ i : Nat, i ≤ rows.length → rows.length - i = d →
  Ev (fun k => jD.l0 k key (i : Int) idx rows tombs lost sess lasts) (Ji key (rows.drop i) (i : Int)) := by
 induction d with
 | zero =>
  intro i hi hd
  refine Ev.step (fun k => by rw [jD.l0]) (az (by omega) (uL ?_))
  rw [List.drop_of_length_le (by omega), Ji]
 | succ d ih =>
  intro i hi hd
  have hi' : i < rows.length := by omega
  have h := ih (i + 1) (by omega) (by omega)
  rw [Int.natCast_add i, Int.natCast_one] at h
  have hs := OM rows[i].f0 key (ht _ (List.getElem_mem hi')).1 hk
  refine Ev.step (fun k => by rw [jD.l0]) ?_
  rw [qm rows i hi', sj (x := (i : Int) + 1) (by omega) (by omega), List.drop_eq_getElem_cons hi', Ji]
  refine aa (by omega) (aa (by omega) ?_)
  by_cases c : rows[i].f0 = key
  ·rw [if_pos c]
   exact aa (hs.2 c) (Ev.now _)
  ·rw [if_neg c]
   exact az (fun z => c (hs.1 z)) h
theorem aaw (idx : Int) (rows : List kG) (tombs : List lQ) (lost : Int) (sess : List l7) (lasts : List mE) (key : List Int) (hn : rows.length ≤ 1048576) (ht : Bv rows) (hk : Bytes key) : Ev (fun k => jD.f k idx rows tombs lost sess lasts key) (Ji key rows 0) := by
 have h : Ev (fun k => jD.l0 k key 0 idx rows tombs lost sess lasts) _ := UK idx rows tombs lost sess lasts key hn ht hk rows.length 0 (by omega) (by omega)
 rw [List.drop_zero] at h
 exact h
theorem UL (idx : Int) (rows : List kG) (tombs : List lQ) (lost : Int) (sess : List l7) (lasts : List mE) (hn : lasts.length ≤ 1048576) :
  ∃ b, Ev (fun k => aj.l3 k ((0 : Nat) : Int) idx rows tombs lost sess lasts) b ∧ (b = true ↔ ((∀ i, i < lasts.length → yQ idx lasts i) ∧ True)) := by
 refine yO (L := fun k i => aj.l3 k (i : Int) idx rows tombs lost sess lasts) lasts.length (yQ idx lasts) True ⟨true, (by refine Ev.step (fun k => by rw [aj.l3]) ?_; exact az (by omega) (Ev.now _)), by simp⟩ ?_ lasts.length 0 (by omega) (by omega) (by omega)
 intro i hi _
 have go : ∀ b, Ev (fun k => aj.l3 k ((i + 1 : Nat) : Int) idx rows tombs lost sess lasts) b → Ev (fun k => aj.l3 k (wrap64 ((i : Int) + 1)) idx rows tombs lost sess lasts) b := fun b e => by
  rw [sj (by omega) (by omega)]
  rw [Int.natCast_add, Int.natCast_one] at e
  exact e
 unfold yQ
 generalize hx : bn lasts (i : Int) = x
 generalize hy : bn lasts ((i : Int) - 1) = y
 by_cases p : 0 ≤ x.f0 ∧ x.f0 ≤ 3 ∧ 1 ≤ x.f1 ∧ x.f1 ≤ 1000000 ∧ 0 ≤ x.f2.f0 ∧ x.f2.f0 ≤ 5 ∧ 1 ≤ x.f2.f1 ∧ x.f2.f1 ≤ idx ∧ (0 < i → y.f0 < x.f0)
 ·refine .inl ⟨p, fun b e => Ev.step (fun k => by rw [aj.l3]) ?_⟩
  have e := go b e
  obtain ⟨p1, p2, p3, p4, p5, p6, p7, p8, p9⟩ := p
  rw [hx]
  refine aa (by omega) (aa (by omega) (az (by omega) (az (by omega) (az (by omega) (az (by omega) (az (by omega) (az (by omega) (az (by omega) (az (by omega) ?_)))))))))
  refine jv (fun c => ?_) (fun _ => e)
  rw [sj (x := (i : Int) - 1) (by omega) (by omega), hy]
  have := p9 (by omega)
  exact aa (by omega) (aa (by omega) (az (by omega) e))
 ·refine .inr ⟨p, Ev.step (fun k => by rw [aj.l3]) ?_⟩
  rw [hx]
  refine aa (by omega) (aa (by omega) (jv (fun _ => Ev.now _) (fun c1 => jv (fun _ => Ev.now _) (fun c2 => jv (fun _ => Ev.now _) (fun c3 => jv (fun _ => Ev.now _) (fun c4 => jv (fun _ => Ev.now _) (fun c5 => jv (fun _ => Ev.now _) (fun c6 => jv (fun _ => Ev.now _) (fun c7 => jv (fun _ => Ev.now _) (fun c8 => ?_)))))))))) 
  by_cases c9 : (i : Int) > 0
  ·refine aa c9 ?_
   rw [sj (x := (i : Int) - 1) (by omega) (by omega), hy]
   refine aa (by omega) (aa (by omega) (aa ?_ (Ev.now _)))
   rcases Int.lt_or_le y.f0 x.f0 with z | z
   ·exact absurd ⟨by omega, by omega, by omega, by omega, by omega, by omega, by omega, by omega, fun _ => z⟩ p
   ·omega
  ·exact absurd ⟨by omega, by omega, by omega, by omega, by omega, by omega, by omega, by omega, fun z => by omega⟩ p
theorem K9 (idx : Int) (rows : List kG) (tombs : List lQ) (lost : Int) (sess : List l7) (lasts : List mE) (hs : sess.length ≤ 1048576) (hn : lasts.length ≤ 1048576) :
  ∃ b, Ev (fun k => aj.l2 k ((0 : Nat) : Int) idx rows tombs lost sess lasts) b ∧ (b = true ↔ ((∀ i, i < sess.length → Au idx sess i) ∧ (∀ i, i < lasts.length → yQ idx lasts i))) := by
 obtain ⟨bl, el, hl⟩ := UL idx rows tombs lost sess lasts hn
 refine yO (L := fun k i => aj.l2 k (i : Int) idx rows tombs lost sess lasts) sess.length (Au idx sess) _ ⟨bl, (by refine Ev.step (fun k => by rw [aj.l2]) ?_; exact az (by omega) el), by rw [hl, and_true]⟩ ?_ sess.length 0 (by omega) (by omega) (by omega)
 intro i hi _
 have go : ∀ b, Ev (fun k => aj.l2 k ((i + 1 : Nat) : Int) idx rows tombs lost sess lasts) b → Ev (fun k => aj.l2 k (wrap64 ((i : Int) + 1)) idx rows tombs lost sess lasts) b := fun b e => by
  rw [sj (by omega) (by omega)]
  rw [Int.natCast_add, Int.natCast_one] at e
  exact e
 unfold Au
 generalize hx : bS sess (i : Int) = x
 generalize hy : bS sess ((i : Int) - 1) = y
 by_cases p : 1 ≤ x.f0 ∧ x.f0 ≤ idx ∧ (0 < i → y.f0 < x.f0)
 ·refine .inl ⟨p, fun b e => Ev.step (fun k => by rw [aj.l2]) ?_⟩
  have e := go b e
  obtain ⟨p1, p2, p9⟩ := p
  rw [hx]
  refine aa (by omega) (aa (by omega) (az (by omega) (az (by omega) ?_)))
  refine jv (fun c => ?_) (fun _ => e)
  rw [sj (x := (i : Int) - 1) (by omega) (by omega), hy]
  have := p9 (by omega)
  exact aa (by omega) (aa (by omega) (az (by omega) e))
 ·refine .inr ⟨p, Ev.step (fun k => by rw [aj.l2]) ?_⟩
  rw [hx]
  refine aa (by omega) (aa (by omega) (jv (fun _ => Ev.now _) (fun c1 => jv (fun _ => Ev.now _) (fun c2 => ?_))))
  by_cases c9 : (i : Int) > 0
  ·refine aa c9 ?_
   rw [sj (x := (i : Int) - 1) (by omega) (by omega), hy]
   refine aa (by omega) (aa (by omega) (aa ?_ (Ev.now _)))
   rcases Int.lt_or_le y.f0 x.f0 with z | z
   ·exact absurd ⟨by omega, by omega, fun _ => z⟩ p
   ·omega
  ·exact absurd ⟨by omega, by omega, fun z => by omega⟩ p
theorem UM (idx : Int) (rows : List kG) (tombs : List lQ) (lost : Int) (sess : List l7) (lasts : List mE) (hr : rows.length ≤ 1048576) (ht : tombs.length ≤ 1048576) (hs : sess.length ≤ 1048576) (hn : lasts.length ≤ 1048576) (hbr : Bv rows) (hbt : uM tombs) (hk : ∀ t ∈ tombs, t.f0.length ≤ 1048576) :
  ∃ b, Ev (fun k => aj.l1 k ((0 : Nat) : Int) idx rows tombs lost sess lasts) b ∧ (b = true ↔ ((∀ i, i < tombs.length → Jh idx lost rows tombs i) ∧ (∀ i, i < sess.length → Au idx sess i) ∧ (∀ i, i < lasts.length → yQ idx lasts i))) := by
 obtain ⟨bl, el, hl⟩ := K9 idx rows tombs lost sess lasts hs hn
 refine yO (L := fun k i => aj.l1 k (i : Int) idx rows tombs lost sess lasts) tombs.length (Jh idx lost rows tombs) _ ⟨bl, (by refine Ev.step (fun k => by rw [aj.l1]) ?_; exact az (by omega) el), hl⟩ ?_ tombs.length 0 (by omega) (by omega) (by omega)
 intro i hi _
 have go : ∀ b, Ev (fun k => aj.l1 k ((i + 1 : Nat) : Int) idx rows tombs lost sess lasts) b → Ev (fun k => aj.l1 k (wrap64 ((i : Int) + 1)) idx rows tombs lost sess lasts) b := fun b e => by
  rw [sj (by omega) (by omega)]
  rw [Int.natCast_add, Int.natCast_one] at e
  exact e
 have hm := OI tombs i hi
 unfold Jh
 generalize hx : bu tombs (i : Int) = x at hm
 generalize hy : bu tombs ((i : Int) - 1) = y
 have hb := hbt x hm
 have e1 := OG x.f0 (by have := hk x hm; omega)
 have e2 := aaw idx rows tombs lost sess lasts x.f0 hr hbr hb
 have e3 := Xi idx rows tombs lost sess lasts x.f0 ht hbt hb
 have r2 := QF x.f0 rows 0 (by omega)
 by_cases p1 : CS x.f0 = true
 case neg => exact .inr ⟨fun z => p1 z.1, Ev.step (fun k => by rw [aj.l1]) (by rw [hx]; exact aa (by omega) (aa (by omega) (Ev.bind e1 (az p1 (Ev.now _)))))⟩
 by_cases p2 : ∃ r ∈ rows, r.f0 = x.f0
 case pos =>
  refine .inr ⟨fun z => ?_, Ev.step (fun k => by rw [aj.l1]) (by rw [hx]; exact aa (by omega) (aa (by omega) (Ev.bind e1 (aa p1 (Ev.bind e2 (aa (r2.2 p2) (Ev.now _)))))))⟩
  obtain ⟨r, a, b⟩ := p2
  exact z.2.1 r a b
 have q2 : ∀ r ∈ rows, r.f0 ≠ x.f0 := fun r a b => p2 ⟨r, a, b⟩
 have n2 : ¬ Ji x.f0 rows 0 ≥ 0 := fun z => p2 (r2.1 z)
 by_cases p3 : BL x.f0 tombs 0 = (i : Int)
 case neg => exact .inr ⟨fun z => p3 z.2.2.1, Ev.step (fun k => by rw [aj.l1]) (by rw [hx]; exact aa (by omega) (aa (by omega) (Ev.bind e1 (aa p1 (Ev.bind e2 (az n2 (Ev.bind e3 (az p3 (Ev.now _)))))))))⟩
 have go2 : ∀ {g : Nat → Option Bool} {b : Bool}, Ev g b → Ev (fun k => (fD.f k x.f0).bind fun t136 => if t136 = true then ((jD.f k idx rows tombs lost sess lasts x.f0).bind fun t137 => if t137 ≥ 0 then some false else ((iU.f k idx rows tombs lost sess lasts x.f0).bind fun t138 => if t138 = (i : Int) then g k else some false)) else some false) b := fun h => Ev.bind e1 (aa p1 (Ev.bind e2 (az n2 (Ev.bind e3 (aa p3 h)))))
 by_cases p : 1 ≤ x.f1 ∧ x.f1 ≤ idx ∧ lost ≤ x.f1 ∧ (0 < i → y.f1 ≤ x.f1)
 ·refine .inl ⟨⟨p1, q2, p3, p⟩, fun b e => Ev.step (fun k => by rw [aj.l1]) ?_⟩
  have e := go b e
  obtain ⟨p4, p5, p6, p9⟩ := p
  rw [hx]
  refine aa (by omega) (aa (by omega) (go2 ?_))
  refine az (by omega) (az (by omega) (az (by omega) ?_))
  refine jv (fun c => ?_) (fun _ => e)
  rw [sj (x := (i : Int) - 1) (by omega) (by omega), hy]
  have := p9 (by omega)
  exact aa (by omega) (aa (by omega) (az (by omega) e))
 ·refine .inr ⟨fun z => p z.2.2.2, Ev.step (fun k => by rw [aj.l1]) ?_⟩
  rw [hx]
  refine aa (by omega) (aa (by omega) (go2 ?_))
  refine jv (fun _ => Ev.now _) (fun c1 => jv (fun _ => Ev.now _) (fun c2 => jv (fun _ => Ev.now _) (fun c3 => ?_)))
  by_cases c9 : (i : Int) > 0
  ·refine aa c9 ?_
   rw [sj (x := (i : Int) - 1) (by omega) (by omega), hy]
   refine aa (by omega) (aa (by omega) (aa ?_ (Ev.now _)))
   rcases Int.lt_or_le x.f1 y.f1 with z | z
   ·exact z
   ·exact absurd ⟨by omega, by omega, by omega, fun _ => z⟩ p
  ·exact absurd ⟨by omega, by omega, by omega, fun z => by omega⟩ p
theorem Xj (idx : Int) (rows : List kG) (tombs : List lQ) (lost : Int) (sess : List l7) (lasts : List mE) (hr : rows.length ≤ 1048576) (ht : tombs.length ≤ 1048576) (hs : sess.length ≤ 1048576) (hn : lasts.length ≤ 1048576) (hbr : Bv rows) (hbt : uM tombs) (hk : ∀ t ∈ tombs, t.f0.length ≤ 1048576) (hkr : ∀ r ∈ rows, r.f0.length ≤ 1048576) :
  ∃ b, Ev (fun k => aj.l0 k ((0 : Nat) : Int) idx rows tombs lost sess lasts) b ∧ (b = true ↔ ((∀ i, i < rows.length → EU idx sess rows i) ∧ (∀ i, i < tombs.length → Jh idx lost rows tombs i) ∧ (∀ i, i < sess.length → Au idx sess i) ∧ (∀ i, i < lasts.length → yQ idx lasts i))) := by
 obtain ⟨bl, el, hl⟩ := UM idx rows tombs lost sess lasts hr ht hs hn hbr hbt hk
 refine yO (L := fun k i => aj.l0 k (i : Int) idx rows tombs lost sess lasts) rows.length (EU idx sess rows) _ ⟨bl, (by refine Ev.step (fun k => by rw [aj.l0]) ?_; exact az (by omega) el), hl⟩ ?_ rows.length 0 (by omega) (by omega) (by omega)
 intro i hi _
 have go : ∀ b, Ev (fun k => aj.l0 k ((i + 1 : Nat) : Int) idx rows tombs lost sess lasts) b → Ev (fun k => aj.l0 k (wrap64 ((i : Int) + 1)) idx rows tombs lost sess lasts) b := fun b e => by
  rw [sj (by omega) (by omega)]
  rw [Int.natCast_add, Int.natCast_one] at e
  exact e
 have hm := Bu rows i hi
 have hy0 : 0 < i → ax rows ((i : Int) - 1) ∈ rows := fun z => by
  have := Bu rows (i - 1) (by omega)
  rwa [show ((i - 1 : Nat) : Int) = (i : Int) - 1 by omega] at this
 unfold EU
 generalize hx : ax rows (i : Int) = x at hm
 generalize hy : ax rows ((i : Int) - 1) = y at hy0
 have hb := (hbr x hm).1
 have e1 := OG x.f0 (by have := hkr x hm; omega)
 have e3 := Xh idx rows tombs lost sess lasts x.f3 hs
 have less : 0 < i → Op.bytesLess ((strOfNums y.f0).toList) ((strOfNums x.f0).toList) = decide (aA.cmp y.f0 x.f0 < 0) := fun z => aav _ _ (hbr y (hy0 z)).1 hb
 by_cases p1 : CS x.f0 = true
 case neg => exact .inr ⟨fun z => p1 z.1, Ev.step (fun k => by rw [aj.l0]) (by rw [hx]; exact aa (by omega) (aa (by omega) (Ev.bind e1 (az p1 (Ev.now _)))))⟩
 by_cases p2 : x.f1.length ≤ 20
 case neg => exact .inr ⟨fun z => p2 z.2.1, Ev.step (fun k => by rw [aj.l0]) (by rw [hx]; exact aa (by omega) (aa (by omega) (Ev.bind e1 (aa p1 (bU rfl (az (by rw [decide_eq_true_iff]; omega) (Ev.now _)))))))⟩
 have go2 : ∀ {g : Nat → Option Bool} {b : Bool}, Ev g b → Ev (fun k => (fD.f k x.f0).bind fun t129 => if t129 = true then ((vC.f x.f1).bind fun t130 => if t130 = true then g k else some false) else some false) b := fun h => Ev.bind e1 (aa p1 (bU rfl (aa (by rw [decide_eq_true_iff]; omega) h)))
 have tail : ∀ b, (aA.cmp y.f0 x.f0 < 0 → Ev (fun k => aj.l0 k (wrap64 ((i : Int) + 1)) idx rows tombs lost sess lasts) b) → (¬ (i : Int) > 0 → Ev (fun k => aj.l0 k (wrap64 ((i : Int) + 1)) idx rows tombs lost sess lasts) b) → ((i : Int) > 0 → ¬ aA.cmp y.f0 x.f0 < 0 → b = false) →
   Ev (fun k => if (i : Int) > 0 then (if 0 ≤ (wrap64 ((i : Int) - 1)) then (if (wrap64 ((i : Int) - 1)) < (rows.length : Int) then (if ((Op.bytesLess ((strOfNums ((ax rows (wrap64 ((i : Int) - 1))).f0)).toList) ((strOfNums (x.f0)).toList)) = true) then (aj.l0 k (wrap64 ((i : Int) + 1)) idx rows tombs lost sess lasts) else (some false)) else (none)) else (none)) else (aj.l0 k (wrap64 ((i : Int) + 1)) idx rows tombs lost sess lasts)) b := by
  intro b h1 h2 h3
  refine jv (fun c => ?_) (fun c => h2 c)
  rw [sj (x := (i : Int) - 1) (by omega) (by omega), hy, less (by omega)]
  refine aa (by omega) (aa (by omega) (jv (fun z => ?_) (fun z => ?_)))
  ·exact h1 (by simpa using z)
  ·rw [h3 c (by simpa using z)]
   exact Ev.now _
 by_cases p3 : x.f2 < 1
 ·exact .inr ⟨fun z => by have := z.2.2.1; omega, Ev.step (fun k => by rw [aj.l0]) (by rw [hx]; exact aa (by omega) (aa (by omega) (go2 (aa p3 (Ev.now _)))))⟩
 by_cases p4 : x.f2 > idx
 ·exact .inr ⟨fun z => by have := z.2.2.2.1; omega, Ev.step (fun k => by rw [aj.l0]) (by rw [hx]; exact aa (by omega) (aa (by omega) (go2 (az p3 (aa p4 (Ev.now _))))))⟩
 by_cases p5 : x.f3 = 0 ∨ ¬ yP x.f3 sess 0 < 0
 case neg =>
  have a : ¬ x.f3 = 0 := fun z => p5 (.inl z)
  have b : yP x.f3 sess 0 < 0 := by
   rcases Int.lt_or_le (yP x.f3 sess 0) 0 with z | z
   ·exact z
   ·exact absurd (.inr (by omega)) p5
  exact .inr ⟨fun z => p5 z.2.2.2.2.1, Ev.step (fun k => by rw [aj.l0]) (by rw [hx]; exact aa (by omega) (aa (by omega) (go2 (az p3 (az p4 (az a (Ev.bind e3 (aa b (Ev.now _)))))))))⟩
 have hold : ∀ {g : Nat → Option Bool} {b : Bool}, Ev g b → Ev (fun k => if x.f3 = 0 then g k else ((iT.f k idx rows tombs lost sess lasts x.f3).bind fun t132 => if t132 < 0 then some false else g k)) b := fun h => jv (fun _ => h) (fun c => Ev.bind e3 (az (by rcases p5 with z | z; exact absurd z c; exact z) h))
 by_cases p6 : 0 < i → aA.cmp y.f0 x.f0 < 0
 ·refine .inl ⟨⟨p1, p2, by omega, by omega, p5, p6⟩, fun b e => Ev.step (fun k => by rw [aj.l0]) ?_⟩
  have e := go b e
  rw [hx]
  exact aa (by omega) (aa (by omega) (go2 (az p3 (az p4 (hold (tail b (fun _ => e) (fun _ => e) (fun c z => absurd (p6 (by omega)) z)))))))
 ·refine .inr ⟨fun z => p6 z.2.2.2.2.2, Ev.step (fun k => by rw [aj.l0]) ?_⟩
  rw [hx]
  refine aa (by omega) (aa (by omega) (go2 (az p3 (az p4 (hold (tail false (fun z => absurd (fun _ => z) p6) (fun z => absurd (fun y => by omega) p6) (fun _ _ => rfl)))))))
theorem OO (idx : Int) (rows : List kG) (tombs : List lQ) (lost : Int) (sess : List l7) (lasts : List mE) (hr : rows.length ≤ 1048576) (ht : tombs.length ≤ 1048576) (hs : sess.length ≤ 1048576) (hn : lasts.length ≤ 1048576) (hbr : Bv rows) (hbt : uM tombs) (hk : ∀ t ∈ tombs, t.f0.length ≤ 1048576) (hkr : ∀ r ∈ rows, r.f0.length ≤ 1048576) :
  ∃ b, Ev (fun k => aj.f k idx rows tombs lost sess lasts) b ∧ (b = true ↔ J7 idx rows tombs lost sess lasts) := by
 obtain ⟨b, e, h⟩ := Xj idx rows tombs lost sess lasts hr ht hs hn hbr hbt hk hkr
 have no : Ev (fun k => aj.j0 k true idx rows tombs lost sess lasts) false := (by refine Ev.step (fun k => by rw [aj.j0]) ?_; exact aa rfl (Ev.now _))
 unfold aj.f ko.f J7 ai9
 by_cases c1 : idx ≥ 0
 case neg => exact ⟨false, bU (by rw [if_neg c1]) (az (by simp) no), ⟨fun z => absurd z (by simp), fun z => absurd z.1.1.1 c1⟩⟩
 by_cases c2 : idx ≤ 1000000
 case neg => exact ⟨false, bU (by rw [if_pos c1, decide_eq_false c2]) (az (by simp) no), ⟨fun z => absurd z (by simp), fun z => absurd z.1.1.2 c2⟩⟩
 have e0 : (if idx ≥ 0 then some (decide (idx ≤ 1000000)) else some false) = some true := by rw [if_pos c1, decide_eq_true c2]
 by_cases q : (0 ≤ lost ∧ lost ≤ idx) ∧ rows.length ≤ 20 ∧ tombs.length ≤ 10 ∧ sess.length ≤ 8 ∧ lasts.length ≤ 4
 ·obtain ⟨⟨q1, q2⟩, q3, q4, q5, q6⟩ := q
  refine ⟨b, bU e0 (aa rfl (az (by omega) (az (by omega) (az (by omega) (az (by omega) (az (by omega) ?_)))))), h.trans ⟨fun z => ⟨⟨⟨c1, c2⟩, ⟨q1, q2⟩, q3, q4, q5, q6⟩, z⟩, fun z => z.2⟩⟩
  rw [decide_eq_false (by omega)]
  exact (by refine Ev.step (fun k => by rw [aj.j0]) ?_; exact az (by simp) e)
 ·refine ⟨false, bU e0 (aa rfl (jv (fun _ => no) (fun d1 => jv (fun _ => no) (fun d2 => jv (fun _ => no) (fun d3 => jv (fun _ => no) (fun d4 => jv (fun _ => no) (fun d5 => ?_))))))), ⟨fun z => absurd z (by simp), fun z => absurd z.1.2 q⟩⟩
  rw [decide_eq_true (show (lasts.length : Int) > 4 by
   rcases Nat.lt_or_ge 4 lasts.length with y | y
   ·omega
   ·exact absurd ⟨⟨by omega, by omega⟩, by omega, by omega, by omega, y⟩ q)]
  exact no
-- statelaw.lean: a state's copy, its comparison with itself, how much it holds
def u_ (x : BV) : kG := ⟨x.f0, x.f1, x.f2, x.f3⟩
def qo (x : BX) : lQ := ⟨x.f0, x.f1⟩
def sW (x : Jm) : l7 := ⟨x.f0, x.f1⟩
def sZ (x : uR) : mE := ⟨x.f0, x.f1, ⟨x.f2.f0, x.f2.f1⟩⟩
theorem CU (l : List BV) (i : Nat) (h : i < l.length) : ik l (i : Int) = l[i] := by
 unfold ik
 rw [Int.toNat_natCast]
 simp [List.getD, h]
theorem CV (l : List BX) (i : Nat) (h : i < l.length) : nS l (i : Int) = l[i] := by
 unfold nS
 rw [Int.toNat_natCast]
 simp [List.getD, h]
theorem Xk (l : List Jm) (i : Nat) (h : i < l.length) : zF l (i : Int) = l[i] := by
 unfold zF
 rw [Int.toNat_natCast]
 simp [List.getD, h]
theorem Xl (l : List uR) (i : Nat) (h : i < l.length) : oh l (i : Int) = l[i] := by
 unfold oh
 rw [Int.toNat_natCast]
 simp [List.getD, h]
structure afv (x : U6) : Prop where
 h1 : x.f1.length ≤ 1048576
 h2 : x.f2.length ≤ 1048576
 h4 : x.f4.length ≤ 1048576
 h5 : x.f5.length ≤ 1048576
 k1 : ∀ r ∈ x.f1, r.f0.length ≤ 1048576 ∧ r.f1.length ≤ 1048576
 k2 : ∀ r ∈ x.f2, r.f0.length ≤ 1048576
 w1 : (x.f1.map (fun r => r.f0.length + r.f1.length)).sum ≤ 1048576
 w2 : (x.f2.map (fun r => r.f0.length)).sum ≤ 1048576
theorem aja (x : BV) (h : x.f0.length ≤ 1048576 ∧ x.f1.length ≤ 1048576) : Ev (fun k => sU.f k x.f0 x.f1 x.f2 x.f3) (x.f0, x.f1, x.f2, x.f3) := by
 unfold sU.f
 exact Ev.bind (ET _ (by omega)) (Ev.bind (ET _ (by omega)) (Ev.now _))
theorem afw (x : BX) (h : x.f0.length ≤ 1048576) : Ev (fun k => rz.f k x.f0 x.f1) (x.f0, x.f1) := by
 unfold rz.f
 exact Ev.bind (ET _ (by omega)) (Ev.now _)
theorem afx (l : List BV) (hn : l.length ≤ 1048576) (hk : ∀ r ∈ l, r.f0.length ≤ 1048576 ∧ r.f1.length ≤ 1048576) : Ev (fun k => iC.f k l) (l.map u_) := by
 unfold iC.f
 refine aa (by omega) (aa (by omega) ?_)
 rw [Int.toNat_natCast]
 refine DI l u_ z70 (fun k x i => iC.l0 k l x i) (fun x => ?_) (fun i hi x hx r e => ?_)
 ·refine Ev.step (fun k => by rw [iC.l0]) ?_
  exact az (by omega) (Ev.now _)
 ·refine Ev.step (fun k => by rw [iC.l0]) ?_
  rw [CU l i hi, sj (x := (i : Int) + 1) (by omega) (by omega)]
  rw [Int.natCast_add, Int.natCast_one] at e
  exact aa (by omega) (aa (by omega) (Ev.bind (aja l[i] (hk _ (List.getElem_mem hi))) (aa (by omega) e)))
theorem aax (l : List BX) (hn : l.length ≤ 1048576) (hk : ∀ r ∈ l, r.f0.length ≤ 1048576) : Ev (fun k => gP.f k l) (l.map qo) := by
 unfold gP.f
 refine aa (by omega) (aa (by omega) ?_)
 rw [Int.toNat_natCast]
 refine DI l qo z85 (fun k x i => gP.l0 k l x i) (fun x => ?_) (fun i hi x hx r e => ?_)
 ·refine Ev.step (fun k => by rw [gP.l0]) ?_
  exact az (by omega) (Ev.now _)
 ·refine Ev.step (fun k => by rw [gP.l0]) ?_
  rw [CV l i hi, sj (x := (i : Int) + 1) (by omega) (by omega)]
  rw [Int.natCast_add, Int.natCast_one] at e
  exact aa (by omega) (aa (by omega) (Ev.bind (afw l[i] (hk _ (List.getElem_mem hi))) (aa (by omega) e)))
theorem Pm (l : List Jm) (hn : l.length ≤ 1048576) : Ev (fun k => fE.f k l) (l.map sW) := by
 unfold fE.f
 refine aa (by omega) (aa (by omega) ?_)
 rw [Int.toNat_natCast]
 refine DI l sW z88 (fun k x i => fE.l0 k l x i) (fun x => ?_) (fun i hi x hx r e => ?_)
 ·refine Ev.step (fun k => by rw [fE.l0]) ?_
  exact az (by omega) (Ev.now _)
 ·refine Ev.step (fun k => by rw [fE.l0]) ?_
  rw [Xk l i hi, sj (x := (i : Int) + 1) (by omega) (by omega)]
  rw [Int.natCast_add, Int.natCast_one] at e
  exact aa (by omega) (aa (by omega) (bU rfl (aa (by omega) e)))
theorem aay (l : List uR) (hn : l.length ≤ 1048576) : Ev (fun k => gQ.f k l) (l.map sZ) := by
 unfold gQ.f
 refine aa (by omega) (aa (by omega) ?_)
 rw [Int.toNat_natCast]
 refine DI l sZ z92 (fun k x i => gQ.l0 k l x i) (fun x => ?_) (fun i hi x hx r e => ?_)
 ·refine Ev.step (fun k => by rw [gQ.l0]) ?_
  exact az (by omega) (Ev.now _)
 ·refine Ev.step (fun k => by rw [gQ.l0]) ?_
  rw [Xl l i hi, sj (x := (i : Int) + 1) (by omega) (by omega)]
  rw [Int.natCast_add, Int.natCast_one] at e
  exact aa (by omega) (aa (by omega) (bU rfl (aa (by omega) e)))
theorem aap (x : U6) (h : afv x) : Ev (fun k => jO.f k x.f0 x.f1 x.f2 x.f3 x.f4 x.f5) (x.f0, x.f1.map u_, x.f2.map qo, x.f3, x.f4.map sW, x.f5.map sZ) := by
 unfold jO.f
 exact Ev.bind (afx _ h.h1 h.k1) (Ev.bind (aax _ h.h2 h.k2) (Ev.bind (Pm _ h.h4) (Ev.bind (aay _ h.h5) (Ev.now _))))
theorem aaz (x : kG) (h : x.f0.length ≤ 1048576 ∧ x.f1.length ≤ 1048576) : Ev (fun k => rC.f k x.f0 x.f1 x.f2 x.f3 x.f0 x.f1 x.f2 x.f3) true := by
 unfold rC.f
 exact Ev.bind (yf _ (by omega)) (aa rfl (Ev.bind (yf _ (by omega)) (aa rfl (aa rfl (aa rfl (Ev.now _))))))
theorem Xm (x : lQ) (h : x.f0.length ≤ 1048576) : Ev (fun k => pK.f k x.f0 x.f1 x.f0 x.f1) true := by
 unfold pK.f
 exact Ev.bind (yf _ (by omega)) (aa rfl (aa rfl (Ev.now _)))
theorem OP (a : Int) (b : Bool) : mq.f a b a b = some true := by
 unfold mq.f
 rw [if_pos rfl, if_neg (by simp)]
theorem Xn (a b c d : Int) : pJ.f a b c d a b c d = some true := by
 unfold pJ.f pY.f
 rw [if_pos rfl, if_pos rfl, if_pos rfl, if_pos rfl]
 rfl
theorem Xo (l : List kG) (hn : l.length ≤ 1048576) (hk : ∀ r ∈ l, r.f0.length ≤ 1048576 ∧ r.f1.length ≤ 1048576) : Ev (fun k => ek.f k l l) true := by
 unfold ek.f
 refine aa rfl ?_
 refine DJ (n := l.length) (fun k i => ek.l0 k l l i) ?_ (fun i hi e => ?_)
 ·refine Ev.step (fun k => by rw [ek.l0]) ?_
  exact az (by omega) (Ev.now _)
 ·refine Ev.step (fun k => by rw [ek.l0]) ?_
  rw [qm l i hi, sj (x := (i : Int) + 1) (by omega) (by omega)]
  rw [Int.natCast_add, Int.natCast_one] at e
  exact aa (by omega) (aa (by omega) (aa (by omega) (Ev.bind (aaz l[i] (hk _ (List.getElem_mem hi))) (aa rfl e))))
theorem UN (l : List lQ) (hn : l.length ≤ 1048576) (hk : ∀ r ∈ l, r.f0.length ≤ 1048576) : Ev (fun k => dN.f k l l) true := by
 unfold dN.f
 refine aa rfl ?_
 refine DJ (n := l.length) (fun k i => dN.l0 k l l i) ?_ (fun i hi e => ?_)
 ·refine Ev.step (fun k => by rw [dN.l0]) ?_
  exact az (by omega) (Ev.now _)
 ·refine Ev.step (fun k => by rw [dN.l0]) ?_
  rw [OJ l i hi, sj (x := (i : Int) + 1) (by omega) (by omega)]
  rw [Int.natCast_add, Int.natCast_one] at e
  exact aa (by omega) (aa (by omega) (aa (by omega) (Ev.bind (Xm l[i] (hk _ (List.getElem_mem hi))) (aa rfl e))))
theorem K_ (l : List l7) (hn : l.length ≤ 1048576) : Ev (fun k => df.f k l l) true := by
 unfold df.f
 refine aa rfl ?_
 refine DJ (n := l.length) (fun k i => df.l0 k l l i) ?_ (fun i hi e => ?_)
 ·refine Ev.step (fun k => by rw [df.l0]) ?_
  exact az (by omega) (Ev.now _)
 ·refine Ev.step (fun k => by rw [df.l0]) ?_
  rw [KP l i hi, sj (x := (i : Int) + 1) (by omega) (by omega)]
  rw [Int.natCast_add, Int.natCast_one] at e
  exact aa (by omega) (aa (by omega) (aa (by omega) (bU (OP _ _) (aa rfl e))))
theorem UO (l : List mE) (hn : l.length ≤ 1048576) : Ev (fun k => eF.f k l l) true := by
 unfold eF.f
 refine aa rfl ?_
 refine DJ (n := l.length) (fun k i => eF.l0 k l l i) ?_ (fun i hi e => ?_)
 ·refine Ev.step (fun k => by rw [eF.l0]) ?_
  exact az (by omega) (Ev.now _)
 ·refine Ev.step (fun k => by rw [eF.l0]) ?_
  rw [aas l i hi, sj (x := (i : Int) + 1) (by omega) (by omega)]
  rw [Int.natCast_add, Int.natCast_one] at e
  exact aa (by omega) (aa (by omega) (aa (by omega) (bU (Xn _ _ _ _) (aa rfl e))))
theorem Bz {l : List BV} (h : ∀ r ∈ l, r.f0.length ≤ 1048576 ∧ r.f1.length ≤ 1048576) : ∀ r ∈ l.map u_, r.f0.length ≤ 1048576 ∧ r.f1.length ≤ 1048576 := fun r hr => by
 obtain ⟨x, hx, rfl⟩ := List.mem_map.1 hr
 exact h x hx
theorem zL {l : List BX} (h : ∀ r ∈ l, r.f0.length ≤ 1048576) : ∀ r ∈ l.map qo, r.f0.length ≤ 1048576 := fun r hr => by
 obtain ⟨x, hx, rfl⟩ := List.mem_map.1 hr
 exact h x hx
theorem UB (x : U6) (h : afv x) : Ev (fun k => pQ.f k x.f0 (x.f1.map u_) (x.f2.map qo) x.f3 (x.f4.map sW) (x.f5.map sZ) x.f0 (x.f1.map u_) (x.f2.map qo) x.f3 (x.f4.map sW) (x.f5.map sZ)) true := by
 unfold pQ.f
 refine aa rfl (Ev.bind (Xo _ (by rw [List.length_map]; exact h.h1) (Bz h.k1)) (aa rfl (Ev.bind (UN _ (by rw [List.length_map]; exact h.h2) (zL h.k2)) (aa rfl (aa rfl ?_)))))
 exact Ev.bind (K_ _ (by rw [List.length_map]; exact h.h4)) (aa rfl (Ev.bind (UO _ (by rw [List.length_map]; exact h.h5)) (aa rfl (Ev.now _))))
theorem ajb (x : BV) (left : Int) (h0 : 0 ≤ left) (h1 : left ≤ 1048576) (ha : x.f0.length ≤ maxLen) (hb : x.f1.length ≤ maxLen) : ∃ r, ry.f x.f0 x.f1 x.f2 x.f3 left = some r ∧ (0 ≤ r → r + ((x.f0.length + x.f1.length : Nat) : Int) = left) := by
 unfold ry.f
 obtain ⟨q, e, hq⟩ := CR x.f0 left h0 h1 ha
 rw [e, Option.bind_some]
 by_cases c : q < 0
 ·rw [if_pos c]
  exact ⟨-1, rfl, fun h => absurd h (by decide)⟩
 ·have := hq (by omega)
  obtain ⟨p, e2, hp⟩ := CR x.f1 q (by omega) (by omega) hb
  rw [if_neg c, e2, Option.bind_some]
  by_cases c2 : p < 0
  ·rw [if_pos c2]
   exact ⟨-1, rfl, fun h => absurd h (by decide)⟩
  ·rw [if_neg c2]
   exact ⟨p, rfl, fun h => by have := hp h; omega⟩
theorem afy (x : BX) (left : Int) (h0 : 0 ≤ left) (h1 : left ≤ 1048576) (ha : x.f0.length ≤ maxLen) : ∃ r, pI.f x.f0 x.f1 left = some r ∧ (0 ≤ r → r + (x.f0.length : Int) = left) := by
 unfold pI.f
 obtain ⟨q, e, hq⟩ := CR x.f0 left h0 h1 ha
 rw [e, Option.bind_some]
 by_cases c : q < 0
 ·rw [if_pos c]
  exact ⟨-1, rfl, fun h => absurd h (by decide)⟩
 ·rw [if_neg c]
  exact ⟨q, rfl, hq⟩
theorem afz (l : List BV) (hl : l.length ≤ maxLen) (hk : ∀ r ∈ l, r.f0.length ≤ maxLen ∧ r.f1.length ≤ maxLen) (left : Int) (h0 : 0 ≤ left) (h1 : left ≤ 1048576) : ∃ r, Ev (fun k => gH.f k l left) r ∧ (0 ≤ r → r + (l.length : Int) + (((l.map (fun r => r.f0.length + r.f1.length)).sum : Nat) : Int) = left ∧ ∀ r ∈ l, r.f0.length ≤ 1048576 ∧ r.f1.length ≤ 1048576) := by
 unfold gH.f
 have hl' := hl
 unfold maxLen at hl'
 rw [sj (by omega) (by omega)]
 by_cases c : left - (l.length : Int) < 0
 ·exact ⟨-1, aa c (Ev.now _), fun h => absurd h (by decide)⟩
 obtain ⟨r, e, hr⟩ := QE l (fun r => r.f0.length ≤ 1048576 ∧ r.f1.length ≤ 1048576) (fun r => r.f0.length + r.f1.length) (fun k q i => gH.l0 k l q i) (fun q => by
   refine Ev.step (fun k => by rw [gH.l0]) ?_
   exact az (by omega) (Ev.now _)) (fun i hi q q0 q1 => by
  obtain ⟨p, e, hp⟩ := ajb l[i] q q0 q1 (hk _ (List.getElem_mem hi)).1 (hk _ (List.getElem_mem hi)).2
  by_cases c2 : p < 0
  ·refine .inr ?_
   refine Ev.step (fun k => by rw [gH.l0]) ?_
   rw [CU l i hi]
   exact aa (by omega) (aa (by omega) (bU e (aa c2 (Ev.now _))))
  ·have hq := hp (by omega)
   refine .inl ⟨p, by omega, hq, ⟨by omega, by omega⟩, fun r er => ?_⟩
   refine Ev.step (fun k => by rw [gH.l0]) ?_
   rw [CU l i hi, sj (x := (i : Int) + 1) (by omega) (by omega)]
   rw [Int.natCast_add, Int.natCast_one] at er
   exact aa (by omega) (aa (by omega) (bU e (az c2 er)))) (left - (l.length : Int)) (by omega) (by omega)
 refine ⟨r, az c e, fun h => ?_⟩
 obtain ⟨a, b⟩ := hr h
 exact ⟨by omega, b⟩
theorem aaA (l : List BX) (hl : l.length ≤ maxLen) (hk : ∀ r ∈ l, r.f0.length ≤ maxLen) (left : Int) (h0 : 0 ≤ left) (h1 : left ≤ 1048576) : ∃ r, Ev (fun k => gy.f k l left) r ∧ (0 ≤ r → r + (l.length : Int) + (((l.map (fun r => r.f0.length)).sum : Nat) : Int) = left ∧ ∀ r ∈ l, r.f0.length ≤ 1048576) := by
 unfold gy.f
 have hl' := hl
 unfold maxLen at hl'
 rw [sj (by omega) (by omega)]
 by_cases c : left - (l.length : Int) < 0
 ·exact ⟨-1, aa c (Ev.now _), fun h => absurd h (by decide)⟩
 obtain ⟨r, e, hr⟩ := QE l (fun r => r.f0.length ≤ 1048576) (fun r => r.f0.length) (fun k q i => gy.l0 k l q i) (fun q => by
   refine Ev.step (fun k => by rw [gy.l0]) ?_
   exact az (by omega) (Ev.now _)) (fun i hi q q0 q1 => by
  obtain ⟨p, e, hp⟩ := afy l[i] q q0 q1 (hk _ (List.getElem_mem hi))
  by_cases c2 : p < 0
  ·refine .inr ?_
   refine Ev.step (fun k => by rw [gy.l0]) ?_
   rw [CV l i hi]
   exact aa (by omega) (aa (by omega) (bU e (aa c2 (Ev.now _))))
  ·have hq := hp (by omega)
   refine .inl ⟨p, by omega, hq, by omega, fun r er => ?_⟩
   refine Ev.step (fun k => by rw [gy.l0]) ?_
   rw [CV l i hi, sj (x := (i : Int) + 1) (by omega) (by omega)]
   rw [Int.natCast_add, Int.natCast_one] at er
   exact aa (by omega) (aa (by omega) (bU e (az c2 er)))) (left - (l.length : Int)) (by omega) (by omega)
 refine ⟨r, az c e, fun h => ?_⟩
 obtain ⟨a, b⟩ := hr h
 exact ⟨by omega, b⟩
theorem aao (x : U6) (h : Mw x) : ∃ r, Ev (fun k => oD.f k x.f0 x.f1 x.f2 x.f3 x.f4 x.f5 1048576) r ∧ (0 ≤ r → afv x) := by
 obtain ⟨_, ⟨a1, b1⟩, ⟨a2, b2⟩, _, ⟨a4, _⟩, ⟨a5, _⟩⟩ := h
 unfold oD.f lJ.f pW.f
 unfold maxLen at a4 a5
 obtain ⟨q1, e1, h1⟩ := afz x.f1 a1 (fun r hr => ⟨(b1 r hr).1.1, (b1 r hr).2.1.1⟩) 1048576 (by decide) (by decide)
 by_cases c1 : q1 < 0
 ·exact ⟨-1, Ev.bind e1 (aa c1 (Ev.now _)), fun h => absurd h (by decide)⟩
 obtain ⟨g1, k1⟩ := h1 (by omega)
 obtain ⟨q2, e2, h2⟩ := aaA x.f2 a2 (fun r hr => (b2 r hr).1.1) q1 (by omega) (by omega)
 by_cases c2 : q2 < 0
 ·exact ⟨-1, Ev.bind e1 (az c1 (Ev.bind e2 (aa c2 (Ev.now _)))), fun h => absurd h (by decide)⟩
 obtain ⟨g2, k2⟩ := h2 (by omega)
 by_cases c4 : q2 - (x.f4.length : Int) < 0
 ·exact ⟨-1, Ev.bind e1 (az c1 (Ev.bind e2 (az c2 (bU (by rw [sj (by omega) (by omega), if_pos c4]) (aa (by decide) (Ev.now _)))))), fun h => absurd h (by decide)⟩
 by_cases c5 : q2 - (x.f4.length : Int) - (x.f5.length : Int) < 0
 ·exact ⟨-1, Ev.bind e1 (az c1 (Ev.bind e2 (az c2 (bU (by rw [sj (by omega) (by omega), if_neg c4]) (az c4 (bU (by rw [sj (by omega) (by omega), if_pos c5]) (aa (by decide) (Ev.now _)))))))), fun h => absurd h (by decide)⟩
 refine ⟨_, Ev.bind e1 (az c1 (Ev.bind e2 (az c2 (bU (by rw [sj (by omega) (by omega), if_neg c4]) (az c4 (bU (by rw [sj (by omega) (by omega), if_neg c5]) (az c5 (Ev.now _)))))))), fun _ => ?_⟩
 exact ⟨by omega, by omega, by omega, by omega, k1, k2, by omega, by omega⟩
theorem QG {l : List BV} (h : ∀ r ∈ l, af_ r) : Bv (l.map u_) := fun r hr => by
 obtain ⟨x, hx, rfl⟩ := List.mem_map.1 hr
 exact ⟨(h x hx).1.2, (h x hx).2.1.2⟩
theorem OQ {l : List BX} (h : ∀ r ∈ l, af' r) : uM (l.map qo) := fun r hr => by
 obtain ⟨x, hx, rfl⟩ := List.mem_map.1 hr
 exact (h x hx).1.2
theorem Xp (x : U6) (ok : Mw x) (h : afv x) : ∃ b, Ev (fun k => aj.f k x.f0 (x.f1.map u_) (x.f2.map qo) x.f3 (x.f4.map sW) (x.f5.map sZ)) b ∧ Ev (fun k => av.f k x.f0 (x.f1.map u_) (x.f2.map qo) x.f3 (x.f4.map sW) (x.f5.map sZ)) b ∧ (b = true ↔ J7 x.f0 (x.f1.map u_) (x.f2.map qo) x.f3 (x.f4.map sW) (x.f5.map sZ)) := by
 obtain ⟨_, ⟨_, b1⟩, ⟨_, b2⟩, _⟩ := ok
 have r1 : (x.f1.map u_).length ≤ 1048576 := by rw [List.length_map]; exact h.h1
 have r2 : (x.f2.map qo).length ≤ 1048576 := by rw [List.length_map]; exact h.h2
 have r4 : (x.f4.map sW).length ≤ 1048576 := by rw [List.length_map]; exact h.h4
 have r5 : (x.f5.map sZ).length ≤ 1048576 := by rw [List.length_map]; exact h.h5
 obtain ⟨b, e1, g1⟩ := OO x.f0 (x.f1.map u_) (x.f2.map qo) x.f3 (x.f4.map sW) (x.f5.map sZ) r1 r2 r4 r5 (QG b1) (OQ b2) (zL h.k2) (fun r hr => (Bz h.k1 r hr).1)
 obtain ⟨v, e2, g2⟩ := OL x.f0 (x.f1.map u_) (x.f2.map qo) x.f3 (x.f4.map sW) (x.f5.map sZ) r1 r2 r4 r5 (QG b1) (OQ b2) (zL h.k2) (fun r hr => (Bz h.k1 r hr).1)
 have same : v = b := by
  have : v = true ↔ b = true := g2.trans g1.symm
  cases v <;> cases b <;> simp_all
 subst same
 exact ⟨v, e1, e2, g1⟩
theorem anb (l : List BV) : ((l.map u_).map ag.lU).sum = (l.map (fun r => r.f0.length + r.f1.length)).sum + 2 * l.length := by
 induction l with
 | nil => rfl
 | cons x xs ih =>
  simp only [List.map_cons, List.sum_cons, List.length_cons, ih]
  unfold ag.lU u_
  simp only []
  omega
theorem anc (l : List BX) : ((l.map qo).map ag.kg).sum = (l.map (fun r => r.f0.length)).sum + l.length := by
 induction l with
 | nil => rfl
 | cons x xs ih =>
  simp only [List.map_cons, List.sum_cons, List.length_cons, ih]
  unfold ag.kg qo
  simp only []
  omega
theorem ane (l : List l7) : (l.map ag.mI).sum = 2 * l.length := by
 induction l with
 | nil => rfl
 | cons x xs ih =>
  simp only [List.map_cons, List.sum_cons, List.length_cons, ih]
  unfold ag.mI
  omega
theorem ajc (l : List mE) : (l.map ag.lv).sum = 4 * l.length := by
 induction l with
 | nil => rfl
 | cons x xs ih =>
  simp only [List.map_cons, List.sum_cons, List.length_cons, ih]
  unfold ag.lv
  omega
theorem UA (x : U6) (h : afv x) : ∃ m : Int, ag.f x.f0 (x.f1.map u_) (x.f2.map qo) x.f3 (x.f4.map sW) (x.f5.map sZ) 1 = some m ∧ 0 ≤ m ∧ m ≤ 1000000000 := by
 unfold ag.f
 rw [anb, anc, ane, ajc, List.length_map, List.length_map]
 have := h.h1; have := h.h2; have := h.h4; have := h.h5; have := h.w1; have := h.w2
 rw [if_pos (by omega)]
 exact ⟨_, rfl, by omega, by omega⟩
-- trees.lean: trees: what holds of one that was read, its copy
inductive qB : dR → Prop
 | mk (t : dR) (h0 : t.f0.length ≤ 1048576) (h3 : t.f3.length ≤ 1048576) (hk : ∀ x ∈ t.f3, qB x) : qB t
theorem qB.h0 {t : dR} (h : qB t) : t.f0.length ≤ 1048576 := by cases h; assumption
theorem qB.h3 {t : dR} (h : qB t) : t.f3.length ≤ 1048576 := by cases h; assumption
theorem qB.hk {t : dR} (h : qB t) : ∀ x ∈ t.f3, qB x := by cases h; assumption
theorem yR (l : List dR) (i : Nat) (h : i < l.length) : ak l (i : Int) = l[i] := by
 unfold ak
 rw [Int.toNat_natCast]
 simp [List.getD, h]
-- treeeq.lean: a tree compared with itself
theorem UQ (l : List dR) (hn : l.length ≤ 1048576) (hk : ∀ x ∈ l, Ev (fun k => ig.f k x.f0 x.f1 x.f2 x.f3 x.f0 x.f1 x.f2 x.f3) true) (d : Nat) : ∀ (i : Nat), i ≤ l.length → l.length - i = d → Ev (fun k => dU.l0 k l l (i : Int)) true := by
 induction d with
 | zero =>
  intro i hi hd
  exact Ev.step (fun k => by rw [dU.l0]) (az (by omega) (Ev.now _))
 | succ d ih =>
  intro i hi hd
  have hi' : i < l.length := by omega
  have hm := hk l[i] (List.getElem_mem hi')
  have h := ih (i + 1) (by omega) (by omega)
  refine Ev.step (fun k => by rw [dU.l0]) ?_
  rw [yR l i hi', sj (x := (i : Int) + 1) (by omega) (by omega)]
  rw [Int.natCast_add, Int.natCast_one] at h
  exact aa (by omega) (aa (by omega) (aa (by omega) (Ev.bind hm (aa rfl h))))
theorem Xa {t : dR} (h : qB t) : Ev (fun k => ig.f k t.f0 t.f1 t.f2 t.f3 t.f0 t.f1 t.f2 t.f3) true := by
 induction h with
 | mk t h0 h3 hk ih =>
  refine Ev.step (fun k => by rw [ig.f]) ?_
  refine Ev.bind (yf t.f0 (by omega)) (aa rfl (az (by simp) (aa rfl (Ev.bind (a := true) ?_ (aa rfl (Ev.now _))))))
  have e : Ev (fun k => dU.l0 k t.f3 t.f3 0) true := UQ t.f3 h3 ih t.f3.length 0 (by omega) (by omega)
  refine Ev.step (fun k => by rw [dU.f]) ?_
  exact aa rfl e
-- treeok.lean: which trees are valid: told once for both programs
def okD : Nat → dR → Prop
 | 0, _ => False
 | r + 1, t => (t.f0.length = 0 ↔ r = 24) ∧ (t.f1 = true → 0 ≤ t.f2 ∧ t.f2 ≤ 2147483647) ∧ (t.f1 = false → t.f2 = 0) ∧ (r = 24 ∨ t.f1 = true ∨ 2 ≤ t.f3.length) ∧
   ∀ j, (h : j < t.f3.length) → okD r t.f3[j] ∧ (0 < j → rd (t.f3[j - 1]'(by omega)).f0 0 < rd t.f3[j].f0 0)
def EW (r : Nat) (ks : List dR) (i : Nat) : Prop := ∀ j, i ≤ j → (h : j < ks.length) → okD r ks[j] ∧ (0 < j → rd (ks[j - 1]'(by omega)).f0 0 < rd ks[j].f0 0)
theorem sH {r : Nat} {t : dR} (h : okD r t) (hr : r < 25) : 0 < t.f0.length := by
 cases r with
 | zero => exact h.elim
 | succ r =>
  have := h.1
  omega
theorem kF (r : Nat) (t : dR) : okD (r + 1) t ↔ (t.f0.length = 0 ↔ r = 24) ∧ (t.f1 = true → 0 ≤ t.f2 ∧ t.f2 ≤ 2147483647) ∧ (t.f1 = false → t.f2 = 0) ∧ (r = 24 ∨ t.f1 = true ∨ 2 ≤ t.f3.length) ∧ EW r t.f3 0 := by
 rw [okD]
 unfold EW
 constructor
 ·rintro ⟨a, b, c, d, e⟩
  exact ⟨a, b, c, d, fun j _ h => e j h⟩
 ·rintro ⟨a, b, c, d, e⟩
  exact ⟨a, b, c, d, fun j h => e j (by omega) h⟩
-- entries.lean: the keys of a valid tree, in order
def fF : Nat → List Int → dR → List yn
 | 0, _, _ => []
 | r + 1, ahead, t => (if t.f1 = true then [⟨ahead ++ t.f0, t.f2⟩] else []) ++ (t.f3.map (fF r (ahead ++ t.f0))).flatten
def fG (r : Nat) (ahead : List Int) (ks : List dR) (i : Nat) : List yn := ((ks.drop i).map (fF r ahead)).flatten
theorem BA (r : Nat) (ahead : List Int) (ks : List dR) (i : Nat) (h : ks.length ≤ i) : fG r ahead ks i = [] := by
 unfold fG
 rw [List.drop_of_length_le h]
 rfl
theorem oL (r : Nat) (ahead : List Int) (ks : List dR) (i : Nat) (h : i < ks.length) : fG r ahead ks i = fF r ahead ks[i] ++ fG r ahead ks (i + 1) := by
 unfold fG
 rw [List.drop_eq_getElem_cons h, List.map_cons, List.flatten_cons]
theorem gN (r : Nat) (ahead : List Int) (t : dR) : fF (r + 1) ahead t = (if t.f1 = true then [⟨ahead ++ t.f0, t.f2⟩] else []) ++ fG r (ahead ++ t.f0) t.f3 0 := by rw [fF, fG, List.drop_zero]
-- marks.lean: what the laws write into what they are handed, and look for again
theorem OT (n : Nat) (k0 : Int) (h0 : 0 ≤ k0) (hk : k0 + n ≤ 4611686018427387904) (d : Nat) : ∀ (x : List Int) (i : Nat), x.length = n → i ≤ n → n - i = d → x.take i = (marks k0 n).take i → Ev (fun k => fB.l0 k x (k0 + (i : Int)) (i : Int)) (k0 + (n : Int), marks k0 n) := by
 induction d with
 | zero =>
  intro x i hx hi hd ht
  refine Ev.step (fun k => by rw [fB.l0]) ?_
  refine az (by omega) ?_
  obtain rfl : i = n := by omega
  rw [ES hx (uK k0 i) ht]
  exact Ev.now _
 | succ d ih =>
  intro x i hx hi hd ht
  refine Ev.step (fun k => by rw [fB.l0]) ?_
  refine aa (by omega) (aa (by omega) ?_)
  have h := ih (x.set i ((k0 + (i : Int)) % 256)) (i + 1) (by rw [List.length_set]; exact hx) (by omega) (by omega) (Es x (marks k0 n) i _ (by omega) (by rw [uK]; omega) ht (QD k0 n i _).symm)
  rw [sj (by omega) (by omega), sj (by omega) (by omega), Int.toNat_natCast]
  rw [Int.natCast_add, Int.natCast_one, ← Int.add_assoc] at h
  exact h
theorem Jj (l : List Int) (k0 : Int) (h0 : 0 ≤ k0) (hk : k0 + l.length ≤ 4611686018427387904) : Ev (fun k => fB.f k l k0) (k0 + (l.length : Int), marks k0 l.length) := by
 have h := OT l.length k0 h0 hk l.length l 0 rfl (by omega) (by omega) rfl
 simp only [Int.natCast_zero, Int.add_zero] at h
 exact h
theorem OU (n : Nat) (k0 : Int) (h0 : 0 ≤ k0) (hk : k0 + n ≤ 4611686018427387904) (d : Nat) : ∀ (i : Nat), i ≤ n → n - i = d → Ev (fun k => eH.l0 k (marks k0 n) (k0 + (i : Int)) (i : Int)) (k0 + (n : Int)) := by
 induction d with
 | zero =>
  intro i hi hd
  refine Ev.step (fun k => by rw [eH.l0]) ?_
  refine az (by rw [uK]; omega) ?_
  obtain rfl : i = n := by omega
  exact Ev.now _
 | succ d ih =>
  intro i hi hd
  refine Ev.step (fun k => by rw [eH.l0]) ?_
  refine aa (by rw [uK]; omega) (aa (by omega) (aa (by rw [vK _ i (by rw [uK]; omega), QD]) ?_))
  have h := ih (i + 1) (by omega) (by omega)
  rw [sj (by omega) (by omega), sj (by omega) (by omega)]
  rw [Int.natCast_add, Int.natCast_one, ← Int.add_assoc] at h
  exact h
theorem Jk (n : Nat) (k0 : Int) (h0 : 0 ≤ k0) (hk : k0 + n ≤ 4611686018427387904) : Ev (fun k => eH.f k (marks k0 n) k0) (k0 + (n : Int)) := by
 have h := OU n k0 h0 hk n 0 (by omega) (by omega)
 simp only [Int.natCast_zero, Int.add_zero] at h
 exact h
-- treeform.lean: the shape of a tree's entries, their bytes, the order of kids
theorem uN (r : Nat) (ahead : List Int) (ks : List dR) (e : yn) : e ∈ fG r ahead ks 0 ↔ ∃ j, ∃ h : j < ks.length, e ∈ fF r ahead ks[j] := by
 unfold fG
 rw [List.drop_zero, List.mem_flatten]
 constructor
 ·rintro ⟨l, hl, he⟩
  obtain ⟨x, hx, rfl⟩ := List.mem_map.1 hl
  obtain ⟨j, hj, rfl⟩ := List.mem_iff_getElem.1 hx
  exact ⟨j, hj, he⟩
 ·rintro ⟨j, hj, he⟩
  exact ⟨_, List.mem_map.2 ⟨ks[j], List.getElem_mem hj, rfl⟩, he⟩
theorem pG (r : Nat) : ∀ (ahead : List Int) (t : dR) (e : yn), e ∈ fF r ahead t → ∃ s, e.f0 = ahead ++ t.f0 ++ s := by
 induction r with
 | zero => intro ahead t e h; rw [fF] at h; simp at h
 | succ r ih =>
  intro ahead t e h
  rw [gN, List.mem_append] at h
  rcases h with h | h
  ·by_cases g : t.f1 = true
   ·rw [if_pos g, List.mem_singleton] at h
    subst h
    exact ⟨[], by simp⟩
   ·rw [if_neg g] at h
    simp at h
  ·obtain ⟨j, hj, he⟩ := (uN r _ _ e).1 h
   obtain ⟨s, hs⟩ := ih _ _ e he
   exact ⟨t.f3[j].f0 ++ s, by rw [hs]; simp⟩
theorem afA {r : Nat} {ks : List dR} (h : EW r ks 0) : ∀ (i d : Nat) (hi : i < ks.length) (hj : i + d + 1 < ks.length), rd ks[i].f0 0 < rd (ks[i + d + 1]).f0 0 := by
 intro i d
 induction d with
 | zero =>
  intro hi hj
  have := (h (i + 1) (by omega) hj).2 (by omega)
  simpa using this
 | succ d ih =>
  intro hi hj
  have a := ih hi (by omega)
  have b := (h (i + d + 1 + 1) (by omega) hj).2 (by omega)
  have b2 : rd (ks[i + d + 1]).f0 0 < rd (ks[i + d + 1 + 1]).f0 0 := by simpa using b
  exact Int.lt_trans a b2
theorem UR {r : Nat} {ks : List dR} (h : EW r ks 0) (i j : Nat) (hi : i < ks.length) (hj : j < ks.length) (hij : i < j) : rd ks[i].f0 0 < rd ks[j].f0 0 := by
 have := afA h i (j - i - 1) hi (by omega)
 have e : i + (j - i - 1) + 1 = j := by omega
 simpa [e] using this
-- lcp.lean: how long two texts begin alike
def wC : List Int → List Int → Nat
 | x :: a, y :: b => if x = y then wC a b + 1 else 0
 | _, _ => 0
theorem ajd : ∀ a b : List Int, wC a b ≤ a.length ∧ wC a b ≤ b.length
 | [], b => by simp [wC]
 | _ :: _, [] => by simp [wC]
 | x :: a, y :: b => by
  have := ajd a b
  unfold wC
  split
  ·simp; omega
  ·simp
theorem OV : ∀ a b : List Int, wC a b = wC b a
 | [], [] => rfl
 | [], _ :: _ => rfl
 | _ :: _, [] => rfl
 | x :: a, y :: b => by
  have := OV a b
  unfold wC
  by_cases h : x = y
  ·rw [if_pos h, if_pos h.symm, this]
  ·rw [if_neg h, if_neg (fun z => h z.symm)]
theorem Xq : ∀ a b : List Int, a.take (wC a b) = b.take (wC a b)
 | [], b => by simp [wC]
 | _ :: _, [] => by simp [wC]
 | x :: a, y :: b => by
  have := Xq a b
  unfold wC
  by_cases h : x = y
  ·rw [if_pos h, List.take_succ_cons, List.take_succ_cons, this, h]
  ·rw [if_neg h]
   simp
theorem aje : ∀ a b : List Int, wC a b < a.length → wC a b < b.length → a.getD (wC a b) 0 ≠ b.getD (wC a b) 0
 | [], b => by simp
 | _ :: _, [] => by simp
 | x :: a, y :: b => by
  have ih := aje a b
  unfold wC
  by_cases h : x = y
  ·rw [if_pos h]
   intro h1 h2
   simp only [List.length_cons] at h1 h2
   simpa using ih (by omega) (by omega)
  ·rw [if_neg h]
   intro _ _
   simpa using h
theorem EX : ∀ c p : List Int, (wC c p = p.length) ↔ (p.length ≤ c.length ∧ c.take p.length = p)
 | [], [] => by simp [wC]
 | [], y :: p => by simp [wC]
 | x :: c, [] => by simp [wC]
 | x :: c, y :: p => by
  have ih := EX c p
  unfold wC
  by_cases h : x = y
  ·rw [if_pos h, List.length_cons, List.length_cons, List.take_succ_cons, h]
   constructor
   ·intro z
    obtain ⟨z1, z2⟩ := ih.1 (by omega)
    exact ⟨by omega, by rw [z2]⟩
   ·intro ⟨z1, z2⟩
    have := ih.2 ⟨by omega, by simpa using z2⟩
    omega
  ·rw [if_neg h]
   constructor
   ·intro z
    simp at z
   ·intro ⟨z1, z2⟩
    rw [List.length_cons, List.take_succ_cons] at z2
    simp at z2
    exact absurd z2.1 h
theorem Xr (a b : List Int) (i : Nat) (hi : i < a.length) (hj : i < b.length) (h : a[i] = b[i]) : wC (a.drop i) (b.drop i) = wC (a.drop (i + 1)) (b.drop (i + 1)) + 1 := by
 rw [List.drop_eq_getElem_cons hi, List.drop_eq_getElem_cons hj, wC, if_pos h]
theorem La (a b : List Int) (hn : a.length ≤ 140737488351232) (d : Nat) : ∀ (i : Nat), i ≤ a.length → a.length - i = d → Ev (fun k => fK.l0 k a b (i : Int)) ((i : Int) + (wC (a.drop i) (b.drop i) : Int)) := by
 induction d with
 | zero =>
  intro i hi hd
  refine Ev.step (fun k => by rw [fK.l0]) ?_
  refine az (by omega) (uL ?_)
  rw [List.drop_of_length_le (by omega)]
  simp [wC]
 | succ d ih =>
  intro i hi hd
  refine Ev.step (fun k => by rw [fK.l0]) ?_
  refine aa (by omega) ?_
  by_cases hb : (i : Int) < (b.length : Int)
  ·refine aa hb (aa (by omega) ?_)
   by_cases e : rd a (i : Int) = rd b (i : Int)
   ·refine aa e ?_
    have h := ih (i + 1) (by omega) (by omega)
    rw [sj (by omega) (by omega)]
    rw [vK a i (by omega), vK b i (by omega)] at e
    rw [Xr a b i (by omega) (by omega) e]
    rw [Int.natCast_add, Int.natCast_one] at h ⊢
    refine ape h (by omega)
   ·refine az e (uL ?_)
    rw [vK a i (by omega), vK b i (by omega)] at e
    rw [List.drop_eq_getElem_cons (show i < a.length by omega), List.drop_eq_getElem_cons (show i < b.length by omega), wC, if_neg e]
    simp
  ·refine az hb (uL ?_)
   rw [List.drop_of_length_le (l := b) (by omega)]
   cases a.drop i <;> simp [wC]
theorem Pn (a b : List Int) (hn : a.length ≤ 140737488351232) : Ev (fun k => fK.f k a b) (wC a b : Int) := by
 have h := La a b hn a.length 0 (by omega) (by omega)
 unfold fK.f
 simp only [Int.natCast_zero, Int.zero_add, List.drop_zero] at h
 exact h
-- rdents.lean
theorem BB (l : List yn) (i : Nat) (h : i < l.length) : bD l (i : Int) = l[i] := by
 unfold bD
 rw [Int.toNat_natCast]
 simp [List.getD, h]
-- treegrown.lean: the program's tree of a valid tree's entries is that tree
theorem UT : ∀ (p a b : List Int), wC (p ++ a) (p ++ b) = p.length + wC a b
 | [], a, b => by simp
 | x :: p, a, b => by
  rw [List.cons_append, List.cons_append, wC, if_pos rfl, UT p a b, List.length_cons]
  omega
theorem anf (a : List Int) : wC [] a = 0 := by cases a <;> simp [wC]
theorem afB (a b : List Int) (ha : 0 < a.length) (hb : 0 < b.length) (h : rd a 0 ≠ rd b 0) : wC a b = 0 := by
 cases a with
 | nil => simp at ha
 | cons x a =>
  cases b with
  | nil => simp at hb
  | cons y b =>
   have h' : x ≠ y := by simpa [rd] using h
   rw [wC, if_neg h']
theorem ajf (p a : List Int) : rd (p ++ a) (p.length : Int) = rd a 0 := by
 unfold rd
 rw [Int.toNat_natCast, List.getD_eq_getElem?_getD, List.getD_eq_getElem?_getD, List.getElem?_append_right (by omega)]
 simp
theorem Jl (a b : List Int) (h : 0 < a.length) : rd (a ++ b) 0 = rd a 0 := by
 cases a with
 | nil => simp at h
 | cons x a => simp [rd]
theorem uO (r : Nat) : ∀ (pre : List Int) (t : dR), r < 25 → okD r t → fF r pre t ≠ [] := by
 induction r with
 | zero => intro pre t _ h; exact h.elim
 | succ r ih =>
  intro pre t hr h
  obtain ⟨_, _, _, h4, ok⟩ := (kF r t).1 h
  rw [gN]
  by_cases g : t.f1 = true
  ·rw [if_pos g]; simp
  ·have hn : 0 < t.f3.length := by
    rcases h4 with h4 | h4 | h4
    ·omega
    ·exact absurd h4 g
    ·omega
   rw [if_neg g, List.nil_append, oL r _ _ 0 hn]
   have := ih (pre ++ t.f0) t.f3[0] (by omega) (ok 0 (by omega) hn).1
   simp [this]
theorem Po (r : Nat) (P : List Int) (ks : List dR) (hn : 0 < ks.length) (d : Nat) : ∀ i, i < ks.length → ks.length - 1 - i = d → ∃ X, fG r P ks i = X ++ fF r P (ks[ks.length - 1]'(by omega)) := by
 induction d with
 | zero =>
  intro i hi hd
  have e : i = ks.length - 1 := by omega
  subst e
  exact ⟨[], by rw [oL r P ks _ hi, BA r P ks _ (by omega)]; simp⟩
 | succ d ih =>
  intro i hi hd
  obtain ⟨X, hX⟩ := ih (i + 1) (by omega) (by omega)
  exact ⟨fF r P ks[i] ++ X, by rw [oL r P ks i hi, hX, List.append_assoc]⟩
theorem ajg {α : Type} (X E : List α) (b : α) (hE : E ≠ []) (h : (X ++ E).getLast? = some b) : b ∈ E := by
 rw [List.getLast?_append] at h
 cases hg : E.getLast? with
 | none => exact absurd (List.getLast?_eq_none_iff.1 hg) hE
 | some z =>
  rw [hg] at h
  have : z = b := by simpa using h
  subst this
  exact List.mem_of_getLast? hg
theorem head_mem {α : Type} (X E : List α) (b : α) (hE : E ≠ []) (h : (E ++ X).head? = some b) : b ∈ E := by
 cases E with
 | nil => exact absurd rfl hE
 | cons z E =>
  have : z = b := by simpa using h
  subst this
  exact List.mem_cons_self
theorem ajh (r : Nat) (pre : List Int) (t : dR) (hr : r < 25) (h : okD r t) (a b : yn) (ha : (fF r pre t).head? = some a) (hb : (fF r pre t).getLast? = some b) : wC a.f0 b.f0 = (pre ++ t.f0).length := by
 cases r with
 | zero => exact h.elim
 | succ r =>
  have hbm := List.mem_of_getLast? hb
  obtain ⟨sb, hsb⟩ := pG _ _ _ _ hbm
  obtain ⟨_, _, _, h4, ok⟩ := (kF r t).1 h
  rw [gN] at ha hb
  by_cases g : t.f1 = true
  ·rw [if_pos g] at ha
   have e : a = ⟨pre ++ t.f0, t.f2⟩ := by simpa using ha.symm
   rw [e, hsb]
   have := UT (pre ++ t.f0) [] sb
   rw [List.append_nil, anf] at this
   rw [this]
   omega
  ·rw [if_neg g, List.nil_append] at ha hb
   have hn : 2 ≤ t.f3.length := by
    rcases h4 with h4 | h4 | h4
    ·omega
    ·exact absurd h4 g
    ·exact h4
   rw [oL r _ _ 0 (by omega)] at ha
   have hm0 := head_mem _ _ _ (uO r _ _ (by omega) (ok 0 (by omega) (by omega)).1) ha
   obtain ⟨X, hX⟩ := Po r (pre ++ t.f0) t.f3 (by omega) _ 0 (by omega) rfl
   rw [hX] at hb
   have hm1 := ajg _ _ _ (uO r _ _ (by omega) (ok (t.f3.length - 1) (by omega) (by omega)).1) hb
   obtain ⟨s0, e0⟩ := pG _ _ _ _ hm0
   obtain ⟨s1, e1⟩ := pG _ _ _ _ hm1
   have e0' : a.f0 = (pre ++ t.f0) ++ (t.f3[0].f0 ++ s0) := by rw [e0, List.append_assoc]
   have e1' : b.f0 = (pre ++ t.f0) ++ ((t.f3[t.f3.length - 1]'(by omega)).f0 ++ s1) := by rw [e1, List.append_assoc]
   have p0 := sH (ok 0 (by omega) (by omega)).1 (show r < 25 by omega)
   have p1 := sH (ok (t.f3.length - 1) (by omega) (by omega)).1 (show r < 25 by omega)
   have hlt := UR ok 0 (t.f3.length - 1) (by omega) (by omega) (by omega)
   rw [e0', e1', UT, afB _ _ (by rw [List.length_append]; omega) (by rw [List.length_append]; omega) (by rw [Jl _ _ p0, Jl _ _ p1]; omega)]
   omega
theorem aji (A R : List yn) (a1 : Nat) (x : List Int) (y : Bool) (z : Int) (kids : List dR) (c : Int) (cm : Nat) (kd : dR) (res : List Int × Bool × Int × List dR)
  (hA : 0 < A.length) (hn : A.length + R.length ≤ 1000000) (hlen : ∀ e ∈ A, a1 < e.f0.length) (hbyte : ∀ e ∈ A, rd e.f0 (a1 : Int) = c) (hR : ∀ e, R.head? = some e → a1 < e.f0.length ∧ rd e.f0 (a1 : Int) ≠ c)
  (hkids : kids.length < 2199023255552) (ha1 : a1 ≤ cm) (hcm : cm ≤ 1000000000)
  (hC : Ev (fun k => fK.f k (A[0]).f0 (A[A.length - 1]'(by omega)).f0) (cm : Int))
  (hG : Ev (fun k => aQ.f k A (a1 : Int) ((cm : Int) - (a1 : Int))) (kd.f0, kd.f1, kd.f2, kd.f3))
  (hL : Ev (fun k => aQ.l0 k R (a1 : Int) x y z (kids ++ [kd])) res) (d : Nat) :
  ∀ i : Nat, 1 ≤ i → i ≤ A.length → A.length - i = d → Ev (fun k => aQ.l1 k (A ++ R) (a1 : Int) (i : Int) x y z kids) res := by
 have gA : ∀ j (h : j < A.length), bD (A ++ R) (j : Int) = A[j] := fun j h => by rw [BB _ j (by rw [List.length_append]; omega), List.getElem_append_left h]
 have g0 : bD (A ++ R) 0 = A[0] := gA 0 hA
 have hw : wrap64 ((cm : Int) - (a1 : Int)) = (cm : Int) - (a1 : Int) := sj (by omega) (by omega)
 have tail : Ev (fun k => (fK.f k ((bD (A ++ R) 0).f0) ((bD (A ++ R) (wrap64 ((A.length : Int) - 1))).f0)).bind fun t => (aQ.f k ((A ++ R).take ((A.length : Int)).toNat) (a1 : Int) (wrap64 (t - (a1 : Int)))).bind fun bt => (if kids.length < 2199023255552 then (aQ.l0 k ((A ++ R).drop ((A.length : Int)).toNat) (a1 : Int) x y z (kids ++ [(⟨bt.1, bt.2.1, bt.2.2.1, bt.2.2.2⟩ : dR)])) else none)) res := by
  have e1 : wrap64 ((A.length : Int) - 1) = ((A.length - 1 : Nat) : Int) := by rw [sj (by omega) (by omega)]; omega
  rw [g0, e1, gA _ (by omega), Int.toNat_natCast, List.take_left, List.drop_left]
  refine Ev.bind hC ?_
  rw [hw]
  cases kd with
  | mk k0 k1 k2 k3 => exact Ev.bind hG (aa hkids hL)
 induction d with
 | zero =>
  intro i h1 hi hd
  have e : i = A.length := by omega
  subst e
  refine Ev.step (fun k => by rw [aQ.l1]) ?_
  have eW : 0 ≤ wrap64 ((A.length : Int) - 1) ∧ wrap64 ((A.length : Int) - 1) < ((A ++ R).length : Int) := by rw [sj (by omega) (by omega), List.length_append]; omega
  have hl0 : (0 : Int) < ((A ++ R).length : Int) := by rw [List.length_append]; omega
  by_cases hlt : (A.length : Int) < ((A ++ R).length : Int)
  ·have hRl : 0 < R.length := by rw [List.length_append] at hlt; omega
   obtain ⟨e, R', rfl⟩ : ∃ e R', R = e :: R' := by
    cases R with
    | nil => simp at hRl
    | cons e R' => exact ⟨e, R', rfl⟩
   have gR : bD (A ++ e :: R') (A.length : Int) = e := by rw [BB _ _ (by simp), List.getElem_append_right (by omega)]; simp
   obtain ⟨hr1, hr2⟩ := hR e rfl
   have h0m := hlen _ (List.getElem_mem hA)
   have h0b := hbyte _ (List.getElem_mem hA)
   refine aa hlt (aa (by omega) (aa (by omega) (aa (by rw [gR]; omega) (aa hl0 (aa (by rw [g0]; omega) (az (by rw [gR, g0, h0b]; exact hr2) (aa (by omega) (aa eW.1 (aa eW.2 tail)))))))))
  ·refine az hlt (aa (by omega) (aa (by rw [List.length_append]; omega) (aa hl0 (aa eW.1 (aa eW.2 tail)))))
 | succ d ih =>
  intro i h1 hi hd
  have hiA : i < A.length := by omega
  have h := ih (i + 1) (by omega) (by omega) (by omega)
  refine Ev.step (fun k => by rw [aQ.l1]) ?_
  have h0m := hlen _ (List.getElem_mem hA)
  have h0b := hbyte _ (List.getElem_mem hA)
  have him := hlen _ (List.getElem_mem hiA)
  have hib := hbyte _ (List.getElem_mem hiA)
  have hl : ((A ++ R).length : Int) = (A.length : Int) + (R.length : Int) := by rw [List.length_append]; omega
  rw [sj (x := (i : Int) + 1) (by omega) (by omega)]
  rw [Int.natCast_add i, Int.natCast_one] at h
  exact aa (by omega) (aa (by omega) (aa (by omega) (aa (by rw [gA i hiA]; omega) (aa (by omega) (aa (by rw [g0]; omega) (aa (by rw [gA i hiA, g0, hib, h0b]) h))))))
theorem ajj (r : Nat) (hr : r < 25) (P : List Int) (ks : List dR) (ok : EW r ks 0) (hks : ks.length ≤ 1048576) (hP : P.length ≤ 900000000) (hE : (fG r P ks 0).length ≤ 1000) (hed : ∀ x ∈ ks, x.f0.length ≤ 1048576) (x : List Int) (y : Bool) (z : Int)
  (hkey : ∀ j (h : j < ks.length), ∀ e ∈ fF r P ks[j], e.f0.length ≤ 1000000000)
  (hk : ∀ j (h : j < ks.length), Ev (fun k => aQ.f k (fF r P ks[j]) (P.length : Int) (ks[j].f0.length : Int)) (ks[j].f0, ks[j].f1, ks[j].f2, ks[j].f3)) (d : Nat) :
  ∀ i : Nat, i ≤ ks.length → ks.length - i = d → (fG r P ks i).length ≤ 1000 → Ev (fun k => aQ.l0 k (fG r P ks i) (P.length : Int) x y z (ks.take i)) (x, y, z, ks) := by
 induction d with
 | zero =>
  intro i hi hd _
  have e : i = ks.length := by omega
  subst e
  rw [BA r P ks _ (Nat.le_refl _), List.take_length]
  exact Ev.step (fun k => by rw [aQ.l0]) (az (by simp) (Ev.now _))
 | succ d ih =>
  intro i hi hd hm
  have hi' : i < ks.length := by omega
  have oki := (ok i (by omega) hi').1
  have hne := uO r P ks[i] hr oki
  have hpos : 0 < (fF r P ks[i]).length := List.length_pos_iff.2 hne
  rw [oL r P ks i hi'] at hm ⊢
  rw [List.length_append] at hm
  have h := ih (i + 1) (by omega) (by omega) (by omega)
  rw [List.take_succ_eq_append_getElem hi'] at h
  have hedge := sH oki hr
  have hedl := hed _ (List.getElem_mem hi')
  refine Ev.step (fun k => by rw [aQ.l0]) (aa (by rw [List.length_append]; omega) ?_)
  refine aji (fF r P ks[i]) (fG r P ks (i + 1)) P.length x y z (ks.take i) (rd ks[i].f0 0) (P.length + ks[i].f0.length) ks[i] _ hpos (by omega) ?_ ?_ ?_ (by rw [List.length_take]; omega) (by omega) (by omega) ?_ ?_ h _ 1 (Nat.le_refl _) (by omega) rfl
  ·intro e he
   obtain ⟨s, hs⟩ := pG _ _ _ _ he
   rw [hs, List.length_append, List.length_append]
   omega
  ·intro e he
   obtain ⟨s, hs⟩ := pG _ _ _ _ he
   rw [hs, List.append_assoc, ajf, Jl _ _ hedge]
  ·intro e he
   by_cases hl : i + 1 < ks.length
   ·have ok1 := (ok (i + 1) (by omega) hl).1
    rw [oL r P ks (i + 1) hl] at he
    obtain ⟨s, hs⟩ := pG _ _ _ _ (head_mem _ _ _ (uO r P _ hr ok1) he)
    have he1 := sH ok1 hr
    have hlt := UR ok i (i + 1) hi' hl (by omega)
    refine ⟨by rw [hs, List.length_append, List.length_append]; omega, ?_⟩
    rw [hs, List.append_assoc, ajf, Jl _ _ he1]
    omega
   ·rw [BA r P ks _ (by omega)] at he
    simp at he
  ·have e := ajh r P ks[i] hr oki (fF r P ks[i])[0] (fF r P ks[i])[(fF r P ks[i]).length - 1] (by rw [List.head?_eq_getElem?, List.getElem?_eq_getElem hpos]) (by rw [List.getLast?_eq_getElem?, List.getElem?_eq_getElem (by omega)])
   rw [List.length_append] at e
   rw [← e]
   exact Pn _ _ (by have := hkey i hi' _ (List.getElem_mem hpos); omega)
  ·have := hk i hi'
   rw [show (((P.length + ks[i].f0.length : Nat) : Int) - (P.length : Int)) = (ks[i].f0.length : Int) by omega]
   exact this
theorem ajk (r : Nat) : ∀ (t : dR) (pre : List Int), r ≤ 25 → qB t → okD r t → (fF r pre t).length ≤ 1000 → (∀ e ∈ fF r pre t, e.f0.length ≤ 1000000000) → pre.length ≤ (25 - r) * 1048576 → fF r pre t ≠ [] →
  Ev (fun k => aQ.f k (fF r pre t) (pre.length : Int) (t.f0.length : Int)) (t.f0, t.f1, t.f2, t.f3) := by
 induction r with
 | zero => intro t pre _ _ h; exact h.elim
 | succ r ih =>
  intro t pre hr hf h hm hkey hpre hne
  obtain ⟨_, _, h3, h4, ok⟩ := (kF r t).1 h
  have h0 := hf.h0
  have hpb : (25 - (r + 1)) * 1048576 ≤ 25 * 1048576 := Nat.mul_le_mul_right _ (by omega)
  have hP : (pre ++ t.f0).length ≤ (25 - r) * 1048576 := by
   rw [List.length_append]
   have : (25 - r) * 1048576 = (25 - (r + 1)) * 1048576 + 1048576 := by
    rw [show 25 - r = (25 - (r + 1)) + 1 by omega, Nat.add_mul]
   omega
  have hpb2 : (25 - r) * 1048576 ≤ 25 * 1048576 := Nat.mul_le_mul_right _ (by omega)
  have hpos : 0 < (fF (r + 1) pre t).length := List.length_pos_iff.2 hne
  have hm2 : (fG r (pre ++ t.f0) t.f3 0).length ≤ 1000 := by
   rw [gN, List.length_append] at hm
   omega
  have hsub : ∀ j (hj : j < t.f3.length), ∀ e ∈ fF r (pre ++ t.f0) t.f3[j], e ∈ fF (r + 1) pre t := fun j hj e he => by
   rw [gN, List.mem_append]
   exact .inr ((uN r _ _ e).2 ⟨j, hj, he⟩)
  have hlen1 : ∀ j (hj : j < t.f3.length), (fF r (pre ++ t.f0) t.f3[j]).length ≤ 1000 := fun j hj => by
   have hgen : ∀ (l : List dR) (y : dR), y ∈ l → (fF r (pre ++ t.f0) y).length ≤ ((l.map (fF r (pre ++ t.f0))).flatten).length := by
    intro l
    induction l with
    | nil => intro y hy; simp at hy
    | cons z zs ih2 =>
     intro y hy
     rw [List.map_cons, List.flatten_cons, List.length_append]
     rcases List.mem_cons.1 hy with rfl | hy
     ·omega
     ·have := ih2 y hy
      omega
   have := hgen t.f3 _ (List.getElem_mem hj)
   unfold fG at hm2
   rw [List.drop_zero] at hm2
   omega
  have hl0 : Ev (fun k => aQ.l0 k (fG r (pre ++ t.f0) t.f3 0) ((pre ++ t.f0).length : Int) t.f0 t.f1 t.f2 []) (t.f0, t.f1, t.f2, t.f3) := by
   have := ajj r (by omega) (pre ++ t.f0) t.f3 ok hf.h3 (by omega) hm2 (fun x hx => (hf.hk x hx).h0) t.f0 t.f1 t.f2 (fun j hj e he => hkey e (hsub j hj e he)) (fun j hj => ih t.f3[j] (pre ++ t.f0) (by omega) (hf.hk _ (List.getElem_mem hj)) (ok j (by omega) hj).1 (hlen1 j hj) (fun e he => hkey e (hsub j hj e he)) hP (uO r _ _ (by omega) (ok j (by omega) hj).1)) _ 0 (by omega) rfl hm2
   rw [List.take_zero] at this
   exact this
  obtain ⟨s, hs⟩ := pG _ _ _ _ (List.getElem_mem hpos)
  have g0 : (bD (fF (r + 1) pre t) 0).f0 = pre ++ t.f0 ++ s := by rw [← hs]; exact congrArg yn.f0 (BB _ 0 hpos)
  have hw : wrap64 ((pre.length : Int) + (t.f0.length : Int)) = ((pre ++ t.f0).length : Int) := by rw [sj (by omega) (by omega), List.length_append]; omega
  have hcut : ((pre ++ t.f0 ++ s).take (pre ++ t.f0).length).drop pre.length = t.f0 := by rw [List.take_left, List.drop_left]
  have hlP : ((pre ++ t.f0).length : Int) = (pre.length : Int) + (t.f0.length : Int) := by rw [List.length_append]; omega
  refine Ev.step (fun k => by rw [aQ.f]) (az (by omega) (aa (by omega) (aa (by omega) ?_)))
  rw [hw, g0, Int.toNat_natCast, Int.toNat_natCast, hcut]
  refine aa (by omega) (aa (by simp only [List.length_append]; omega) (bU (by unfold iZ.f; rw [if_pos (by omega)]) ?_))
  by_cases g : t.f1 = true
  ·have e : fF (r + 1) pre t = ⟨pre ++ t.f0, t.f2⟩ :: fG r (pre ++ t.f0) t.f3 0 := by rw [gN, if_pos g]; rfl
   have es : s = [] := by
    have h5 : (fF (r + 1) pre t)[0]? = some ⟨pre ++ t.f0, t.f2⟩ := by rw [e]; rfl
    rw [List.getElem?_eq_getElem hpos] at h5
    have h6 := congrArg yn.f0 (Option.some.inj h5)
    rw [hs] at h6
    simpa using h6
   subst es
   have e2 : (bD (fF (r + 1) pre t) 0).f1 = t.f2 := by
    have := BB (fF (r + 1) pre t) 0 hpos
    rw [show ((0 : Nat) : Int) = 0 from rfl] at this
    rw [this]
    have h5 : (fF (r + 1) pre t)[0]? = some ⟨pre ++ t.f0, t.f2⟩ := by rw [e]; rfl
    rw [List.getElem?_eq_getElem hpos] at h5
    exact congrArg yn.f1 (Option.some.inj h5)
   rw [e2, List.append_nil]
   have e3 : (fF (r + 1) pre t).drop 1 = fG r (pre ++ t.f0) t.f3 0 := by rw [e]; rfl
   rw [e3]
   rw [g] at hl0
   rw [g]
   exact aa rfl (aa (by omega) (Ev.step (fun k => by rw [aQ.j0]) hl0))
  ·have gf : t.f1 = false := by simpa using g
   have e : fF (r + 1) pre t = fG r (pre ++ t.f0) t.f3 0 := by rw [gN, if_neg g, List.nil_append]
   have hs0 : 0 < s.length := by
    obtain ⟨j, hj, he⟩ := (uN r _ _ _).1 ((congrArg (fun l => (fF (r + 1) pre t)[0] ∈ l) e).mp (List.getElem_mem hpos))
    obtain ⟨u, hu⟩ := pG _ _ _ _ he
    have hed := sH (ok j (by omega) hj).1 (show r < 25 by omega)
    rw [hs] at hu
    have hu2 : (pre ++ t.f0) ++ s = (pre ++ t.f0) ++ (t.f3[j].f0 ++ u) := by rw [hu, List.append_assoc]
    have := List.append_cancel_left hu2
    rw [this, List.length_append]
    omega
   rw [gf, h3 gf] at hl0
   rw [gf, h3 gf, e]
   refine az (by rw [List.length_append]; omega) (Ev.step (fun k => by rw [aQ.j0]) hl0)
-- treemarkv.lean: a tree marked by value, and what is found of the marks
def yT : Nat → dR → Nat
 | 0, _ => 0
 | r + 1, t => t.f0.length + 2 + (t.f3.map (yT r)).sum
def UU (f : dR → Int → dR) (w : dR → Nat) : List dR → Int → List dR
 | [], _ => []
 | x :: xs, a => f x a :: UU f w xs (a + (w x : Int))
def mkU : Nat → dR → Int → dR
 | 0, t, _ => t
 | r + 1, t, a => ⟨marks a t.f0.length, Int.tmod (a + (t.f0.length : Int)) 3 == 0, a + (t.f0.length : Int) + 1, UU (mkU r) (yT r) t.f3 (a + (t.f0.length : Int) + 1 + 1)⟩
theorem EY (f : dR → Int → dR) (w : dR → Nat) : ∀ (l : List dR) (a : Int), (UU f w l a).length = l.length
 | [], _ => rfl
 | x :: xs, a => by rw [UU, List.length_cons, List.length_cons, EY f w xs]
theorem adW (f : dR → Int → dR) (w : dR → Nat) : ∀ (l : List dR) (a : Int) (i : Nat) (h : i < (UU f w l a).length) (h2 : i < l.length), (UU f w l a)[i] = f l[i] (a + (((l.take i).map w).sum : Nat))
 | [], _, i, _, h2 => by simp at h2
 | x :: xs, a, 0, _, _ => by simp [UU]
 | x :: xs, a, i + 1, h, h2 => by
  simp only [UU, List.getElem_cons_succ, List.take_succ_cons, List.map_cons, List.sum_cons]
  rw [adW f w xs (a + (w x : Int)) i (by rw [EY]; simpa using h2) (by simpa using h2)]
  congr 1
  omega
theorem Pp (w : dR → Nat) (l : List dR) (i : Nat) (h : i < l.length) : ((l.take (i + 1)).map w).sum = ((l.take i).map w).sum + w l[i] := by
 rw [List.take_succ_eq_append_getElem h, List.map_append, List.sum_append]
 simp
theorem KQ (w : dR → Nat) : ∀ (l : List dR) (i : Nat), ((l.take i).map w).sum ≤ (l.map w).sum
 | [], i => by simp
 | x :: xs, 0 => by simp
 | x :: xs, i + 1 => by
  have := KQ w xs i
  simp only [List.take_succ_cons, List.map_cons, List.sum_cons]
  omega
theorem ajl (r : Nat) : ∀ (l : List dR), (∀ x ∈ l, okD r x) → (∀ x ∈ l, qB x) → ∀ a : Int, 0 ≤ a → a + ((l.map (yT r)).sum : Nat) ≤ 1000000000 → ∃ n0, ∀ kb k, n0 ≤ kb → n0 ≤ k → aW.rows kb k l a = some (a + ((l.map (yT r)).sum : Nat), UU (mkU r) (yT r) l a) := by
 have base : ∀ (q : Nat) (a : Int), ∃ n0, ∀ kb k, n0 ≤ kb → n0 ≤ k → aW.rows kb k ([] : List dR) a = some (a + ((([] : List dR).map (yT q)).sum : Nat), UU (mkU q) (yT q) ([] : List dR) a) := fun q a => ⟨1, fun kb k _ hk => by
  obtain ⟨j, rfl⟩ : ∃ j, k = j + 1 := ⟨k - 1, by omega⟩
  simp [aW.rows, aW.list, UU]⟩
 induction r with
 | zero =>
  intro l hok _ a _ _
  cases l with
  | nil => exact base 0 a
  | cons x xs => exact (hok x List.mem_cons_self).elim
 | succ r ih =>
  intro l hok hf a h0 h1
  suffices hs : ∀ (l : List dR), (∀ x ∈ l, okD (r + 1) x) → (∀ x ∈ l, qB x) → ∀ a : Int, 0 ≤ a → a + ((l.map (yT (r + 1))).sum : Nat) ≤ 1000000000 → ∃ n0, ∀ kb k, n0 ≤ kb → n0 ≤ k → aW.list (fB.f kb) (aW.rows kb k) l a = some (a + ((l.map (yT (r + 1))).sum : Nat), UU (mkU (r + 1)) (yT (r + 1)) l a) by
   obtain ⟨n0, e⟩ := hs l hok hf a h0 h1
   refine ⟨n0 + 1, fun kb k hkb hk => ?_⟩
   obtain ⟨j, rfl⟩ : ∃ j, k = j + 1 := ⟨k - 1, by omega⟩
   rw [aW.rows]
   exact e kb j (by omega) (by omega)
  intro l
  induction l with
  | nil => intro _ _ a _ _; exact ⟨0, fun kb k _ _ => by simp [aW.list, UU]⟩
  | cons x xs ih2 =>
   intro hok hf a h0 h1
   have okx := ((kF r x).1 (hok x List.mem_cons_self)).2.2.2.2
   have hfx := hf x List.mem_cons_self
   have hw : yT (r + 1) x = x.f0.length + 2 + (x.f3.map (yT r)).sum := rfl
   rw [List.map_cons, List.sum_cons] at h1 ⊢
   obtain ⟨n1, e1⟩ := Jj x.f0 a h0 (by omega)
   obtain ⟨n2, e2⟩ := ih x.f3 (fun y hy => by obtain ⟨j, hj, rfl⟩ := List.mem_iff_getElem.1 hy; exact (okx j (by omega) hj).1) hfx.hk (a + (x.f0.length : Int) + 1 + 1) (by omega) (by omega)
   obtain ⟨n3, e3⟩ := ih2 (fun y hy => hok y (List.mem_cons_of_mem _ hy)) (fun y hy => hf y (List.mem_cons_of_mem _ hy)) (a + (yT (r + 1) x : Int)) (by omega) (by omega)
   have ea : a + (x.f0.length : Int) + 1 + 1 + (((x.f3.map (yT r)).sum : Nat) : Int) = a + (yT (r + 1) x : Int) := by rw [hw]; omega
   refine ⟨n1 + n2 + n3, fun kb k hkb hk => ?_⟩
   have q1 := e1 kb (by omega)
   have q2 := e2 kb k (by omega) (by omega)
   have q3 := e3 kb k (by omega) (by omega)
   simp only at q1
   rw [aW.list, q1, Option.bind_some]
   simp only
   rw [if_pos (by refine ⟨⟨by omega, by omega⟩, ?_, ?_⟩ <;> first | rfl | trivial), q2, Option.bind_some]
   simp only
   rw [ea, q3, Option.bind_some]
   simp only [UU, mkU]
   congr 2
   omega
theorem W9 {t : dR} (h : okD 25 t) (hf : qB t) (hw : t.f0.length + (t.f3.map (yT 24)).sum + 1 ≤ 1000000000) :
  Ev (fun k => aW.g k t.f0 t.f3 1) (1 + (t.f0.length : Int) + ((t.f3.map (yT 24)).sum : Nat), marks 1 t.f0.length, UU (mkU 24) (yT 24) t.f3 (1 + (t.f0.length : Int))) := by
 have ok := ((kF 24 t).1 h).2.2.2.2
 obtain ⟨n1, e1⟩ := Jj t.f0 1 (by omega) (by omega)
 obtain ⟨n2, e2⟩ := ajl 24 t.f3 (fun y hy => by obtain ⟨j, hj, rfl⟩ := List.mem_iff_getElem.1 hy; exact (ok j (by omega) hj).1) hf.hk (1 + (t.f0.length : Int)) (by omega) (by omega)
 refine ⟨n1 + n2, fun k hk => ?_⟩
 have q1 := e1 k (by omega)
 have q2 := e2 k k (by omega) (by omega)
 simp only at q1
 simp only [aW.g]
 rw [q1, Option.bind_some]
 simp only
 rw [if_pos (by refine ⟨?_, ?_⟩ <;> first | rfl | trivial), q2, Option.bind_some]
theorem Pq (r : Nat) (l : List dR) (hf : ∀ x ∈ l, qB x) (hl : l.length ≤ 1048576)
  (ih : ∀ x ∈ l, ∀ a : Int, 0 ≤ a → a + ((x.f3.map (yT r)).sum : Nat) ≤ 1000000000 → Ev (fun k => eQ.f k (UU (mkU r) (yT r) x.f3 a) a) (a + ((x.f3.map (yT r)).sum : Nat)))
  (a : Int) (h0 : 0 ≤ a) (h1 : a + ((l.map (yT (r + 1))).sum : Nat) ≤ 1000000000) (d : Nat) : ∀ i : Nat, i ≤ l.length → l.length - i = d →
   Ev (fun k => eQ.l0 k (UU (mkU (r + 1)) (yT (r + 1)) l a) (a + (((l.take i).map (yT (r + 1))).sum : Nat)) (i : Int)) (a + ((l.map (yT (r + 1))).sum : Nat)) := by
 have hlen := EY (mkU (r + 1)) (yT (r + 1)) l a
 induction d with
 | zero =>
  intro i hi hd
  have e : i = l.length := by omega
  subst e
  rw [List.take_length]
  exact Ev.step (fun k => by rw [eQ.l0]) (az (by rw [hlen]; omega) (Ev.now _))
 | succ d ihd =>
  intro i hi hd
  have hi' : i < l.length := by omega
  have h := ihd (i + 1) (by omega) (by omega)
  have hs := Pp (yT (r + 1)) l i hi'
  have hle := KQ (yT (r + 1)) l (i + 1)
  have hg := adW (mkU (r + 1)) (yT (r + 1)) l a i (by omega) hi'
  have hih := ih _ (List.getElem_mem hi')
  have hw : yT (r + 1) l[i] = l[i].f0.length + 2 + (l[i].f3.map (yT r)).sum := rfl
  generalize hA : a + (((l.take i).map (yT (r + 1))).sum : Nat) = A at hg ⊢
  have hA0 : 0 ≤ A := by omega
  have hb := Jk l[i].f0.length A hA0 (by omega)
  refine Ev.step (fun k => by rw [eQ.l0]) ?_
  rw [yR _ i (by omega), hg, sj (x := (i : Int) + 1) (by omega) (by omega)]
  rw [Int.natCast_add i, Int.natCast_one] at h
  have hk := hih (A + (l[i].f0.length : Int) + 1 + 1) (by omega) (by omega)
  refine aa (by omega) (aa (by omega) (Ev.bind hb (az (by omega) (az (by simp [mkU]) ?_))))
  rw [sj (x := A + (l[i].f0.length : Int) + 1) (by omega) (by omega), sj (x := A + (l[i].f0.length : Int) + 1 + 1) (by omega) (by omega)]
  refine aa rfl (Ev.bind hk (az (by omega) ?_))
  rw [show A + (l[i].f0.length : Int) + 1 + 1 + (((l[i].f3.map (yT r)).sum : Nat) : Int) = a + (((l.take (i + 1)).map (yT (r + 1))).sum : Nat) by omega]
  exact h
theorem Xt (r : Nat) : ∀ (l : List dR), (∀ x ∈ l, okD r x) → (∀ x ∈ l, qB x) → l.length ≤ 1048576 → ∀ a : Int, 0 ≤ a → a + ((l.map (yT r)).sum : Nat) ≤ 1000000000 → Ev (fun k => eQ.f k (UU (mkU r) (yT r) l a) a) (a + ((l.map (yT r)).sum : Nat)) := by
 induction r with
 | zero =>
  intro l hok _ _ a _ _
  cases l with
  | nil => exact Ev.step (fun k => by rw [eQ.f]) (Ev.step (fun k => by rw [eQ.l0]) (az (by simp [UU]) (uL (by simp))))
  | cons x xs => exact (hok x List.mem_cons_self).elim
 | succ r ih =>
  intro l hok hf hl a h0 h1
  have := Pq r l hf hl (fun x hx a h0 h1 => by
   have okx := ((kF r x).1 (hok x hx)).2.2.2.2
   exact ih x.f3 (fun y hy => by obtain ⟨j, hj, rfl⟩ := List.mem_iff_getElem.1 hy; exact (okx j (by omega) hj).1) (hf x hx).hk (hf x hx).h3 a h0 h1) a h0 h1 _ 0 (by omega) rfl
  simp only [List.take_zero, List.map_nil, List.sum_nil, Int.natCast_zero, Int.add_zero] at this
  exact Ev.step (fun k => by rw [eQ.f]) this
theorem ai8 {t : dR} (b : Bool) (c : Int) (h : okD 25 t) (hf : qB t) (hw : t.f0.length + (t.f3.map (yT 24)).sum + 1 ≤ 1000000000) :
  Ev (fun k => mi.f k t.f0 b c t.f3 1) (1 + (t.f0.length : Int) + ((t.f3.map (yT 24)).sum : Nat)) := by
 have ok := ((kF 24 t).1 h).2.2.2.2
 have hb := Jk t.f0.length 1 (by omega) (by omega)
 have hk := Xt 24 t.f3 (fun y hy => by obtain ⟨j, hj, rfl⟩ := List.mem_iff_getElem.1 hy; exact (ok j (by omega) hj).1) hf.hk hf.h3 (1 + (t.f0.length : Int)) (by omega) (by omega)
 unfold mi.f
 refine Ev.bind (W9 h hf hw) ?_
 unfold nE.f
 exact Ev.bind hb (az (by omega) (Ev.bind hk (az (by omega) (Ev.now _))))
theorem aaB (C r : Nat) (P : List Int) : ∀ l : List dR, (∀ x ∈ l, yT r x + C ≤ C * (2 * (fF r P x).length)) → (l.map (yT r)).sum + C * l.length ≤ C * (2 * ((l.map (fF r P)).flatten).length)
 | [], _ => by simp
 | x :: xs, h => by
  have a1 := aaB C r P xs (fun y hy => h y (List.mem_cons_of_mem _ hy))
  have a2 := h x List.mem_cons_self
  rw [List.map_cons, List.sum_cons, List.length_cons, List.map_cons, List.flatten_cons, List.length_append, Nat.mul_add 2, Nat.mul_add C, Nat.mul_add C, Nat.mul_one]
  generalize C * xs.length = A at a1 ⊢
  generalize C * (2 * (fF r P x).length) = B at a2 ⊢
  generalize C * (2 * (List.map (fF r P) xs).flatten.length) = D at a1 ⊢
  omega
theorem aAE (C : Nat) (hC : 1048578 ≤ C) (r : Nat) : ∀ (pre : List Int) (t : dR), r < 25 → okD r t → qB t → yT r t + C ≤ C * (2 * (fF r pre t).length) := by
 induction r with
 | zero => intro pre t _ h; exact h.elim
 | succ r ih =>
  intro pre t hr h hf
  obtain ⟨_, _, _, h4, ok⟩ := (kF r t).1 h
  have h0 := hf.h0
  have hs := aaB C r (pre ++ t.f0) t.f3 (fun x hx => ih (pre ++ t.f0) x (by omega) (by obtain ⟨j, hj, rfl⟩ := List.mem_iff_getElem.1 hx; exact (ok j (by omega) hj).1) (hf.hk x hx))
  have hw : yT (r + 1) t = t.f0.length + 2 + (t.f3.map (yT r)).sum := rfl
  rw [gN, List.length_append, hw]
  unfold fG
  rw [List.drop_zero]
  by_cases g : t.f1 = true
  ·rw [if_pos g, List.length_singleton, Nat.mul_add 2, Nat.mul_add C]
   generalize C * t.f3.length = A at hs
   generalize C * (2 * (List.map (fF r (pre ++ t.f0)) t.f3).flatten.length) = D at hs ⊢
   have e : C * (2 * 1) = C + C := by rw [Nat.mul_one, Nat.mul_two]
   rw [e]
   omega
  ·rw [if_neg g, List.length_nil, Nat.zero_add]
   have hn : 2 ≤ t.f3.length := by
    rcases h4 with h4 | h4 | h4
    ·omega
    ·exact absurd h4 g
    ·exact h4
   have hm := Nat.mul_le_mul_left C hn
   have e : C * 2 = C + C := Nat.mul_two C
   rw [e] at hm
   generalize C * t.f3.length = A at hs hm
   generalize C * (2 * (List.map (fF r (pre ++ t.f0)) t.f3).flatten.length) = D at hs ⊢
   omega
theorem am9 {t : dR} (h : okD 25 t) (hf : qB t) (hn : (fF 25 [] t).length ≤ 400) : t.f0.length + (t.f3.map (yT 24)).sum + 1 ≤ 1000000000 := by
 obtain ⟨_, _, _, _, ok⟩ := (kF 24 t).1 h
 have h0 := hf.h0
 obtain ⟨C, hC⟩ : ∃ C : Nat, C = 1048578 := ⟨_, rfl⟩
 have hs := aaB C 24 ([] ++ t.f0) t.f3 (fun x hx => aAE C (by omega) 24 ([] ++ t.f0) x (by omega) (by obtain ⟨j, hj, rfl⟩ := List.mem_iff_getElem.1 hx; exact (ok j (by omega) hj).1) (hf.hk x hx))
 rw [gN, List.length_append] at hn
 unfold fG at hn
 rw [List.drop_zero] at hn
 have hm := Nat.mul_le_mul_left C (show 2 * ((t.f3.map (fF 24 ([] ++ t.f0))).flatten).length ≤ 800 by omega)
 have e : C * 800 = 838862400 := by rw [hC]
 rw [e] at hm
 generalize C * t.f3.length = A at hs
 generalize C * (2 * (List.map (fF 24 ([] ++ t.f0)) t.f3).flatten.length) = D at hs hm
 omega
-- treeofv.lean: the program's tree of a valid tree's entries
theorem afC {u : dR} (h : okD 25 u) (hf : qB u) (hn : (fF 25 [] u).length ≤ 1000) (hk : ∀ e ∈ fF 25 [] u, e.f0.length ≤ 1000000000) : Ev (fun k => pO.f k (fF 25 [] u)) (u.f0, u.f1, u.f2, u.f3) := by
 obtain ⟨h1, _, h3, _, ok⟩ := (kF 24 u).1 h
 have h0 : u.f0.length = 0 := h1.2 rfl
 unfold pO.f
 by_cases hne : fF 25 [] u = []
 ·have g : ¬ u.f1 = true := by
   intro g
   rw [gN, if_pos g] at hne
   simp at hne
  have gf : u.f1 = false := by simpa using g
  have hks : u.f3 = [] := by
   cases hu : u.f3 with
   | nil => rfl
   | cons x xs =>
    exfalso
    have hpos : 0 < u.f3.length := by rw [hu]; simp
    rw [gN, if_neg g, List.nil_append, oL 24 _ _ 0 hpos] at hne
    exact uO 24 _ _ (by omega) (ok 0 (by omega) hpos).1 (List.append_eq_nil_iff.1 hne).1
  rw [hne]
  refine Ev.bind (Ev.step (fun k => by rw [aQ.f]) (aa (by simp) (Ev.now _))) (uL ?_)
  rw [List.eq_nil_of_length_eq_zero h0, gf, h3 gf, hks]
 ·have := ajk 25 u [] (by omega) hf h hn hk (by simp) hne
  rw [h0] at this
  exact Ev.bind this (Ev.now _)
-- treeown.lean: the reference's copy of a tree is that tree
theorem ajm (a a' : List Int) (b b' : Bool) (c c' : Int) (ks : List dR) (hn : ks.length ≤ 1048576) (hk : ∀ x ∈ ks, Ev (fun k => dO.f k x.f0 x.f1 x.f2 x.f3) (x.f0, x.f1, x.f2, x.f3)) (d : Nat) :
  ∀ i : Nat, i ≤ ks.length → ks.length - i = d → Ev (fun k => dO.l0 k (i : Int) a b c ks a' b' c' (ks.take i)) (a', b', c', ks) := by
 induction d with
 | zero =>
  intro i hi hd
  have e : i = ks.length := by omega
  subst e
  rw [List.take_length]
  exact Ev.step (fun k => by rw [dO.l0]) (az (by omega) (Ev.now _))
 | succ d ih =>
  intro i hi hd
  have hi' : i < ks.length := by omega
  have h := ih (i + 1) (by omega) (by omega)
  have hkk := hk _ (List.getElem_mem hi')
  rw [List.take_succ_eq_append_getElem hi', Int.natCast_add i, Int.natCast_one] at h
  refine Ev.step (fun k => by rw [dO.l0]) ?_
  rw [yR ks i hi', sj (x := (i : Int) + 1) (by omega) (by omega)]
  generalize ks[i] = y at h hkk
  cases y with
  | mk y0 y1 y2 y3 => exact aa (by omega) (aa (by omega) (Ev.bind hkk (aa (by rw [List.length_take]; omega) h)))
theorem auB {t : dR} (h : qB t) : Ev (fun k => dO.f k t.f0 t.f1 t.f2 t.f3) (t.f0, t.f1, t.f2, t.f3) := by
 induction h with
 | mk t h0 h3 hk ih =>
  refine Ev.step (fun k => by rw [dO.f]) ?_
  refine bU rfl ?_
  refine aa (by simp; omega) ?_
  rw [List.nil_append]
  have := ajm t.f0 t.f0 t.f1 t.f1 t.f2 t.f2 t.f3 h3 ih t.f3.length 0 (by omega) rfl
  exact this
-- lcpspec.lean: the reference's Common
theorem Lb (a b : List Int) (hn : a.length ≤ 140737488351232) (d : Nat) : ∀ (i : Nat), i ≤ a.length → a.length - i = d → Ev (fun k => iD.l0 k a b (i : Int)) ((i : Int) + (wC (a.drop i) (b.drop i) : Int)) := by
 induction d with
 | zero =>
  intro i hi hd
  refine Ev.step (fun k => by rw [iD.l0]) ?_
  refine az (by omega) (uL ?_)
  rw [List.drop_of_length_le (by omega)]
  simp [wC]
 | succ d ih =>
  intro i hi hd
  refine Ev.step (fun k => by rw [iD.l0]) ?_
  refine aa (by omega) ?_
  by_cases hb : (i : Int) < (b.length : Int)
  ·refine aa hb (aa (by omega) ?_)
   by_cases e : rd a (i : Int) = rd b (i : Int)
   ·refine aa e ?_
    have h := ih (i + 1) (by omega) (by omega)
    rw [sj (by omega) (by omega)]
    rw [vK a i (by omega), vK b i (by omega)] at e
    rw [Xr a b i (by omega) (by omega) e]
    rw [Int.natCast_add, Int.natCast_one] at h ⊢
    refine ape h (by omega)
   ·refine az e (uL ?_)
    rw [vK a i (by omega), vK b i (by omega)] at e
    rw [List.drop_eq_getElem_cons (show i < a.length by omega), List.drop_eq_getElem_cons (show i < b.length by omega), wC, if_neg e]
    simp
  ·refine az hb (uL ?_)
   rw [List.drop_of_length_le (l := b) (by omega)]
   cases a.drop i <;> simp [wC]
theorem zM (a b : List Int) (hn : a.length ≤ 140737488351232) : Ev (fun k => iD.f k a b) (wC a b : Int) := by
 have h := Lb a b hn a.length 0 (by omega) (by omega)
 unfold iD.f
 simp only [Int.natCast_zero, Int.zero_add, List.drop_zero] at h
 exact h
-- treecut.lean: a key cut out of a tree by the reference
def Row (r : Nat) (ks : List dR) : Prop := (∀ x ∈ ks, okD r x) ∧ ks.Pairwise (fun a b => rd a.f0 0 < rd b.f0 0)
theorem row_of {r : Nat} {ks : List dR} (h : EW r ks 0) : Row r ks := by
 refine ⟨fun x hx => ?_, ?_⟩
 ·obtain ⟨j, hj, rfl⟩ := List.mem_iff_getElem.1 hx
  exact (h j (by omega) hj).1
 ·rw [List.pairwise_iff_getElem]
  intro i j hi hj hij
  exact UR h i j hi hj hij
theorem UW {r : Nat} {ks : List dR} (h : Row r ks) : EW r ks 0 := by
 intro j _ hj
 refine ⟨h.1 _ (List.getElem_mem hj), fun h0 => ?_⟩
 exact (List.pairwise_iff_getElem.1 h.2) (j - 1) j (by omega) hj (by omega)
-- treeput.lean: a key put behind all others of a valid tree, by the reference
theorem UX {r : Nat} {k : List Int} {v : Int} (hr : 0 < r) (hr2 : r < 25) (hk : 0 < k.length) (h0 : 0 ≤ v) (h1 : v ≤ 2147483647) : okD r (⟨k, true, v, []⟩ : dR) := by
 obtain ⟨s, rfl⟩ : ∃ s, r = s + 1 := ⟨r - 1, by omega⟩
 refine (kF s _).2 ⟨⟨fun e => ?_, fun e => by omega⟩, fun _ => ⟨h0, h1⟩, fun e => ?_, .inr (.inl rfl), fun j _ hj => ?_⟩
 ·have e2 : k.length = 0 := e
  omega
 ·exact absurd e (by simp)
 ·simp at hj
theorem J8 {r : Nat} {pre k : List Int} {v : Int} (hr : 0 < r) : fF r pre (⟨k, true, v, []⟩ : dR) = [⟨pre ++ k, v⟩] := by
 obtain ⟨s, rfl⟩ : ∃ s, r = s + 1 := ⟨r - 1, by omega⟩
 rw [gN, if_pos rfl]
 simp [fG]
theorem sN (r : Nat) (a : List Int) (xs ys : List dR) : fG r a (xs ++ ys) 0 = fG r a xs 0 ++ fG r a ys 0 := by
 unfold fG
 simp only [List.drop_zero, List.map_append, List.flatten_append]
theorem r9 (r : Nat) (a : List Int) (x : dR) : fG r a [x] 0 = fF r a x := by
 simp [fG]
theorem aaC (r : Nat) (a : List Int) (ks : List dR) (h : ∀ x ∈ ks, fF r a x ≠ []) : ks.length ≤ (fG r a ks 0).length := by
 unfold fG
 rw [List.drop_zero]
 induction ks with
 | nil => simp
 | cons x xs ih =>
  have h1 := h x List.mem_cons_self
  have h2 := ih (fun y hy => h y (List.mem_cons_of_mem _ hy))
  have h3 := List.length_pos_iff.2 h1
  rw [List.map_cons, List.flatten_cons, List.length_append, List.length_cons]
  omega
theorem ajn (s : Nat) : ∀ (r : Nat) (t : dR) (pre : List Int), r < 25 → s < 25 → okD r t → (∀ e ∈ fF r pre t, e.f0.length ≤ pre.length + s) → okD s t ∧ fF s pre t = fF r pre t := by
 induction s with
 | zero =>
  intro r t pre hr _ h hl
  have hne := uO r pre t hr h
  obtain ⟨e, he⟩ := List.exists_mem_of_ne_nil _ hne
  obtain ⟨s, hs⟩ := pG _ _ _ _ he
  have h1 := hl e he
  have h2 := sH h hr
  rw [hs, List.length_append, List.length_append] at h1
  omega
 | succ s ih =>
  intro r t pre hr hs h hl
  obtain ⟨q, rfl⟩ : ∃ q, r = q + 1 := by
   cases r with
   | zero => exact h.elim
   | succ q => exact ⟨q, rfl⟩
  have hp := sH h hr
  obtain ⟨h1, h2, h3, h4, ok⟩ := (kF q t).1 h
  have hk : ∀ j (hj : j < t.f3.length), okD s t.f3[j] ∧ fF s (pre ++ t.f0) t.f3[j] = fF q (pre ++ t.f0) t.f3[j] := by
   intro j hj
   refine ih q _ _ (by omega) (by omega) (ok j (by omega) hj).1 (fun e he => ?_)
   have := hl e (by rw [gN]; exact List.mem_append_right _ ((uN _ _ _ _).2 ⟨j, hj, he⟩))
   rw [List.length_append]
   omega
  refine ⟨(kF s t).2 ⟨⟨fun e => absurd e (by omega), fun e => absurd e (by omega)⟩, h2, h3, ?_, fun j hj0 hj => ⟨(hk j hj).1, (ok j hj0 hj).2⟩⟩, ?_⟩
  ·rcases h4 with h4 | h4
   ·omega
   ·exact .inr h4
  ·rw [gN, gN]
   congr 1
   unfold fG
   rw [List.drop_zero]
   congr 1
   apply List.map_congr_left
   intro x hx
   obtain ⟨j, hj, rfl⟩ := List.mem_iff_getElem.1 hx
   exact (hk j hj).2
theorem Xu (x : dR) : (⟨x.f0, x.f1, x.f2, x.f3⟩ : dR) = x := by cases x; rfl
theorem Xv (key : List Int) (val : Int) (a : List Int) (b : Bool) (c : Int) (hkey : 0 < key.length) (ys : List dR) (res : List Int × Bool × Int × List dR) : ∀ (xs out : List dR), (out ++ xs ++ ys).length ≤ 1048576 → (∀ x ∈ xs, 0 < x.f0.length ∧ rd x.f0 0 < rd key 0) →
  Ev (fun k => bz.l0 k key val (out ++ xs) false ((out ++ xs).length : Int) a b c (out ++ xs ++ ys)) res → Ev (fun k => bz.l0 k key val out false (out.length : Int) a b c (out ++ xs ++ ys)) res := by
 intro xs
 induction xs with
 | nil =>
  intro out _ _ h
  simpa using h
 | cons x xs ih =>
  intro out hn hx h
  have e1 : out ++ x :: xs ++ ys = (out ++ [x]) ++ xs ++ ys := by simp
  have e2 : out ++ x :: xs = (out ++ [x]) ++ xs := by simp
  rw [e1] at hn h ⊢
  rw [e2] at h
  have h2 := ih (out ++ [x]) hn (fun y hy => hx y (List.mem_cons_of_mem _ hy)) h
  obtain ⟨p1, p2⟩ := hx x List.mem_cons_self
  have hn' := hn
  simp only [List.length_append, List.length_cons, List.length_nil] at hn'
  have hi : out.length < (out ++ [x] ++ xs ++ ys).length := by simp only [List.length_append, List.length_cons, List.length_nil]; omega
  have hg : (out ++ [x] ++ xs ++ ys)[out.length] = x := by simp
  refine Ev.step (fun k => by rw [bz.l0]) ?_
  rw [yR _ _ hi, hg, sj (x := (out.length : Int) + 1) (by omega) (by omega)]
  refine aa (by omega) (aa (by omega) (az (by simp) (aa (by omega) (aa (by omega) (az (by omega) (az (by omega) (aa (by omega) ?_)))))))
  rw [List.length_append, List.length_singleton, Int.natCast_add, Int.natCast_one] at h2
  rw [Xu x]
  exact h2
theorem OW (key : List Int) (val : Int) (a : List Int) (b : Bool) (c : Int) (hkey : 0 < key.length) (ks : List dR) (hn : ks.length ≤ 1048000) (hx : ∀ x ∈ ks, 0 < x.f0.length ∧ rd x.f0 0 < rd key 0) :
  Ev (fun k => bz.l0 k key val [] false 0 a b c ks) (a, b, c, ks ++ [⟨key, true, val, []⟩]) := by
 have h := Xv key val a b c hkey [] (a, b, c, ks ++ [⟨key, true, val, []⟩]) ks [] (by simp; omega) hx
 simp only [List.nil_append, List.append_nil, List.length_nil] at h
 refine h ?_
 refine Ev.step (fun k => by rw [bz.l0]) (az (by omega) (az (by simp) (aa (by omega) (Ev.now _))))
theorem auC (key : List Int) (val : Int) (a : List Int) (b : Bool) (c : Int) (hkey : 0 < key.length) (ks : List dR) (x y : dR) (hn : ks.length ≤ 1048000) (hx : ∀ z ∈ ks, 0 < z.f0.length ∧ rd z.f0 0 < rd key 0) (hp : 0 < x.f0.length) (he : rd x.f0 0 = rd key 0)
  (hy : Ev (fun k => bz.f k x.f0 x.f1 x.f2 x.f3 key val) (y.f0, y.f1, y.f2, y.f3)) :
  Ev (fun k => bz.l0 k key val [] false 0 a b c (ks ++ [x])) (a, b, c, ks ++ [y]) := by
 have h := Xv key val a b c hkey [x] (a, b, c, ks ++ [y]) ks [] (by simp; omega) hx
 simp only [List.nil_append, List.length_nil] at h
 refine h ?_
 have hi : ks.length < (ks ++ [x]).length := by simp
 have hg : (ks ++ [x])[ks.length] = x := by simp
 refine Ev.step (fun k => by rw [bz.l0]) ?_
 rw [yR _ _ hi, hg, sj (x := (ks.length : Int) + 1) (by omega) (by omega)]
 refine aa (by omega) (aa (by omega) (az (by simp) (aa (by omega) (aa (by omega) (aa he (Ev.bind hy (aa (by omega) ?_)))))))
 rw [Xu y]
 refine Ev.step (fun k => by rw [bz.l0]) ?_
 refine az ?_ (aa rfl (Ev.now _))
 rw [List.length_append, List.length_singleton]
 omega
theorem KR (a s k : List Int) (ha : 0 < a.length) (h : aA.cmp (a ++ s) k < 0) : 0 < k.length ∧ rd a 0 ≤ rd k 0 := by
 cases a with
 | nil => simp at ha
 | cons x xs =>
  cases k with
  | nil => simp [aA.cmp] at h
  | cons y ys =>
   refine ⟨by simp, ?_⟩
   show x ≤ y
   rw [List.cons_append, aA.cmp] at h
   split at h
   ·omega
   ·split at h
    ·omega
    ·omega
theorem UY (a b : List Int) (ha : 0 < a.length) (hb : 0 < b.length) (h : rd a 0 = rd b 0) : 0 < wC a b := by
 cases a with
 | nil => simp at ha
 | cons x xs =>
  cases b with
  | nil => simp at hb
  | cons y ys =>
   have e : x = y := h
   rw [wC, if_pos e]
   omega
theorem adX (l : List Int) (i : Nat) : rd (l.drop i) 0 = l.getD i 0 := by
 show (l.drop i).getD 0 0 = _
 simp [List.getD_eq_getElem?_getD]
theorem auD (r : Nat) : ∀ (t : dR) (key pre : List Int) (val : Int), r ≤ 25 → (r < 25 → 24 ≤ r + pre.length) → qB t → okD r t → (fF r pre t).length ≤ 1000 → (∀ e ∈ fF r pre t, e.f0.length ≤ 20) → pre.length + key.length ≤ 20 → 0 < key.length → 0 ≤ val → val ≤ 2147483647 →
  (∀ e ∈ fF r pre t, aA.cmp e.f0 (pre ++ key) < 0) → (r < 25 → rd t.f0 0 = rd key 0) →
  ∃ t' : dR, Ev (fun k => bz.f k t.f0 t.f1 t.f2 t.f3 key val) (t'.f0, t'.f1, t'.f2, t'.f3) ∧ okD r t' ∧ qB t' ∧ fF r pre t' = fF r pre t ++ [⟨pre ++ key, val⟩] ∧ (r < 25 → rd t'.f0 0 = rd t.f0 0) := by
 induction r with
 | zero => intro t _ _ _ _ _ _ h; exact h.elim
 | succ r ih =>
  intro t key pre val hr hdep hf h hn hlen hpk hkey hv0 hv1 hcmp hh
  obtain ⟨h1, h2, h3, h4, ok⟩ := (kF r t).1 h
  have h0 := hf.h0
  have hlc := ajd t.f0 key
  have hr0 : 0 < r := by omega
  have hEsucc := gN r pre t
  -- what stands in the tree begins with its edge
  have hent : ∀ e ∈ fF (r + 1) pre t, ∃ s, e.f0 = pre ++ t.f0 ++ s ∧ aA.cmp (t.f0 ++ s) key < 0 := by
   intro e he
   obtain ⟨s, hs⟩ := pG _ _ _ _ he
   have := hcmp e he
   rw [hs, List.append_assoc, Bt] at this
   exact ⟨s, hs, this⟩
  by_cases hn1 : wC t.f0 key < t.f0.length
  ·have hr5 : r + 1 < 25 := by
    rcases Nat.lt_or_ge (r + 1) 25 with c | c
    ·exact c
    ·have := h1.2 (by omega)
     omega
   have hp := sH h hr5
   have hpos := UY t.f0 key hp hkey (hh hr5)
   generalize hq : wC t.f0 key = n at hn1 hlc hpos
   have htk : t.f0.take n = key.take n := by rw [← hq]; exact Xq t.f0 key
   obtain ⟨e0, he0⟩ := List.exists_mem_of_ne_nil _ (uO (r + 1) pre t hr5 h)
   obtain ⟨s, _, hs⟩ := hent e0 he0
   have hs2 : aA.cmp (t.f0.drop n ++ s) (key.drop n) < 0 := by
    have e1 : t.f0 ++ s = t.f0.take n ++ (t.f0.drop n ++ s) := by rw [← List.append_assoc, List.take_append_drop]
    have e2 : key = t.f0.take n ++ key.drop n := by rw [htk, List.take_append_drop]
    rw [e1, e2, Bt] at hs
    simpa using hs
   have hdl : 0 < (t.f0.drop n).length := by rw [List.length_drop]; omega
   obtain ⟨k1, k2⟩ := KR _ _ _ hdl hs2
   have hkn : n < key.length := by rw [List.length_drop] at k1; omega
   have hne : rd (t.f0.drop n) 0 ≠ rd (key.drop n) 0 := by
    rw [adX, adX, ← hq]
    exact aje t.f0 key (by omega) (by omega)
   have hlt : rd (t.f0.drop n) 0 < rd (key.drop n) 0 := by omega
   have hpl : (t.f0.take n).length = n := by rw [List.length_take]; omega
   have hlow : okD (r + 1) (⟨t.f0.drop n, t.f1, t.f2, t.f3⟩ : dR) := (kF r _).2 ⟨⟨fun e => absurd e (by show ¬ (t.f0.drop n).length = 0; omega), fun e => by omega⟩, h2, h3, h4, ok⟩
   have hel : fF (r + 1) (pre ++ t.f0.take n) (⟨t.f0.drop n, t.f1, t.f2, t.f3⟩ : dR) = fF (r + 1) pre t := by
    rw [gN, gN]
    have : pre ++ t.f0.take n ++ t.f0.drop n = pre ++ t.f0 := by rw [List.append_assoc, List.take_append_drop]
    show (if t.f1 = true then [(⟨pre ++ t.f0.take n ++ t.f0.drop n, t.f2⟩ : yn)] else []) ++ fG r (pre ++ t.f0.take n ++ t.f0.drop n) t.f3 0 = _
    rw [this]
   obtain ⟨d1, d2⟩ := ajn r (r + 1) _ (pre ++ t.f0.take n) hr5 (by omega) hlow (fun e he => by
    rw [hel] at he
    have := hlen e he
    rw [List.length_append, hpl]
    omega)
   have hfl : qB (⟨t.f0.drop n, t.f1, t.f2, t.f3⟩ : dR) := qB.mk _ (by show (t.f0.drop n).length ≤ _; rw [List.length_drop]; omega) hf.h3 hf.hk
   have hfk : qB (⟨key.drop n, true, val, []⟩ : dR) := qB.mk _ (by show (key.drop n).length ≤ _; rw [List.length_drop]; omega) (by simp) (by simp)
   have hkd : 0 < (key.drop n).length := k1
   refine ⟨⟨t.f0.take n, false, 0, [⟨t.f0.drop n, t.f1, t.f2, t.f3⟩, ⟨key.drop n, true, val, []⟩]⟩, ?_, ?_, ?_, ?_, ?_⟩
   ·have hin : Ev (fun k => bz.f k (t.f0.take n) false 0 [⟨t.f0.drop n, t.f1, t.f2, t.f3⟩] key val) (t.f0.take n, false, 0, [⟨t.f0.drop n, t.f1, t.f2, t.f3⟩] ++ [(⟨key.drop n, true, val, []⟩ : dR)]) := by
     have hl2 : wC (t.f0.take n) key = n := by
      have := (EX key (t.f0.take n)).2 ⟨by omega, by rw [hpl, htk]⟩
      rw [OV, this, hpl]
     refine Ev.step (fun k => by rw [bz.f]) (Ev.bind (zM _ key (by omega)) ?_)
     rw [hl2]
     refine az (by omega) (aa (by omega) (aa (by omega) ?_))
     rw [Int.toNat_natCast]
     refine bU (a := key.drop n) rfl (az (by omega) ?_)
     exact OW (key.drop n) val _ false 0 hkd [⟨t.f0.drop n, t.f1, t.f2, t.f3⟩] (by simp) (fun x hx => by
      rw [List.mem_singleton] at hx
      subst hx
      exact ⟨hdl, hlt⟩)
    refine Ev.step (fun k => by rw [bz.f]) (Ev.bind (zM _ key (by omega)) ?_)
    rw [hq]
    refine aa (by omega) (aa (by omega) (aa (by omega) ?_))
    rw [Int.toNat_natCast]
    exact Ev.bind hin (Ev.now _)
   ·refine (kF r _).2 ⟨⟨fun e => absurd e (by show ¬ (t.f0.take n).length = 0; omega), fun e => by omega⟩, fun e => absurd e (by simp), fun _ => rfl, .inr (.inr (by simp)), ?_⟩
    refine UW ⟨?_, ?_⟩
    ·intro x hx
     simp only [List.mem_cons, List.not_mem_nil, or_false] at hx
     rcases hx with rfl | rfl
     ·exact d1
     ·exact UX hr0 (by omega) hkd hv0 hv1
    ·refine List.pairwise_cons.2 ⟨fun y hy => ?_, by simp⟩
     rw [List.mem_singleton] at hy
     subst hy
     exact hlt
   ·refine qB.mk _ (by show (t.f0.take n).length ≤ _; omega) (by simp) ?_
    intro x hx
    simp only [List.mem_cons, List.not_mem_nil, or_false] at hx
    rcases hx with rfl | rfl
    ·exact hfl
    ·exact hfk
   ·rw [gN, if_neg (by simp), List.nil_append]
    show fG r (pre ++ t.f0.take n) ([⟨t.f0.drop n, t.f1, t.f2, t.f3⟩] ++ [⟨key.drop n, true, val, []⟩]) 0 = _
    rw [sN, r9, r9, d2, hel, J8 hr0, List.append_assoc, htk, List.take_append_drop]
   ·intro _
    show rd (t.f0.take n) 0 = rd t.f0 0
    have := Jl (t.f0.take n) (t.f0.drop n) (by omega)
    rw [List.take_append_drop] at this
    exact this.symm
  ·have hln : wC t.f0 key = t.f0.length := by omega
   have htk : key.take t.f0.length = t.f0 := ((EX key t.f0).1 (by rw [OV]; omega)).2
   have hkeq : key = t.f0 ++ key.drop t.f0.length := by
    have := List.take_append_drop t.f0.length key
    rw [htk] at this
    exact this.symm
   generalize hk2 : key.drop t.f0.length = k2 at hkeq
   have hkl : t.f0.length + k2.length = key.length := by
    have := congrArg List.length hkeq
    rw [List.length_append] at this
    omega
   have hz : 0 < k2.length := by
    rcases Nat.eq_zero_or_pos k2.length with c | c
    ·have e2 : k2 = [] := List.eq_nil_of_length_eq_zero c
     rw [e2, List.append_nil] at hkeq
     rcases Nat.lt_or_ge (r + 1) 25 with c5 | c5
     ·obtain ⟨e0, he0⟩ := List.exists_mem_of_ne_nil _ (uO (r + 1) pre t c5 h)
      obtain ⟨s, _, hs⟩ := hent e0 he0
      rw [hkeq, Xg] at hs
      rcases Nat.eq_zero_or_pos s.length with c6 | c6
      ·rw [List.eq_nil_of_length_eq_zero c6, List.append_nil, Jg] at hs
       omega
      ·have := aar t.f0 s c6
       omega
     ·have := h1.2 (by omega)
      rw [hkeq] at hkey
      omega
    ·exact c
   have hkid : ∀ x ∈ t.f3, 0 < x.f0.length ∧ rd x.f0 0 ≤ rd k2 0 := by
    intro x hx
    obtain ⟨j, hj, rfl⟩ := List.mem_iff_getElem.1 hx
    have okx := (ok j (by omega) hj).1
    have hxp := sH okx (by omega)
    obtain ⟨e0, he0⟩ := List.exists_mem_of_ne_nil _ (uO r (pre ++ t.f0) _ (by omega) okx)
    obtain ⟨s, hs⟩ := pG _ _ _ _ he0
    have hc := hcmp e0 (by rw [hEsucc]; exact List.mem_append_right _ ((uN _ _ _ _).2 ⟨j, hj, he0⟩))
    rw [hs, hkeq, ← List.append_assoc, List.append_assoc (pre ++ t.f0), Bt] at hc
    exact ⟨hxp, (KR _ _ _ hxp hc).2⟩
   have hcount : t.f3.length ≤ 1000 := by
    have hc := aaC r (pre ++ t.f0) t.f3 (fun x hx => by
     obtain ⟨j, hj, rfl⟩ := List.mem_iff_getElem.1 hx
     exact uO r _ _ (by omega) (ok j (by omega) hj).1)
    rw [hEsucc, List.length_append] at hn
    omega
   have hrow := row_of ok
   have start : ∀ res, Ev (fun k => bz.l0 k k2 val [] false 0 t.f0 t.f1 t.f2 t.f3) res → Ev (fun k => bz.f k t.f0 t.f1 t.f2 t.f3 key val) res := by
    intro res hres
    refine Ev.step (fun k => by rw [bz.f]) (Ev.bind (zM _ key (by omega)) ?_)
    rw [hln]
    refine az (by omega) (aa (by omega) (aa (by omega) ?_))
    rw [Int.toNat_natCast, hk2]
    exact bU rfl (az (by omega) hres)
   have hkeyeq : pre ++ t.f0 ++ k2 = pre ++ key := by rw [List.append_assoc, ← hkeq]
   rcases List.eq_nil_or_concat t.f3 with hnil | ⟨init, last, hcat⟩
   ·-- no kid: a leaf
    refine ⟨⟨t.f0, t.f1, t.f2, [⟨k2, true, val, []⟩]⟩, start _ ?_, ?_, ?_, ?_, fun _ => rfl⟩
    ·have := OW k2 val t.f0 t.f1 t.f2 hz t.f3 (by omega) (by rw [hnil]; simp)
     rw [hnil] at this ⊢
     exact this
    ·refine (kF r _).2 ⟨h1, h2, h3, ?_, UW ⟨fun x hx => ?_, by simp⟩⟩
     ·rcases h4 with h4 | h4 | h4
      ·exact .inl h4
      ·exact .inr (.inl h4)
      ·rw [hnil] at h4; simp at h4
     ·rw [List.mem_singleton] at hx
      subst hx
      exact UX hr0 (by omega) hz hv0 hv1
    ·refine qB.mk _ h0 (by simp) (fun x hx => ?_)
     have hx2 : x = (⟨k2, true, val, []⟩ : dR) := by simpa using hx
     subst hx2
     exact qB.mk _ (by show k2.length ≤ _; omega) (by simp) (by simp)
    ·rw [gN, hEsucc, hnil, r9, J8 hr0, hkeyeq]
     simp [fG]
   ·replace hcat : t.f3 = init ++ [last] := by first | exact hcat | exact hcat.trans (List.concat_eq_append ..)
    have hlm : last ∈ t.f3 := by rw [hcat]; simp
    have hrow' := hrow
    rw [hcat] at hrow'
    obtain ⟨hro, hrp⟩ := hrow'
    obtain ⟨hp1, _, hp2⟩ := List.pairwise_append.1 hrp
    have okl := hro last (by simp)
    have hinit : ∀ x ∈ init, 0 < x.f0.length ∧ rd x.f0 0 < rd k2 0 := by
     intro x hx
     have a1 := hkid x (by rw [hcat]; exact List.mem_append_left _ hx)
     have a2 := hkid last hlm
     have a3 := hp2 x hx last (by simp)
     exact ⟨a1.1, by omega⟩
    have hlast := hkid last hlm
    have hcl : init.length ≤ 1000 := by rw [hcat, List.length_append] at hcount; omega
    have hEk : fF (r + 1) pre t = (if t.f1 = true then [⟨pre ++ t.f0, t.f2⟩] else []) ++ (fG r (pre ++ t.f0) init 0 ++ fF r (pre ++ t.f0) last) := by rw [hEsucc, hcat, sN, r9]
    have hsub : ∀ e ∈ fF r (pre ++ t.f0) last, e ∈ fF (r + 1) pre t := fun e he => by rw [hEk]; exact List.mem_append_right _ (List.mem_append_right _ he)
    by_cases heq : rd last.f0 0 = rd k2 0
    ·have hedge : r + 1 < 25 → 0 < t.f0.length := fun c => sH h c
     obtain ⟨y, e1, e2, e3, e4, e5⟩ := ih last k2 (pre ++ t.f0) val (by omega) (fun c => by
       rw [List.length_append]
       rcases Nat.lt_or_ge (r + 1) 25 with c5 | c5
       ·have := hdep c5
        have := hedge c5
        omega
       ·omega) (hf.hk last hlm) okl (by rw [hEk, List.length_append, List.length_append] at hn; omega) (fun e he => hlen e (hsub e he)) (by rw [List.length_append]; omega) hz hv0 hv1 (fun e he => by rw [hkeyeq]; exact hcmp e (hsub e he)) (fun _ => heq)
     refine ⟨⟨t.f0, t.f1, t.f2, init ++ [y]⟩, start _ ?_, ?_, ?_, ?_, fun _ => rfl⟩
     ·have := auC k2 val t.f0 t.f1 t.f2 hz init last y (by omega) hinit hlast.1 heq e1
      rw [hcat]
      exact this
     ·refine (kF r _).2 ⟨h1, h2, h3, ?_, UW ⟨fun x hx => ?_, ?_⟩⟩
      ·rcases h4 with h4 | h4 | h4
       ·exact .inl h4
       ·exact .inr (.inl h4)
       ·refine .inr (.inr ?_)
        rw [hcat, List.length_append] at h4
        show 2 ≤ (init ++ [y]).length
        rw [List.length_append]
        exact h4
      ·rcases List.mem_append.1 hx with hx | hx
       ·exact hro x (List.mem_append_left _ hx)
       ·rw [List.mem_singleton] at hx
        subst hx
        exact e2
      ·refine List.pairwise_append.2 ⟨hp1, by simp, fun x hx z hz2 => ?_⟩
       rw [List.mem_singleton] at hz2
       subst hz2
       rw [e5 (by omega)]
       exact hp2 x hx last (by simp)
     ·refine qB.mk _ h0 (by show (init ++ [y]).length ≤ _; rw [List.length_append, List.length_singleton]; omega) (fun x hx => ?_)
      rcases List.mem_append.1 hx with hx | hx
      ·exact hf.hk x (by rw [hcat]; exact List.mem_append_left _ hx)
      ·rw [List.mem_singleton] at hx
       subst hx
       exact e3
     ·rw [gN, hEk]
      show (if t.f1 = true then [(⟨pre ++ t.f0, t.f2⟩ : yn)] else []) ++ fG r (pre ++ t.f0) (init ++ [y]) 0 = _
      rw [sN, r9, e4, hkeyeq]
      simp only [List.append_assoc]
    ·have hlt : rd last.f0 0 < rd k2 0 := by omega
     refine ⟨⟨t.f0, t.f1, t.f2, t.f3 ++ [⟨k2, true, val, []⟩]⟩, start _ ?_, ?_, ?_, ?_, fun _ => rfl⟩
     ·refine OW k2 val t.f0 t.f1 t.f2 hz t.f3 (by omega) (fun x hx => ?_)
      rw [hcat] at hx
      rcases List.mem_append.1 hx with hx | hx
      ·exact hinit x hx
      ·rw [List.mem_singleton] at hx
       subst hx
       exact ⟨hlast.1, hlt⟩
     ·refine (kF r _).2 ⟨h1, h2, h3, ?_, UW ⟨fun x hx => ?_, ?_⟩⟩
      ·rcases h4 with h4 | h4 | h4
       ·exact .inl h4
       ·exact .inr (.inl h4)
       ·refine .inr (.inr ?_)
        show 2 ≤ (t.f3 ++ [_]).length
        rw [List.length_append]
        omega
      ·rcases List.mem_append.1 hx with hx | hx
       ·exact hrow.1 x hx
       ·rw [List.mem_singleton] at hx
        subst hx
        exact UX hr0 (by omega) hz hv0 hv1
      ·refine List.pairwise_append.2 ⟨hrow.2, by simp, fun x hx z hz2 => ?_⟩
       rw [List.mem_singleton] at hz2
       subst hz2
       show rd x.f0 0 < rd k2 0
       rw [hcat] at hx
       rcases List.mem_append.1 hx with hx | hx
       ·exact (hinit x hx).2
       ·rw [List.mem_singleton] at hx
        subst hx
        exact hlt
     ·refine qB.mk _ h0 (by show (t.f3 ++ [_]).length ≤ _; rw [List.length_append, List.length_singleton]; omega) (fun x hx => ?_)
      rcases List.mem_append.1 hx with hx | hx
      ·exact hf.hk x hx
      ·rw [List.mem_singleton] at hx
       subst hx
       exact qB.mk _ (by show k2.length ≤ _; omega) (by simp) (by simp)
     ·rw [gN, hEsucc]
      show (if t.f1 = true then [(⟨pre ++ t.f0, t.f2⟩ : yn)] else []) ++ fG r (pre ++ t.f0) (t.f3 ++ [⟨k2, true, val, []⟩]) 0 = _
      rw [sN, r9, J8 hr0, hkeyeq, List.append_assoc]
-- treeofs.lean: the tree of a state's rows, by both programs
def Xw (x : kG) : yn := ⟨x.f0, x.f2⟩
theorem Xx {rows : List kG} (hs : ∀ i (h : i + 1 < rows.length), aA.cmp rows[i].f0 rows[i + 1].f0 < 0) (d : Nat) : ∀ i (h : i + d + 1 < rows.length), aA.cmp rows[i].f0 (rows[i + d + 1]).f0 < 0 := by
 induction d with
 | zero => intro i h; exact hs i h
 | succ d ih =>
  intro i h
  have h1 := ih i (by omega)
  have h2 := hs (i + d + 1) (by omega)
  exact Ar _ _ _ h1 h2
structure adY (rows : List kG) : Prop where
 hn : rows.length ≤ 20
 hk : ∀ x ∈ rows, 1 ≤ x.f0.length ∧ x.f0.length ≤ 20
 hv : ∀ x ∈ rows, 0 ≤ x.f2 ∧ x.f2 ≤ 2147483647
 hs : ∀ i (h : i + 1 < rows.length), aA.cmp rows[i].f0 rows[i + 1].f0 < 0
theorem ajo {idx lost : Int} {rows : List kG} {tombs : List lQ} {sess : List l7} {lasts : List mE} (h : J7 idx rows tombs lost sess lasts) : adY rows := by
 obtain ⟨⟨⟨i0, i1⟩, _, hn, _⟩, hr, _⟩ := h
 have at_ : ∀ i (hi : i < rows.length), ax rows (i : Int) = rows[i] := fun i hi => qm rows i hi
 refine ⟨hn, fun x hx => ?_, fun x hx => ?_, fun i hi => ?_⟩
 ·obtain ⟨j, hj, rfl⟩ := List.mem_iff_getElem.1 hx
  have := hr j hj
  unfold EU at this
  rw [at_ j hj] at this
  exact ai_ this.1
 ·obtain ⟨j, hj, rfl⟩ := List.mem_iff_getElem.1 hx
  have := hr j hj
  unfold EU at this
  rw [at_ j hj] at this
  obtain ⟨_, _, a, b, _⟩ := this
  omega
 ·have := hr (i + 1) hi
  unfold EU at this
  obtain ⟨_, _, _, _, _, c⟩ := this
  have c2 := c (by omega)
  rw [at_ (i + 1) hi, show (((i + 1 : Nat) : Int) - 1) = (i : Int) by omega, at_ i (by omega)] at c2
  exact c2
theorem Xy (idx lost : Int) (tombs : List lQ) (sess : List l7) (lasts : List mE) {rows : List kG} (hr : adY rows) (d : Nat) : ∀ (i : Nat) (t : dR), i ≤ rows.length → rows.length - i = d → okD 25 t → qB t → fF 25 [] t = (rows.take i).map Xw →
  ∃ u : dR, Ev (fun k => fI.l0 k (i : Int) idx rows tombs lost sess lasts t.f0 t.f1 t.f2 t.f3) (u.f0, u.f1, u.f2, u.f3) ∧ okD 25 u ∧ qB u ∧ fF 25 [] u = rows.map Xw := by
 induction d with
 | zero =>
  intro i t hi hd ht hf he
  refine ⟨t, Ev.step (fun k => by rw [fI.l0]) (az (by omega) (Ev.bind (auB hf) (Ev.now _))), ht, hf, ?_⟩
  rw [he, List.take_of_length_le (by omega)]
 | succ d ih =>
  intro i t hi hd ht hf he
  have hi' : i < rows.length := by omega
  have hn := hr.hn
  have hm := List.getElem_mem hi'
  have hk := hr.hk _ hm
  have hv := hr.hv _ hm
  have hin : ∀ e ∈ fF 25 [] t, ∃ j, ∃ h : j < i, e = Xw (rows[j]'(by omega)) := by
   intro e hee
   rw [he] at hee
   obtain ⟨x, hx, rfl⟩ := List.mem_map.1 hee
   obtain ⟨j, hj, rfl⟩ := List.mem_iff_getElem.1 hx
   have hj2 : j < i := by rw [List.length_take] at hj; omega
   exact ⟨j, hj2, by rw [List.getElem_take]⟩
  obtain ⟨t', e1, e2, e3, e4, _⟩ := auD 25 t rows[i].f0 [] rows[i].f2 (by omega) (by omega) hf ht (by rw [he, List.length_map, List.length_take]; omega) (fun e hee => by
    obtain ⟨j, hj, rfl⟩ := hin e hee
    exact (hr.hk _ (List.getElem_mem (by omega))).2) (by simp only [List.length_nil]; omega) (by omega) hv.1 hv.2 (fun e hee => by
    obtain ⟨j, hj, rfl⟩ := hin e hee
    have := Xx hr.hs (i - j - 1) j (by omega)
    rw [List.nil_append]
    have e9 : j + (i - j - 1) + 1 = i := by omega
    simp only [e9] at this
    exact this) (fun c => by omega)
  obtain ⟨u, f1, f2, f3, f4⟩ := ih (i + 1) t' (by omega) (by omega) e2 e3 (by
   rw [e4, he, List.nil_append, List.take_add_one, List.getElem?_eq_getElem hi', List.map_append]
   rfl)
  rw [Int.natCast_add, Int.natCast_one] at f1
  refine ⟨u, ?_, f2, f3, f4⟩
  refine Ev.step (fun k => by rw [fI.l0]) ?_
  rw [qm rows i hi', sj (x := (i : Int) + 1) (by omega) (by omega)]
  exact aa (by omega) (aa (by omega) (Ev.bind e1 f1))
theorem Xz {rows : List kG} (hn : rows.length ≤ 20) (res : List Int × Bool × Int × List dR) (h : Ev (fun k => pO.f k (rows.map Xw)) res) (d : Nat) : ∀ (i : Nat), i ≤ rows.length → rows.length - i = d →
  Ev (fun k => ic.l0 k ((rows.take i).map Xw) rows (rows.length : Int) (i : Int)) res := by
 induction d with
 | zero =>
  intro i hi hd
  refine Ev.step (fun k => by rw [ic.l0]) (az (by omega) ?_)
  rw [List.take_of_length_le (by omega)]
  exact Ev.bind h (Ev.now _)
 | succ d ih =>
  intro i hi hd
  have hi' : i < rows.length := by omega
  have h2 := ih (i + 1) (by omega) (by omega)
  rw [Int.natCast_add, Int.natCast_one, List.take_add_one, List.getElem?_eq_getElem hi', List.map_append] at h2
  refine Ev.step (fun k => by rw [ic.l0]) ?_
  rw [qm rows i hi', sj (x := (i : Int) + 1) (by omega) (by omega)]
  exact aa (by omega) (aa (by omega) (aa (by omega) (aa (by rw [List.length_map, List.length_take]; omega) h2)))
theorem WZ (x : U6) (ok : Mw x) (h : afv x) : ∃ u : dR, okD 25 u ∧ qB u ∧ (fF 25 [] u).length ≤ 20 ∧ Ev (fun k => fI.f k x.f0 (x.f1.map u_) (x.f2.map qo) x.f3 (x.f4.map sW) (x.f5.map sZ)) (u.f0, u.f1, u.f2, u.f3) ∧ Ev (fun k => ic.f k x.f0 (x.f1.map u_) (x.f2.map qo) x.f3 (x.f4.map sW) (x.f5.map sZ)) (u.f0, u.f1, u.f2, u.f3) := by
 obtain ⟨b, e1, e2, hv⟩ := Xp x ok h
 have hz : okD 25 (⟨[], false, 0, []⟩ : dR) := (kF 24 _).2 ⟨by simp, by simp, by simp, .inl rfl, fun j _ hj => by simp at hj⟩
 have hfz : qB (⟨[], false, 0, []⟩ : dR) := qB.mk _ (by simp) (by simp) (by simp)
 have hez : fF 25 [] (⟨[], false, 0, []⟩ : dR) = [] := by
  rw [gN]
  simp [fG]
 unfold fI.f ic.f
 cases b with
 | false => exact ⟨⟨[], false, 0, []⟩, hz, hfz, by rw [hez]; simp, Ev.bind e1 (az (by simp) (Ev.now _)), Ev.bind e2 (az (by simp) (Ev.now _))⟩
 | true =>
  have hr := ajo (hv.1 rfl)
  obtain ⟨u, f1, f2, f3, f4⟩ := Xy x.f0 x.f3 (x.f2.map qo) (x.f4.map sW) (x.f5.map sZ) hr _ 0 ⟨[], false, 0, []⟩ (by omega) rfl hz hfz (by rw [hez]; simp)
  have hl : (fF 25 [] u).length ≤ 20 := by rw [f4, List.length_map]; exact hr.hn
  have ht := afC f2 f3 (by omega) (fun e he => by
   rw [f4] at he
   obtain ⟨y, hy, rfl⟩ := List.mem_map.1 he
   have := (hr.hk y hy).2
   show y.f0.length ≤ _
   omega)
  rw [f4] at ht
  have hi := Xz hr.hn _ ht _ 0 (by omega) rfl
  exact ⟨u, f2, f3, hl, Ev.bind e1 (aa rfl f1), Ev.bind e2 (aa rfl hi)⟩
end Go.Proofs.Ytmfedjoofnlncaa.Pure
