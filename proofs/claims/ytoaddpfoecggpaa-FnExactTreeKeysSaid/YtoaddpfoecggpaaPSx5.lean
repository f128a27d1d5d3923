-- Written for this claim by the session's program pp.py, out of the kit's print and the seat's translation.
import Derived.Test.YtoaddpfoecggpaaPSx0
namespace Go.Proofs.Ytoaddpfoecggpaa.PS
open Go.RowKit Go.Proofs.YtoaddpfoecggpaaW.PrintWords Go.Proofs.YtoaddpfoecggpaaW.PrintLast Go.Proofs.YtoaddpfoecggpaaW.PrintMore
attribute [local go_sem] max2_int min2_int max_two min_two max_three min_three max_four min_four   -- for this text's walks alone
set_option linter.unusedVariables false
set_option linter.unusedSimpArgs false

/-! ### laws_markTree: function 33 -/
def laws_markTree.S_wt : Nat → S30 → Nat
 | 0, _ => 0
 | k + 1, x => x.f0.length + 2 + (x.f3.map (laws_markTree.S_wt k)).sum
def laws_markTree.S_dp : Nat → S30 → Bool
 | 0, _ => false
 | k + 1, x => x.f3.all (laws_markTree.S_dp k)
def laws_markTree.S_Eqv (x y : S30) : Prop := x.f0.length = y.f0.length ∧ ∀ j, laws_markTree.S_wt j x = laws_markTree.S_wt j y ∧ laws_markTree.S_dp j x = laws_markTree.S_dp j y
theorem laws_markTree.S_map_eq {xs ys : List S30} {β : Type} (f : S30 → β) (hl : ys.length = xs.length) (h : ∀ (j : Nat) (x y : S30), xs[j]? = some x → ys[j]? = some y → f x = f y) : xs.map f = ys.map f := by
 apply List.ext_getElem?
 intro j
 rw [List.getElem?_map, List.getElem?_map]
 rcases Nat.lt_or_ge j xs.length with hj | hj
 ·have hj' : j < ys.length := by omega
  rw [List.getElem?_eq_getElem hj, List.getElem?_eq_getElem hj', Option.map_some, Option.map_some, h j _ _ (List.getElem?_eq_getElem hj) (List.getElem?_eq_getElem hj')]
 ·rw [List.getElem?_eq_none hj, List.getElem?_eq_none (by omega)]
theorem laws_markTree.S_all_eq {xs ys : List S30} (f : S30 → Bool) (hl : ys.length = xs.length) (h : ∀ (j : Nat) (x y : S30), xs[j]? = some x → ys[j]? = some y → f x = f y) : xs.all f = ys.all f := by
 have e : ∀ zs : List S30, zs.all f = (zs.map f).all id := fun zs => by rw [List.all_map]; rfl
 rw [e, e, laws_markTree.S_map_eq f hl h]
theorem laws_markTree.S_shape (k : Nat) : ∀ (x : S30), laws_markTree.S_dp k x = true → ∀ (w W : World) (P ok : Nat → Prop) (base : Nat) (cs cs' : List Value), Mk w W P → (∀ b, ok b → P b) → k30.M w base ok x cs → Sm cs cs' → ∃ x', laws_markTree.S_Eqv x x' ∧ k30.M W base ok x' cs' := by
 induction k with
 | zero => intro x hd; simp [laws_markTree.S_dp] at hd
 | succ k ih =>
  intro x hd w W P ok base cs cs' M hok hm hsm
  obtain ⟨v0, v3, rfl, h0, h3⟩ := k30_openM hm
  obtain ⟨hl, he⟩ := hsm
  obtain ⟨A0, c0, rfl⟩ := Kd.R_slice h0
  obtain ⟨A3, c3, rfl⟩ := Kd.R_slice h3
  obtain ⟨u0, hu0, q0⟩ := he 0 _ rfl
  obtain ⟨u1, hu1, q1⟩ := he 1 _ rfl
  obtain ⟨u2, hu2, q2⟩ := he 2 _ rfl
  obtain ⟨u3, hu3, q3⟩ := he 3 _ rfl
  obtain rfl := q0.slice
  obtain ⟨b1, rfl⟩ := q1.bool
  obtain ⟨i2, rfl⟩ := q2.int
  obtain rfl := q3.slice
  have hcs : cs' = [.slice A0 x.f0.length c0, .bool b1, .int .i64 i2, .slice A3 x.f3.length c3] := by
   match cs', hl, hu0, hu1, hu2, hu3 with
   | [z0, z1, z2, z3], _, a0, a1, a2, a3 => simp at a0 a1 a2 a3; rw [a0, a1, a2, a3]
  obtain ⟨f0, hl0, h0'⟩ := Mk.R_int M hok h0
  obtain ⟨f3, hl3, hs3, h3'⟩ := Mk.R (s := laws_markTree.S_Eqv) M hok h3 (fun y hy ok' hok' d d' hm' hsm' => ih y (by simp only [laws_markTree.S_dp, List.all_eq_true] at hd; exact hd y hy) w W P ok' base d d' M hok' hm' hsm')
  refine ⟨⟨f0, b1, i2, f3⟩, ⟨hl0.symm, fun j => ?_⟩, ?_⟩
  ·cases j with
   | zero => exact ⟨rfl, rfl⟩
   | succ j =>
    refine ⟨?_, ?_⟩
    ·simp only [laws_markTree.S_wt]
     rw [hl0, laws_markTree.S_map_eq (laws_markTree.S_wt j) hl3 (fun i y y' hy hy' => ((hs3 i y y' hy hy').2 j).1)]
    ·simp only [laws_markTree.S_dp]
     exact laws_markTree.S_all_eq (laws_markTree.S_dp j) hl3 (fun i y y' hy hy' => ((hs3 i y y' hy hy').2 j).2)
  ·subst hcs
   have e := k30_mkM W base ok ⟨f0, b1, i2, f3⟩ (v0 := .slice A0 x.f0.length c0) h0' (v3 := .slice A3 x.f3.length c3) h3'
   exact e
set_option maxHeartbeats 8000000 in
set_option maxRecDepth 100000 in
theorem laws_markTree.S_flat (P : Nat → Prop) (base : Nat) (v : Value) (l : List Int) (a : Int) (w : World) (hr : Kd.R (Kd.int .u8) 5 w base P v l) (h0 : 0 ≤ a) (h1 : a + l.length ≤ 1000000000) :
  Calls Try.prog 34 #[v, .int .i64 a] w fun e w' => e = .returned (.int .i64 (a + l.length)) ∧ Mk w w' P := by
 obtain ⟨A, c, rfl⟩ := Kd.R_slice hr
 have HR := Aside0.mk hr
 clear hr
 go_enter Try.func34, Try.ntmps34
 go_wp2
 go_loopg [1, 5] l.length (fun gg v1 v5 wr => ∃ x : Int, v1 = .int .i64 (a + x) ∧ v5 = .int .i64 x ∧ 0 ≤ x ∧ x ≤ (l.length : Int) ∧ l.length - x.toNat ≤ gg ∧ Aside0 (Mk w wr P))
 case atStart => exact ⟨0, by rw [Int.add_zero], rfl, by omega, by omega, by omega, ⟨Mk.refl w P⟩⟩
 case round =>
  obtain ⟨x, rfl, rfl, hx0, hx1, hg, M⟩ := hrel
  by_cases hlt : x < (l.length : Int)
  ·obtain ⟨l', hl', hr'⟩ := Mk.R_int M.out (fun _ h => h) HR.out
   have hlt' : x < (l'.length : Int) := by omega
   have c1 : decide (x < (l.length : Int)) = true := decide_eq_true hlt
   have HL := Aside0.mk hlt
   have HLL := Aside0.mk hl'
   have HG := Aside0.mk hg
   clear hlt hg
   obtain ⟨g, cap, e, hb, hgl, cells, hcell⟩ := Kd.R_form hr' (by omega)
   injection e with ea en ec
   subst ea
   obtain ⟨hx, hf⟩ := Kd.R_celln 0 hr' x hx0 (by omega)
   have HP := Aside0.mk (hr'.1 g rfl)
   have HR' := Aside0.mk hr'
   clear hr' hcell hgl hb en ec hl' hlt' hx1
   have p5 : (0 ≤ x) = True := eq_true hx0
   have q5 : (x < (l.length : Int)) = True := eq_true HL.out
   go_wp2_with (first | ((with_reducible refine gate_store (t := 5) (p := 16) rfl ?_); refine store_event (t := 5) (p := 16) (v := ?vo_w8) (w1 := (wr.setCell ⟨g, x.toNat, none⟩ (.int .u8 ((a + x) % 256)))) ?hg ?ho ?hn ?hr ?_; (case ho => rfl); (case hg => rfl); (case hn => rfl); (case hr => first | (go_simp; done) | (go_simp; rfl)); intro w8 hw; have M8 := Aside0.mk (show Mk w w8 P by rw [hw]; exact Mk.set M.out HP.out hx (.inr (.inl ⟨_, _, _, rfl, rfl⟩))); clear hw))
   go_roundg (l.length - (x.toNat + 1))
   case measure => have := HG.out; have := HL.out; omega
   case rel =>
    have hw1 : wrap64 (a + x + 1) = a + (x + 1) := by rw [w64m (by have := HL.out; omega) (by have := HL.out; omega)]; omega
    have hw2 : wrap64 (x + 1) = x + 1 := w64m (by have := HL.out; omega) (by have := HL.out; omega)
    exact ⟨x + 1, by first | rw [hw1] | simp [hw1], by first | rw [hw2] | simp [hw2], by omega, by have := HL.out; omega, by have := HL.out; omega, ⟨M8.out⟩⟩
  have c1 : decide (x < (l.length : Int)) = false := decide_eq_false hlt
  have hx : x = (l.length : Int) := by omega
  clear hlt hg
  subst hx
  go_wp2
  go_ret
  exact ⟨rfl, M.out⟩
theorem laws_markTree.S_sum_take (f : S30 → Nat) : ∀ (l : List S30) (n : Nat), ((l.take n).map f).sum ≤ (l.map f).sum
 | [], n => by simp
 | x :: xs, 0 => by simp
 | x :: xs, n + 1 => by
  have := laws_markTree.S_sum_take f xs n
  simp only [List.take_succ_cons, List.map_cons, List.sum_cons]
  omega
theorem laws_markTree.S_sum_step (f : S30 → Nat) (l : List S30) (n : Nat) (h : n < l.length) : ((l.take (n + 1)).map f).sum = ((l.take n).map f).sum + f l[n] := by
 rw [List.take_succ_eq_append_getElem h, List.map_append, List.sum_append]
 simp
set_option maxHeartbeats 16000000 in
set_option maxRecDepth 100000 in
theorem laws_markTree.S_deep (k : Nat) : ∀ (P : Nat → Prop) (base : Nat) (v : Value) (l : List S30) (a : Int) (w : World), Kd.R k30 30 w base P v l → l.all (laws_markTree.S_dp k) = true → 0 ≤ a → a + ((l.map (laws_markTree.S_wt k)).sum : Nat) ≤ 1000000000 →
  Calls Try.prog 74 #[v, .int .i64 a] w fun e w' => e = .returned (.int .i64 (a + ((l.map (laws_markTree.S_wt k)).sum : Nat))) ∧ Mk w w' P := by
 induction k using Nat.strongRecOn with
 | _ k ih =>
 intro P base v l a w hr hd h0 h1
 obtain ⟨A, c, rfl⟩ := Kd.R_slice hr
 have HR := Aside0.mk hr
 have HD := Aside0.mk hd
 have H0 := Aside0.mk h0
 have H1 := Aside0.mk h1
 have IH := Aside0.mk ih
 clear hr hd h0 h1 ih
 go_enter Try.func74, Try.ntmps74
 go_wp2
 go_loopg [1, 5] l.length (fun gg v1 v5 wr => ∃ x A1 : Int, v1 = .int .i64 A1 ∧ v5 = .int .i64 x ∧ 0 ≤ x ∧ x ≤ (l.length : Int) ∧ l.length - x.toNat ≤ gg ∧ Aside0 (A1 = a + (((l.take x.toNat).map (laws_markTree.S_wt k)).sum : Nat)) ∧ Aside0 (Mk w wr P))
 case atStart => exact ⟨0, a, rfl, rfl, by omega, by omega, by omega, ⟨by simp⟩, ⟨Mk.refl w P⟩⟩
 case round =>
  obtain ⟨x, A1, rfl, rfl, hx0, hx1, hg, HA, M⟩ := hrel
  by_cases hlt : x < (l.length : Int)
  ·have hn : x.toNat < l.length := by omega
   have hdx : laws_markTree.S_dp k l[x.toNat] = true := (List.all_eq_true.1 HD.out) _ (List.getElem_mem hn)
   obtain ⟨k, rfl⟩ : ∃ j, k = j + 1 := by
    cases k with
    | zero => simp [laws_markTree.S_dp] at hdx
    | succ j => exact ⟨j, rfl⟩
   obtain ⟨l', hl', hs', hr'⟩ := Mk.R (s := laws_markTree.S_Eqv) M.out (fun _ h => h) HR.out (fun y hy ok' hok' d d' hm' hsm' => laws_markTree.S_shape (k + 1) y ((List.all_eq_true.1 HD.out) y hy) w wr P ok' base d d' M.out hok' hm' hsm')
   have hn' : x.toNat < l'.length := by omega
   have hE := hs' x.toNat _ _ (List.getElem?_eq_getElem hn) (List.getElem?_eq_getElem hn')
   have c1 : decide (x < (l.length : Int)) = true := decide_eq_true hlt
   obtain ⟨g, cap, e, hb, hgl, cells, hcell⟩ := Kd.R_form hr' (by omega)
   injection e with ea en ec
   subst ea
   obtain ⟨ce, hcl, hM, hcc, hfr⟩ := Kd.R_elem hr' z30 x hx0 (by omega)
   rw [List.getD_eq_getElem?_getD, List.getElem?_eq_getElem hn', Option.getD_some] at hM
   generalize l'[x.toNat] = y at hE hM
   obtain ⟨v0, v3, rfl, hr0, hr3⟩ := k30_openM hM
   obtain ⟨A0, c0, rfl⟩ := Kd.R_slice hr0
   obtain ⟨A3, c3, rfl⟩ := Kd.R_slice hr3
   have hx_0 : wr.cell? ⟨g, x.toNat * 4, none⟩ = some (.slice A0 y.f0.length c0) := hcc 0 _ rfl
   have hx_1 : wr.cell? ⟨g, x.toNat * 4 + 1, none⟩ = some (.bool y.f1) := hcc 1 _ rfl
   have hx_2 : wr.cell? ⟨g, x.toNat * 4 + 2, none⟩ = some (.int .i64 y.f2) := hcc 2 _ rfl
   have hx_3 : wr.cell? ⟨g, x.toNat * 4 + 3, none⟩ = some (.slice A3 y.f3.length c3) := hcc 3 _ rfl
   have hf_1 : wr.frozen? ⟨g, x.toNat * 4 + 1, none⟩ = false := hfr 1
   have hf_2 : wr.frozen? ⟨g, x.toNat * 4 + 2, none⟩ = false := hfr 2
   have HP := Aside0.mk (hr'.1 g rfl)
   have h4 := Aside0.mk (laws_markTree.S_sum_take (laws_markTree.S_wt (k + 1)) l (x.toNat + 1))
   have h5 := Aside0.mk (laws_markTree.S_sum_step (laws_markTree.S_wt (k + 1)) l x.toNat hn)
   have h6 : laws_markTree.S_wt (k + 1) l[x.toNat] = y.f0.length + 2 + (y.f3.map (laws_markTree.S_wt k)).sum := by rw [(hE.2 (k + 1)).1]; rfl
   have h7 : y.f3.all (laws_markTree.S_dp k) = true := by have := (hE.2 (k + 1)).2; rw [hdx] at this; exact this.symm
   have hsum : A1 + (y.f0.length + 2 + (y.f3.map (laws_markTree.S_wt k)).sum : Nat) = a + (((l.take (x.toNat + 1)).map (laws_markTree.S_wt (k + 1))).sum : Nat) := by rw [HA.out, h5.out, h6]; omega
   have hle : A1 + (y.f0.length + 2 + (y.f3.map (laws_markTree.S_wt k)).sum : Nat) ≤ 1000000000 := by rw [hsum]; have := h4.out; have := H1.out; omega
   have hle' : A1 + (y.f0.length : Int) + 2 ≤ 1000000000 := by omega
   have hA0 : 0 ≤ A1 := by rw [HA.out]; have := H0.out; omega
   have hw1 : wrap64 (A1 + (y.f0.length : Int) + 1) = A1 + (y.f0.length : Int) + 1 := w64m (by clear hsum hle; omega) (by clear hsum hle; omega)
   have hw2 : wrap64 (A1 + (y.f0.length : Int) + 1 + 1) = A1 + (y.f0.length : Int) + 1 + 1 := w64m (by clear hsum hle hw1; omega) (by clear hsum hle hw1; omega)
   have hw3 : wrap64 (x + 1) = x + 1 := w64m (by clear hsum hle hw1 hw2; omega) (by have := (Kd.R_reads' HR.out).2.2.2.1; clear hsum hle hw1 hw2; omega)
   have HL := Aside0.mk hlt
   have HG := Aside0.mk hg
   have HR0 := Aside0.mk hr0
   have HR3 := Aside0.mk hr3
   have HLE := Aside0.mk hle
   have HA0 := Aside0.mk hA0
   have HSUM := Aside0.mk hsum
   have H7 := Aside0.mk h7
   have CALL := Aside0.mk (show ∀ w10, Mk wr w10 P → Calls Try.prog 74 #[.slice A3 y.f3.length c3, .int .i64 (A1 + (y.f0.length : Int) + 1 + 1)] w10 (fun e w' => e = .returned (.int .i64 (A1 + (y.f0.length : Int) + 1 + 1 + ((y.f3.map (laws_markTree.S_wt k)).sum : Nat))) ∧ Mk w10 w' P) from by
    intro w10 m10
    obtain ⟨f3, hl3, hs3, hr3'⟩ := Mk.R (s := laws_markTree.S_Eqv) m10 (fun _ (h : P _ ∧ _ ≠ g) => h.1) HR3.out (fun z hz ok' hok' d d' hm' hsm' => laws_markTree.S_shape k z ((List.all_eq_true.1 H7.out) z hz) wr w10 P ok' base d d' m10 hok' hm' hsm')
    have e1 := laws_markTree.S_map_eq (laws_markTree.S_wt k) hl3 (fun j z z' h h' => ((hs3 j z z' h h').2 k).1)
    have e2 := laws_markTree.S_all_eq (laws_markTree.S_dp k) hl3 (fun j z z' h h' => ((hs3 j z z' h h').2 k).2)
    rw [e1]
    refine (IH.out k (by omega) (fun b => P b ∧ b ≠ g) base _ f3 _ w10 hr3' (e2.symm.trans H7.out) (by have := HA0.out; omega) (by rw [← e1]; have := HLE.out; omega)).mono ?_
    rintro e w' ⟨rfl, m'⟩
    exact ⟨rfl, m'.mono (fun _ h => h.1)⟩)
   have SETS := Aside0.mk (show ∀ w8, Mk wr w8 P → ∀ (b : Bool) (q : Int), Mk wr ((w8.setCell ⟨g, x.toNat * 4 + 1, none⟩ (.bool b)).setCell ⟨g, x.toNat * 4 + 2, none⟩ (.int .i64 q)) P from by
    intro w8 m8 b q
    obtain ⟨u1, hy_1, s1⟩ := m8.cell hx_1
    obtain ⟨b1, rfl⟩ := s1.bool
    have m9 := Mk.set m8 HP.out hy_1 (u' := .bool b) (.inr (.inr ⟨_, _, rfl, rfl⟩))
    obtain ⟨u2, hy_2, s2⟩ := m9.cell hx_2
    obtain ⟨i2, rfl⟩ := s2.int
    exact Mk.set m9 HP.out hy_2 (.inr (.inl ⟨_, _, _, rfl, rfl⟩)))
   clear hle' hr' hcell hgl hb en ec hl' hn' hx1 hE hlt hg hr0 hr3 hle hA0 hsum h6 h7 hdx hs' hM hcc hfr hcl h4 h5 hn
   have p5 : (0 ≤ x) = True := eq_true hx0
   have q5 : (x < (l.length : Int)) = True := eq_true HL.out
   go_wp2_with (first
    | ((with_reducible refine gate_callee (f := 34) rfl ?_); refine gl_ (some 18) Try.func34 #[.slice A0 y.f0.length c0, .int .i64 A1] (h := ?_); refine (laws_markTree.S_flat P base _ y.f0 A1 wr (Kd.R_mono HR0.out (fun _ h => h.1)) HA0.out (by have := HLE.out; omega)).mono ?_; rintro e w8 ⟨rfl, m8⟩; refine ⟨_, rfl, ?_⟩; have M8 := Aside0.mk m8; obtain ⟨u1, hy_1, s1⟩ := m8.cell hx_1; obtain ⟨b1, rfl⟩ := s1.bool; obtain ⟨u2, hy_2, s2⟩ := m8.cell hx_2; obtain ⟨i2, rfl⟩ := s2.int; obtain ⟨u3, hy_3, s3⟩ := m8.cell hx_3; obtain rfl := s3.slice; have hz_1 := m8.frz hx_1 hf_1; have hz_2 := m8.frz hx_2 hf_2; clear m8)
    | (go_at_call 74; refine (CALL.out _ (SETS.out w8 M8.out _ _)).mono ?_; rintro e w11 ⟨rfl, m11⟩; have M11 := Aside0.mk (M.out.trans ((SETS.out w8 M8.out _ _).trans m11)); clear m11))
   go_roundg (l.length - (x.toNat + 1))
   case measure => have := HG.out; have := HL.out; omega
   case rel => exact ⟨x + 1, _, rfl, by first | rw [hw3] | simp [hw3], by omega, by have := HL.out; omega, by have := HL.out; omega, ⟨by have := HSUM.out; rw [show (x + 1).toNat = x.toNat + 1 by omega]; omega⟩, ⟨M11.out⟩⟩
  have c1 : decide (x < (l.length : Int)) = false := decide_eq_false hlt
  have hA : A1 = a + ((l.map (laws_markTree.S_wt k)).sum : Nat) := by rw [HA.out, List.take_of_length_le (by omega)]
  clear hlt hg
  subst hA
  go_wp2
  go_ret
  exact ⟨rfl, M.out⟩
def laws_markTree.f (k : Nat) (l0 : List Int) (a1 : Bool) (a2 : Int) (l3 : List S30) (a4 : Int) : Option Int :=
 if l3.all (laws_markTree.S_dp k) = true ∧ 0 ≤ a4 ∧ a4 + l0.length + ((l3.map (laws_markTree.S_wt k)).sum : Nat) ≤ 1000000000 then some (a4 + l0.length + ((l3.map (laws_markTree.S_wt k)).sum : Nat)) else none
set_option maxHeartbeats 16000000 in
set_option maxRecDepth 100000 in
theorem laws_markTree.calls (k : Nat) (P0_ : Nat → Prop) (u0 : Value) (l0 : List Int) (a1 : Bool) (a2 : Int) (P3_ : Nat → Prop) (u3 : Value) (l3 : List S30) (a4 : Int) (r : Int) (w0 w : World) (hB : Below w0.heap.size w0 w) (ho0 : Kd.R (Kd.int .u8) 5 w w0.heap.size P0_ u0 l0) (ho3 : Kd.R k30 30 w w0.heap.size P3_ u3 l3) (h : laws_markTree.f k l0 a1 a2 l3 a4 = some r) :
  Calls Try.prog 33 #[.agg #[u0, .bool a1, .int .i64 a2, u3], .int .i64 a4] w fun e w' => e = .returned (.int .i64 r) ∧ Below w0.heap.size w0 w' ∧ Kept w w' (fun k_ => P0_ k_ ∨ P3_ k_) := by
 have hu := Try.underlying30
 unfold laws_markTree.f at h
 split at h
 case isFalse => cases h
 case isTrue hh =>
 obtain rfl := Option.some.inj h
 clear h
 obtain ⟨hd, h0, h1⟩ := hh
 obtain ⟨A0, c0, rfl⟩ := Kd.R_slice ho0
 obtain ⟨A3, c3, rfl⟩ := Kd.R_slice ho3
 have HO0 := Aside0.mk (Kd.R_mono (ok' := fun b => P0_ b ∧ w0.heap.size ≤ b ∧ b < w.heap.size) (Kd.R_bound ho0) (fun _ h => ⟨h.1, h.2.1, h.2.2.1⟩))
 have HO3 := Aside0.mk (Kd.R_mono (ok' := fun b => P3_ b ∧ w0.heap.size ≤ b ∧ b < w.heap.size) (Kd.R_bound ho3) (fun _ h => ⟨h.1, h.2.1, h.2.2.1⟩))
 have HBB := Aside0.mk hB
 have HD := Aside0.mk hd
 have H0 := Aside0.mk h0
 have H1 := Aside0.mk h1
 clear ho0 ho3 hB hd h0 h1
 have CALL := Aside0.mk (show ∀ w1 w2, Below w.heap.size w w1 → Mk w1 w2 (fun b => P0_ b ∧ w0.heap.size ≤ b ∧ b < w.heap.size) → Calls Try.prog 74 #[.slice A3 l3.length c3, .int .i64 (a4 + (l0.length : Int))] w2 (fun e w' => e = .returned (.int .i64 (a4 + l0.length + ((l3.map (laws_markTree.S_wt k)).sum : Nat))) ∧ Below w0.heap.size w0 w' ∧ Kept w w' (fun k_ => P0_ k_ ∨ P3_ k_)) from by
  intro w1 w2 hb m
  have m' : Mk w1 w2 (fun b => (P0_ b ∨ P3_ b) ∧ w0.heap.size ≤ b ∧ b < w.heap.size) := m.mono (fun b h => ⟨.inl h.1, h.2⟩)
  obtain ⟨l', hl, hs, hr⟩ := Mk.R (s := laws_markTree.S_Eqv) m' (fun _ (h : P3_ _ ∧ _) => ⟨.inr h.1, h.2⟩) (Kd.R_below HO3.out hb) (fun z hz ok' hok' d d' hm' hsm' => laws_markTree.S_shape k z ((List.all_eq_true.1 HD.out) z hz) w1 w2 _ ok' _ d d' m' hok' hm' hsm')
  have e1 := laws_markTree.S_map_eq (laws_markTree.S_wt k) hl (fun j z z' h h' => ((hs j z z' h h').2 k).1)
  have e2 := laws_markTree.S_all_eq (laws_markTree.S_dp k) hl (fun j z z' h h' => ((hs j z z' h h').2 k).2)
  have h1 := H1.out
  rw [e1] at h1 ⊢
  refine (laws_markTree.S_deep k (fun b => P3_ b ∧ w0.heap.size ≤ b ∧ b < w.heap.size) _ _ l' _ w2 hr (e2.symm.trans HD.out) (by have := H0.out; omega) h1).mono ?_
  rintro e w' ⟨rfl, m3⟩
  have mm := Mk.newer hb (m'.trans (m3.mono (P' := fun b => (P0_ b ∨ P3_ b) ∧ w0.heap.size ≤ b ∧ b < w.heap.size) (fun b h => ⟨.inr h.1, h.2⟩))) (fun _ h => h.2.2)
  exact ⟨rfl, mm.below HBB.out (fun _ h => h.2.1), mm.kept.mono (fun _ h => h.1)⟩)
 go_enter Try.func33, Try.ntmps33
 go_wp2_with (first
  | ((with_reducible refine gate_dst (N := 2) rfl ?_); refine bx_ 2 #[.slice A0 l0.length c0, .bool a1, .int .i64 a2, .slice A3 l3.length c3] 30 (h := ?_); intro gb1 hg w1 hbox hb; have BK1 := Aside0.mk (hbox); have HG1 := Aside0.mk hg; have HB1 := Aside0.mk hb; clear hb hbox hg; have C1_0 : w1.cell? ⟨gb1, 0, none⟩ = some (.slice A0 l0.length c0) := (blk_cell BK1.out 0).trans rfl)
  | ((with_reducible refine gate_callee (f := 34) rfl ?_); refine gl_ (some 8) Try.func34 #[.slice A0 l0.length c0, .int .i64 a4] (h := ?_); refine (laws_markTree.S_flat _ _ _ l0 a4 w1 (Kd.R_below HO0.out HB1.out) H0.out (by have := H1.out; omega)).mono ?_; rintro e w2 ⟨rfl, m2⟩; refine ⟨_, rfl, ?_⟩; have M2 := Aside0.mk m2; have BK2 := Aside0.mk (blk_kept BK1.out m2.kept (fun h => by have := h.2.2; have := HG1.out; omega)); clear m2; have C2_3 : w2.cell? ⟨gb1, 3, none⟩ = some (.slice A3 l3.length c3) := (blk_cell BK2.out 3).trans rfl)
  | ((with_reducible refine gate_callee (f := 74) rfl ?_); refine gl_ (some 12) Try.func74 #[.slice A3 l3.length c3, .int .i64 (a4 + (l0.length : Int))] (h := ?_); refine (CALL.out w1 w2 HB1.out M2.out).mono ?_; rintro e w3 ⟨rfl, hb3, hk3⟩; refine ⟨_, rfl, ?_⟩; have HB3 := Aside0.mk hb3; have HK3 := Aside0.mk hk3; clear hb3 hk3))
 go_ret
 exact ⟨rfl, HB3.out, HK3.out⟩

/-! ### laws_markByteS: function 34 -/
def laws_markByteS.l0 : Nat → List Int → Int → Int → Option (Int × List Int)
 | 0, _, _, _ => none
 | k + 1, x0, x1, x5 => if x5 < (x0.length : Int) then (if 0 ≤ x5 then (laws_markByteS.l0 k (x0.set (x5 : Int).toNat ((x1) % 256)) (wrap64 (x1 + 1)) (wrap64 (x5 + 1))) else (none)) else (some (x1, x0))
def laws_markByteS.f (k : Nat) (l0 : List Int) (a1 : Int) : Option (Int × List Int) := laws_markByteS.l0 k l0 a1 0
set_option maxHeartbeats 8000000 in
set_option maxRecDepth 100000 in
theorem laws_markByteS.calls (k : Nat) (P0_ : Nat → Prop) (u9000_ : Value) (l0 : List Int) (a1 : Int) (r1 : Int) (r2 : List Int) (w0 w : World) (hB : Below w0.heap.size w0 w) (ho0 : Kd.R (Kd.int .u8) 5 w w0.heap.size P0_ u9000_ l0) (h : laws_markByteS.f k l0 a1 = some (r1, r2)) :
  Calls Try.prog 34 #[u9000_, .int .i64 a1] w fun e w' => e = .returned (.int .i64 r1) ∧ Kd.R (Kd.int .u8) 5 w' w0.heap.size (fun k_ => (P0_ k_ ∨ w.heap.size ≤ k_)) u9000_ r2 ∧ Below w0.heap.size w0 w' ∧ Kept w w' (fun k_ => P0_ k_) := by
 have HO0 := Aside0.mk (show Kd.R (Kd.int .u8) 5 w w0.heap.size (fun k_ => (P0_ k_ ∨ w.heap.size ≤ k_)) u9000_ l0 from Kd.R_mono ho0 (fun k_ hk => (.inl hk)))
 have HK := Aside0.mk (Kept.refl w (fun k_ => P0_ k_))
 have HW0 := Aside0.mk hB.size
 have HB := Aside0.mk hB
 clear hB
 have H : (laws_markByteS.l0 k l0 a1 0) = some (r1, r2) := h
 clear h
 have H' := Aside0.mk H
 clear H
 go_enter Try.func34, Try.ntmps34
 go_wp2
 go_loopg [1, 5] k (fun kq v1 v5 w' => ∃ (x0_1 : List Int) (x1_1 : Int) (x5_1 : Int), v1 = .int .i64 x1_1 ∧ v5 = .int .i64 x5_1 ∧ Aside0 (laws_markByteS.l0 kq x0_1 x1_1 x5_1 = some (r1, r2)) ∧ Aside0 (kq ≤ k) ∧ Aside0 (Kd.R (Kd.int .u8) 5 w' w0.heap.size (fun k_ => (P0_ k_ ∨ w.heap.size ≤ k_)) u9000_ x0_1) ∧ Aside0 (Kept w w' (fun k_ => P0_ k_)) ∧ Aside0 (Below w0.heap.size w0 w'))
 case atStart => exact ⟨(l0), (a1), (0), rs_, rs_, H', ⟨Nat.le_refl _⟩, ⟨rkp HO0⟩, ⟨by repeat (first | (with_reducible first | exact HK.out | apply Kept.alloc | apply Kept.drewN | apply Kept.drew) | exact HK.out)⟩, ⟨bel⟩⟩
 case round =>
  clear H'
  try clear p2
  obtain ⟨x0_1, x1_1, x5_1, rfl, rfl, HA, HK1, HO_0, HK, HB⟩ := hrel
  cases gk with
  | zero => exact absurd HA.out (by simp [laws_markByteS.l0])
  | succ k1 =>
   have H := HA.out
   clear HA
   simp only [laws_markByteS.l0] at H
   by_cases c3 : x5_1 < (x0_1.length : Int)
   ·rw [if_pos c3] at H
    have c3b0 : decide (x5_1 < (x0_1.length : Int)) = true := decide_eq_true c3
    clear c3
    by_cases c4 : 0 ≤ x5_1
    ·rw [if_pos c4] at H
     have c4b0 : decide (0 ≤ x5_1) = true := decide_eq_true c4
     clear c4
     obtain ⟨y188, hy188⟩ : ∃ y_ : List Int, y_ = (x0_1.set (x5_1 : Int).toNat ((x1_1) % 256)) := ⟨_, rfl⟩
     replace H : (laws_markByteS.l0 k1 y188 (wrap64 (x1_1 + 1)) (wrap64 (x5_1 + 1))) = some (r1, r2) := by first | (rw [hy188]; with_reducible exact H) | (have H2_ := (Option.bind_some _ _).symm.trans H; rw [hy188]; with_reducible exact H2_) | (have H2_ := (Option.bind_some _ _).symm.trans H; with_reducible exact H2_) | with_reducible exact H | (rw [hy188]; exact H) | exact H
     have Ny188 := Aside0.mk hy188
     clear hy188
     have H' := Aside0.mk H
     clear H
     obtain ⟨Ao6, co6, eo6⟩ := Kd.R_slice HO_0.out
     subst eo6
     have p5 : 0 ≤ (x5_1 : Int) := od
     have q5 : (x5_1 : Int) < ((x0_1.length : Int) : Int) := od
     obtain ⟨go5, co5, eo5, gb5, gl5, cl5, HG5⟩ := Kd.R_form HO_0.out (by omega)
     (first | cases eo5 | (injection eo5 with ea_ en_ ec_; (first | subst ea_ | (injection ea_ with ea_; subst ea_)); subst ec_; clear en_))
     have GB5 := Aside0.mk gb5
     have GG5 := Aside0.mk HG5
     clear gb5 gl5 HG5
     have HMgo5 := Aside0.mk (show (P0_ go5 ∨ w.heap.size ≤ go5) from (HO_0.out.1 _ rfl))
     obtain ⟨hx5_0, hf5_0⟩ := Kd.R_celln 0 HO_0.out (x5_1 : Int) p5 q5
     replace p5 := eq_true p5
     replace q5 := eq_true q5
     have HP7 := Kd.R_putg HO_0.out (x5_1 : Int) ((x1_1) % 256)
     go_wp2_with (first | ((with_reducible refine gate_store (t := 5) (p := 16) rfl ?_); refine store_event (t := 5) (p := 16) (v := ?vo_w8) (w1 := (wr.setCell ⟨go5, (x5_1 : Int).toNat, none⟩ (.int .u8 ((x1_1) % 256)))) ?hg ?ho ?hn ?hr ?_; (case ho => rfl); (case hg => rfl); (case hn => rfl); (case hr => first | (go_simp; done) | (go_simp; rfl)); intro w8 hw; have hg : wr.grownBy w8 (some go5) := (by rw [hw]; exact HP7.2); have hp_ : Kd.R (Kd.int .u8) 5 w8 w0.heap.size (fun k_ => (P0_ k_ ∨ w.heap.size ≤ k_)) (.slice (some ⟨go5, 0, none⟩) x0_1.length co6) y188 := (by rw [hw, Ny188.out]; exact HP7.1); clear HP7; replace HB := Aside0.mk ((by rw [hw]; exact below_set (HB.out) GB5.out : Below w0.heap.size w0 w8)); replace HK := Aside0.mk (Kept.of_grown (S := (fun k_ => P0_ k_)) hg (by repeat (first | (with_reducible first | exact HK.out | apply Kept.alloc | apply Kept.drewN | apply Kept.drew) | exact HK.out)) (fun k_ e_ => (HO_0.out.1 k_ e_))); replace HO_0 := Aside0.mk (hp_); clear hg hw hp_))
     go_roundg k1
     case measure => have := HK1.out; omega
     case rel => exact ⟨(y188), (wrap64 (x1_1 + 1)), (wrap64 (x5_1 + 1)), rs_, rs_, H', ⟨by have := HK1.out; omega⟩, ⟨rkp HO_0⟩, ⟨by repeat (first | (with_reducible first | exact HK.out | apply Kept.alloc | apply Kept.drewN | apply Kept.drew) | exact HK.out)⟩, ⟨bel⟩⟩
    rw [if_neg c4] at H
    exact absurd H (by simp)
   rw [if_neg c3] at H
   have c3b0 : decide (x5_1 < (x0_1.length : Int)) = false := decide_eq_false c3
   clear c3
   simp only [Option.some.injEq, Prod.mk.injEq] at H
   obtain ⟨rfl, rfl⟩ := H
   obtain ⟨Ao9, co9, eo9⟩ := Kd.R_slice HO_0.out
   subst eo9
   go_wp2
   go_ret
   exact ⟨rz_, by (with_reducible repeat (first | apply Kd.R_alloc | apply Kd.R_drewN | apply Kd.R_drew)); exact HO_0.out, by repeat (first | (with_reducible first | exact HB.out | apply below_alloc | apply pw_below_drewN | apply below_drew1) | exact HB.out), by repeat (first | (with_reducible first | exact HK.out | apply Kept.alloc | apply Kept.drewN | apply Kept.drew) | exact HK.out)⟩

end Go.Proofs.Ytoaddpfoecggpaa.PS
