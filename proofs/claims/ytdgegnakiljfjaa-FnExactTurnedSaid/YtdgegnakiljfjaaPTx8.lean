-- Written for this claim by the session's program pp.py, out of the kit's print and the seat's translation.
import Derived.Test.YtdgegnakiljfjaaPTx0
namespace Go.Proofs.Ytdgegnakiljfjaa.PT
open Go.RowKit Go.Proofs.YtdgegnakiljfjaaW.PrintWords Go.Proofs.YtdgegnakiljfjaaW.PrintLast Go.Proofs.YtdgegnakiljfjaaW.PrintMore
attribute [local go_sem] max2_int min2_int max_two min_two max_three min_three max_four min_four   -- for this text's walks alone
set_option linter.unusedVariables false
set_option linter.unusedSimpArgs false

/-! ### laws_markState: function 57 -/
set_option maxHeartbeats 8000000 in
set_option maxRecDepth 100000 in
theorem laws_markState.S_flat (P : Nat → Prop) (base : Nat) (v : Value) (l : List Int) (a : Int) (w : World) (hr : Kd.R (Kd.int .u8) 5 w base P v l) (h0 : 0 ≤ a) (h1 : a + l.length ≤ 1000000000) :
  Calls Try.prog 38 #[v, .int .i64 a] w fun e w' => e = .returned (.int .i64 (a + l.length)) ∧ Mk w w' P := by
 obtain ⟨A, c, rfl⟩ := Kd.R_slice hr
 have HR := Aside0.mk hr
 clear hr
 go_enter Try.func38, Try.ntmps38
 go_wp2
 go_loopg [1, 5] l.length (fun gg v1 v5 wr => ∃ x : Int, v1 = .int .i64 (a + x) ∧ v5 = .int .i64 x ∧ 0 ≤ x ∧ x ≤ (l.length : Int) ∧ l.length - x.toNat ≤ gg ∧ Aside0 (Mk w wr P))
 case atStart => exact ⟨0, by rw [Int.add_zero], rfl, by omega, by omega, by omega, ⟨Mk.refl w P⟩⟩
 case round =>
  obtain ⟨x, rfl, rfl, hx0, hx1, hg, M⟩ := hrel
  by_cases hlt : x < (l.length : Int)
  ·obtain ⟨l', hl', hr'⟩ := Mk.R_int M.out (fun _ h => h) HR.out
   have hlt' : x < (l'.length : Int) := by omega
   have c1 : decide (x < (l.length : Int)) = true := decide_eq_true hlt
   have HL := Aside0.mk hlt
   have HLL := Aside0.mk hl'
   have HG := Aside0.mk hg
   clear hlt hg
   obtain ⟨g, cap, e, hb, hgl, cells, hcell⟩ := Kd.R_form hr' (by omega)
   injection e with ea en ec
   subst ea
   obtain ⟨hx, hf⟩ := Kd.R_celln 0 hr' x hx0 (by omega)
   have HP := Aside0.mk (hr'.1 g rfl)
   have HR' := Aside0.mk hr'
   clear hr' hcell hgl hb en ec hl' hlt' hx1
   have p5 : (0 ≤ x) = True := eq_true hx0
   have q5 : (x < (l.length : Int)) = True := eq_true HL.out
   go_wp2_with (first | ((with_reducible refine gate_store (t := 5) (p := 16) rfl ?_); refine store_event (t := 5) (p := 16) (v := ?vo_w8) (w1 := (wr.setCell ⟨g, x.toNat, none⟩ (.int .u8 ((a + x) % 256)))) ?hg ?ho ?hn ?hr ?_; (case ho => rfl); (case hg => rfl); (case hn => rfl); (case hr => first | (go_simp; done) | (go_simp; rfl)); intro w8 hw; have M8 := Aside0.mk (show Mk w w8 P by rw [hw]; exact Mk.set M.out HP.out hx (.inr (.inl ⟨_, _, _, rfl, rfl⟩))); clear hw))
   go_roundg (l.length - (x.toNat + 1))
   case measure => have := HG.out; have := HL.out; omega
   case rel =>
    have hw1 : wrap64 (a + x + 1) = a + (x + 1) := by rw [w64m (by have := HL.out; omega) (by have := HL.out; omega)]; omega
    have hw2 : wrap64 (x + 1) = x + 1 := w64m (by have := HL.out; omega) (by have := HL.out; omega)
    exact ⟨x + 1, by first | rw [hw1] | simp [hw1], by first | rw [hw2] | simp [hw2], by omega, by have := HL.out; omega, by have := HL.out; omega, ⟨M8.out⟩⟩
  have c1 : decide (x < (l.length : Int)) = false := decide_eq_false hlt
  have hx : x = (l.length : Int) := by omega
  clear hlt hg
  subst hx
  go_wp2
  go_ret
  exact ⟨rfl, M.out⟩
def laws_markState.SRow_wt (x : S92) : Nat := x.f0.length + x.f1.length + 2
def laws_markState.SRow_Eqv (x y : S92) : Prop := x.f0.length = y.f0.length ∧ x.f1.length = y.f1.length
theorem laws_markState.SRow_shape (x : S92) (w W : World) (P ok : Nat → Prop) (base : Nat) (cs cs' : List Value) (M : Mk w W P) (hok : ∀ b, ok b → P b) (hm : k92.M w base ok x cs) (hsm : Sm cs cs') : ∃ x', laws_markState.SRow_Eqv x x' ∧ k92.M W base ok x' cs' := by
 obtain ⟨hl, he⟩ := hsm
 obtain ⟨v0, v1, rfl, h0, h1⟩ := k92_openM hm
 obtain ⟨A0, c0, rfl⟩ := Kd.R_slice h0
 obtain ⟨A1, c1, rfl⟩ := Kd.R_slice h1
 obtain ⟨u0, hu0, q0⟩ := he 0 _ rfl
 obtain ⟨u1, hu1, q1⟩ := he 1 _ rfl
 obtain ⟨u2, hu2, q2⟩ := he 2 _ rfl
 obtain ⟨u3, hu3, q3⟩ := he 3 _ rfl
 obtain rfl := q0.slice
 obtain rfl := q1.slice
 obtain ⟨i2, rfl⟩ := q2.int
 obtain ⟨i3, rfl⟩ := q3.int
 have hcs : cs' = [.slice A0 x.f0.length c0, .slice A1 x.f1.length c1, .int .i64 i2, .int .i64 i3] := by
  match cs', hl, hu0, hu1, hu2, hu3 with
  | [y0, y1, y2, y3], _, a0, a1, a2, a3 => simp at a0 a1 a2 a3; rw [a0, a1, a2, a3]
 subst hcs
 obtain ⟨f0, l0, g0⟩ := Mk.R_int M hok h0
 obtain ⟨f1, l1, g1⟩ := Mk.R_int M hok h1
 have e := k92_mkM W base ok (⟨f0, f1, i2, i3⟩ : S92) (v0 := .slice A0 x.f0.length c0) g0 (v1 := .slice A1 x.f1.length c1) g1
 exact ⟨⟨f0, f1, i2, i3⟩, ⟨l0.symm, l1.symm⟩, e⟩
set_option maxHeartbeats 16000000 in
set_option maxRecDepth 100000 in
theorem laws_markState.SRow_deep (P : Nat → Prop) (base : Nat) (v : Value) (l : List S92) (a : Int) (w : World) (hr : Kd.R k92 92 w base P v l) (h0 : 0 ≤ a) (h1 : a + ((l.map laws_markState.SRow_wt).sum : Nat) ≤ 1000000000) :
  Calls Try.prog 136 #[v, .int .i64 a] w fun e w' => e = .returned (.int .i64 (a + ((l.map laws_markState.SRow_wt).sum : Nat))) ∧ Mk w w' P := by
 obtain ⟨A, c, rfl⟩ := Kd.R_slice hr
 have HR := Aside0.mk hr
 have H0 := Aside0.mk h0
 have H1 := Aside0.mk h1
 clear hr h0 h1
 have hu := Try.underlying92
 go_enter Try.func136, Try.ntmps136
 go_wp2
 go_loopg [1, 5] l.length (fun gg v1 v5 wr => ∃ x N1 : Int, v1 = .int .i64 N1 ∧ v5 = .int .i64 x ∧ 0 ≤ x ∧ x ≤ (l.length : Int) ∧ l.length - x.toNat ≤ gg ∧ Aside0 (N1 = a + (((l.take x.toNat).map laws_markState.SRow_wt).sum : Nat)) ∧ Aside0 (Mk w wr P))
 case atStart => exact ⟨0, a, rfl, rfl, by omega, by omega, by omega, ⟨by simp⟩, ⟨Mk.refl w P⟩⟩
 case round =>
  obtain ⟨x, N1, rfl, rfl, hx0, hx1, hg, HA, M⟩ := hrel
  by_cases hlt : x < (l.length : Int)
  ·have hn : x.toNat < l.length := by omega
   obtain ⟨l', hl', hs', hr'⟩ := Mk.R (s := laws_markState.SRow_Eqv) M.out (fun _ h => h) HR.out (fun y hy ok' hok' d d' hm' hsm' => laws_markState.SRow_shape y w wr P ok' base d d' M.out hok' hm' hsm')
   have hn' : x.toNat < l'.length := by omega
   have hE := hs' x.toNat _ _ (List.getElem?_eq_getElem hn) (List.getElem?_eq_getElem hn')
   have c1 : decide (x < (l.length : Int)) = true := decide_eq_true hlt
   obtain ⟨g, cap, e, hb, hgl, cells, hcell⟩ := Kd.R_form hr' (by omega)
   injection e with ea en ec
   subst ea
   obtain ⟨ce, hcl, hM, hcc, hfr⟩ := Kd.R_elem hr' z92 x hx0 (by omega)
   rw [List.getD_eq_getElem?_getD, List.getElem?_eq_getElem hn', Option.getD_some] at hM
   generalize l'[x.toNat] = y at hE hM
   obtain ⟨v0, v1, rfl, hr0, hr1⟩ := k92_openM hM
   obtain ⟨A0, c0, rfl⟩ := Kd.R_slice hr0
   obtain ⟨A1, c1, rfl⟩ := Kd.R_slice hr1
   have hx_0 : wr.cell? ⟨g, x.toNat * 4, none⟩ = some (.slice A0 y.f0.length c0) := hcc 0 _ rfl
   have hx_1 : wr.cell? ⟨g, x.toNat * 4 + 1, none⟩ = some (.slice A1 y.f1.length c1) := hcc 1 _ rfl
   have hx_2 : wr.cell? ⟨g, x.toNat * 4 + 2, none⟩ = some (.int .i64 y.f2) := hcc 2 _ rfl
   have hx_3 : wr.cell? ⟨g, x.toNat * 4 + 3, none⟩ = some (.int .i64 y.f3) := hcc 3 _ rfl
   have hf_2 : wr.frozen? ⟨g, x.toNat * 4 + 2, none⟩ = false := hfr 2
   have hf_3 : wr.frozen? ⟨g, x.toNat * 4 + 3, none⟩ = false := hfr 3
   have HP := Aside0.mk (hr'.1 g rfl)
   have h4 := Aside0.mk (mk_sum_take laws_markState.SRow_wt l (x.toNat + 1))
   have h5 := Aside0.mk (mk_sum_step laws_markState.SRow_wt l x.toNat hn)
   have h6 : laws_markState.SRow_wt l[x.toNat] = y.f0.length + y.f1.length + 2 := by
    unfold laws_markState.SRow_wt
    unfold laws_markState.SRow_Eqv at hE
    rw [hE.1, hE.2]
   have hsum : N1 + (y.f0.length + y.f1.length + 2 : Nat) = a + (((l.take (x.toNat + 1)).map laws_markState.SRow_wt).sum : Nat) := by rw [HA.out, h5.out, h6]; omega
   have hle : N1 + (y.f0.length + y.f1.length + 2 : Nat) ≤ 1000000000 := by rw [hsum]; have := h4.out; have := H1.out; omega
   have hA0 : 0 ≤ N1 := by rw [HA.out]; have := H0.out; omega
   have hw0 : wrap64 (N1 + (y.f0.length : Int) + (y.f1.length : Int) + 1) = N1 + (y.f0.length : Int) + (y.f1.length : Int) + 1 := w64m (by clear hsum; omega) (by clear hsum; omega)
   have hw1 : wrap64 (N1 + (y.f0.length : Int) + (y.f1.length : Int) + 1 + 1) = N1 + (y.f0.length : Int) + (y.f1.length : Int) + 1 + 1 := w64m (by clear hsum hw0; omega) (by clear hsum hw0; omega)
   have hwx : wrap64 (x + 1) = x + 1 := w64m (by clear hsum hle hw0 hw1; omega) (by have := (Kd.R_reads' HR.out).2.2.2.1; clear hsum hle hw0 hw1; omega)
   have HL := Aside0.mk hlt
   have HG := Aside0.mk hg
   have HR0 := Aside0.mk hr0
   have HR1 := Aside0.mk hr1
   have HLE := Aside0.mk hle
   have HA0 := Aside0.mk hA0
   have HSUM := Aside0.mk hsum
   have SETS := Aside0.mk (show ∀ w8, Mk wr w8 P → ∀ (b2 : Int) (b3 : Int), Mk wr ((w8.setCell ⟨g, x.toNat * 4 + 2, none⟩ (.int .i64 b2)).setCell ⟨g, x.toNat * 4 + 3, none⟩ (.int .i64 b3)) P from by
    intro w8 m8 b2 b3
    obtain ⟨u2, hy_2, s2⟩ := m8.cell hx_2
    obtain ⟨d2, rfl⟩ := s2.int
    have n0 := Mk.set m8 HP.out hy_2 (u' := .int .i64 b2) (.inr (.inl ⟨_, _, _, rfl, rfl⟩))
    obtain ⟨u3, hy_3, s3⟩ := n0.cell hx_3
    obtain ⟨d3, rfl⟩ := s3.int
    have n1 := Mk.set n0 HP.out hy_3 (u' := .int .i64 b3) (.inr (.inl ⟨_, _, _, rfl, rfl⟩))
    exact n1)
   clear hr' hcell hgl hb en ec hl' hn' hx1 hE hlt hg hr0 hr1 hle hA0 hsum h6 hs' hM hcc hfr hcl h4 h5 hn
   have p5 : (0 ≤ x) = True := eq_true hx0
   have q5 : (x < (l.length : Int)) = True := eq_true HL.out
   go_wp2_with (first | (go_at_call 38; with_reducible refine (laws_markState.S_flat P base _ y.f0 (N1) _ (Kd.R_mono HR0.out (fun _ h => h.1)) HA0.out (by have := HLE.out; omega)).mono ?_; rintro e w80 ⟨rfl, m8⟩; have M80 := Aside0.mk (m8); obtain ⟨u1_0, hy0_1, s1⟩ := M80.out.cell hx_1; obtain rfl := s1.slice; obtain ⟨u2_0, hy0_2, s2⟩ := M80.out.cell hx_2; obtain ⟨i2_0, rfl⟩ := s2.int; obtain ⟨u3_0, hy0_3, s3⟩ := M80.out.cell hx_3; obtain ⟨i3_0, rfl⟩ := s3.int; have hz0_2 := M80.out.frz hx_2 hf_2; have hz0_3 := M80.out.frz hx_3 hf_3; clear m8) | (go_at_call 38; obtain ⟨r1, lr1, gr1⟩ := Mk.R_int M80.out (fun _ (h : P _ ∧ _) => h.1) HR1.out; with_reducible refine (laws_markState.S_flat P base _ r1 (N1 + (y.f0.length : Int)) _ (Kd.R_mono gr1 (fun _ h => h.1)) (by have := HA0.out; omega) (by have := HLE.out; have := lr1; omega)).mono ?_; rw [lr1]; rintro e w81 ⟨rfl, m8⟩; have M81 := Aside0.mk (M80.out.trans m8); obtain ⟨u2_1, hy1_2, s2⟩ := M81.out.cell hx_2; obtain ⟨i2_1, rfl⟩ := s2.int; obtain ⟨u3_1, hy1_3, s3⟩ := M81.out.cell hx_3; obtain ⟨i3_1, rfl⟩ := s3.int; have hz1_2 := M81.out.frz hx_2 hf_2; have hz1_3 := M81.out.frz hx_3 hf_3; clear m8))
   go_roundg (l.length - (x.toNat + 1))
   case measure => have := HG.out; have := HL.out; omega
   case rel => exact ⟨x + 1, _, rfl, by first | rw [hwx] | simp [hwx], by omega, by have := HL.out; omega, by have := HL.out; omega, ⟨by have := HSUM.out; rw [show (x + 1).toNat = x.toNat + 1 by omega]; omega⟩, ⟨M.out.trans (SETS.out _ M81.out _ _)⟩⟩
  have c1 : decide (x < (l.length : Int)) = false := decide_eq_false hlt
  have hA : N1 = a + ((l.map laws_markState.SRow_wt).sum : Nat) := by rw [HA.out, List.take_of_length_le (by omega)]
  clear hlt hg
  subst hA
  go_wp2
  go_ret
  exact ⟨rfl, M.out⟩
theorem laws_markState.SRow_call (P : Nat → Prop) (base : Nat) (v : Value) (l : List S92) (a : Int) (w1 w : World) (m : Mk w1 w P) (hr : Kd.R k92 92 w1 base P v l) (h0 : 0 ≤ a) (h1 : a + ((l.map laws_markState.SRow_wt).sum : Nat) ≤ 1000000000) :
  Calls Try.prog 136 #[v, .int .i64 a] w fun e w' => e = .returned (.int .i64 (a + ((l.map laws_markState.SRow_wt).sum : Nat))) ∧ Mk w1 w' P := by
 obtain ⟨l', hl, hs, hr'⟩ := Mk.R (s := laws_markState.SRow_Eqv) m (fun _ h => h) hr (fun z hz ok' hok' d d' hm' hsm' => laws_markState.SRow_shape z w1 w P ok' base d d' m hok' hm' hsm')
 have e1 : l.map laws_markState.SRow_wt = l'.map laws_markState.SRow_wt := mk_map_eq laws_markState.SRow_wt hl (fun j z z' h h' => by have := hs j z z' h h'; unfold laws_markState.SRow_Eqv at this; unfold laws_markState.SRow_wt; omega)
 rw [e1] at h1 ⊢
 refine (laws_markState.SRow_deep P base v l' a w hr' h0 h1).mono ?_
 rintro e w' ⟨rfl, m'⟩
 exact ⟨rfl, m.trans m'⟩
def laws_markState.STomb_wt (x : S94) : Nat := x.f0.length + 1
def laws_markState.STomb_Eqv (x y : S94) : Prop := x.f0.length = y.f0.length
theorem laws_markState.STomb_shape (x : S94) (w W : World) (P ok : Nat → Prop) (base : Nat) (cs cs' : List Value) (M : Mk w W P) (hok : ∀ b, ok b → P b) (hm : k94.M w base ok x cs) (hsm : Sm cs cs') : ∃ x', laws_markState.STomb_Eqv x x' ∧ k94.M W base ok x' cs' := by
 obtain ⟨hl, he⟩ := hsm
 obtain ⟨v0, rfl, h0⟩ := k94_openM hm
 obtain ⟨A0, c0, rfl⟩ := Kd.R_slice h0
 obtain ⟨u0, hu0, q0⟩ := he 0 _ rfl
 obtain ⟨u1, hu1, q1⟩ := he 1 _ rfl
 obtain rfl := q0.slice
 obtain ⟨i1, rfl⟩ := q1.int
 have hcs : cs' = [.slice A0 x.f0.length c0, .int .i64 i1] := by
  match cs', hl, hu0, hu1 with
  | [y0, y1], _, a0, a1 => simp at a0 a1; rw [a0, a1]
 subst hcs
 obtain ⟨f0, l0, g0⟩ := Mk.R_int M hok h0
 have e := k94_mkM W base ok (⟨f0, i1⟩ : S94) (v0 := .slice A0 x.f0.length c0) g0
 exact ⟨⟨f0, i1⟩, l0.symm, e⟩
set_option maxHeartbeats 16000000 in
set_option maxRecDepth 100000 in
theorem laws_markState.STomb_deep (P : Nat → Prop) (base : Nat) (v : Value) (l : List S94) (a : Int) (w : World) (hr : Kd.R k94 94 w base P v l) (h0 : 0 ≤ a) (h1 : a + ((l.map laws_markState.STomb_wt).sum : Nat) ≤ 1000000000) :
  Calls Try.prog 137 #[v, .int .i64 a] w fun e w' => e = .returned (.int .i64 (a + ((l.map laws_markState.STomb_wt).sum : Nat))) ∧ Mk w w' P := by
 obtain ⟨A, c, rfl⟩ := Kd.R_slice hr
 have HR := Aside0.mk hr
 have H0 := Aside0.mk h0
 have H1 := Aside0.mk h1
 clear hr h0 h1
 have hu := Try.underlying94
 go_enter Try.func137, Try.ntmps137
 go_wp2
 go_loopg [1, 5] l.length (fun gg v1 v5 wr => ∃ x N1 : Int, v1 = .int .i64 N1 ∧ v5 = .int .i64 x ∧ 0 ≤ x ∧ x ≤ (l.length : Int) ∧ l.length - x.toNat ≤ gg ∧ Aside0 (N1 = a + (((l.take x.toNat).map laws_markState.STomb_wt).sum : Nat)) ∧ Aside0 (Mk w wr P))
 case atStart => exact ⟨0, a, rfl, rfl, by omega, by omega, by omega, ⟨by simp⟩, ⟨Mk.refl w P⟩⟩
 case round =>
  obtain ⟨x, N1, rfl, rfl, hx0, hx1, hg, HA, M⟩ := hrel
  by_cases hlt : x < (l.length : Int)
  ·have hn : x.toNat < l.length := by omega
   obtain ⟨l', hl', hs', hr'⟩ := Mk.R (s := laws_markState.STomb_Eqv) M.out (fun _ h => h) HR.out (fun y hy ok' hok' d d' hm' hsm' => laws_markState.STomb_shape y w wr P ok' base d d' M.out hok' hm' hsm')
   have hn' : x.toNat < l'.length := by omega
   have hE := hs' x.toNat _ _ (List.getElem?_eq_getElem hn) (List.getElem?_eq_getElem hn')
   have c1 : decide (x < (l.length : Int)) = true := decide_eq_true hlt
   obtain ⟨g, cap, e, hb, hgl, cells, hcell⟩ := Kd.R_form hr' (by omega)
   injection e with ea en ec
   subst ea
   obtain ⟨ce, hcl, hM, hcc, hfr⟩ := Kd.R_elem hr' z94 x hx0 (by omega)
   rw [List.getD_eq_getElem?_getD, List.getElem?_eq_getElem hn', Option.getD_some] at hM
   generalize l'[x.toNat] = y at hE hM
   obtain ⟨v0, rfl, hr0⟩ := k94_openM hM
   obtain ⟨A0, c0, rfl⟩ := Kd.R_slice hr0
   have hx_0 : wr.cell? ⟨g, x.toNat * 2, none⟩ = some (.slice A0 y.f0.length c0) := hcc 0 _ rfl
   have hx_1 : wr.cell? ⟨g, x.toNat * 2 + 1, none⟩ = some (.int .i64 y.f1) := hcc 1 _ rfl
   have hf_1 : wr.frozen? ⟨g, x.toNat * 2 + 1, none⟩ = false := hfr 1
   have HP := Aside0.mk (hr'.1 g rfl)
   have h4 := Aside0.mk (mk_sum_take laws_markState.STomb_wt l (x.toNat + 1))
   have h5 := Aside0.mk (mk_sum_step laws_markState.STomb_wt l x.toNat hn)
   have h6 : laws_markState.STomb_wt l[x.toNat] = y.f0.length + 1 := by
    unfold laws_markState.STomb_wt
    unfold laws_markState.STomb_Eqv at hE
    rw [hE]
   have hsum : N1 + (y.f0.length + 1 : Nat) = a + (((l.take (x.toNat + 1)).map laws_markState.STomb_wt).sum : Nat) := by rw [HA.out, h5.out, h6]; omega
   have hle : N1 + (y.f0.length + 1 : Nat) ≤ 1000000000 := by rw [hsum]; have := h4.out; have := H1.out; omega
   have hA0 : 0 ≤ N1 := by rw [HA.out]; have := H0.out; omega
   have hw0 : wrap64 (N1 + (y.f0.length : Int) + 1) = N1 + (y.f0.length : Int) + 1 := w64m (by clear hsum; omega) (by clear hsum; omega)
   have hwx : wrap64 (x + 1) = x + 1 := w64m (by clear hsum hle hw0; omega) (by have := (Kd.R_reads' HR.out).2.2.2.1; clear hsum hle hw0; omega)
   have HL := Aside0.mk hlt
   have HG := Aside0.mk hg
   have HR0 := Aside0.mk hr0
   have HLE := Aside0.mk hle
   have HA0 := Aside0.mk hA0
   have HSUM := Aside0.mk hsum
   have SETS := Aside0.mk (show ∀ w8, Mk wr w8 P → ∀ (b1 : Int), Mk wr (w8.setCell ⟨g, x.toNat * 2 + 1, none⟩ (.int .i64 b1)) P from by
    intro w8 m8 b1
    obtain ⟨u1, hy_1, s1⟩ := m8.cell hx_1
    obtain ⟨d1, rfl⟩ := s1.int
    have n0 := Mk.set m8 HP.out hy_1 (u' := .int .i64 b1) (.inr (.inl ⟨_, _, _, rfl, rfl⟩))
    exact n0)
   clear hr' hcell hgl hb en ec hl' hn' hx1 hE hlt hg hr0 hle hA0 hsum h6 hs' hM hcc hfr hcl h4 h5 hn
   have p5 : (0 ≤ x) = True := eq_true hx0
   have q5 : (x < (l.length : Int)) = True := eq_true HL.out
   go_wp2_with (first | (go_at_call 38; with_reducible refine (laws_markState.S_flat P base _ y.f0 (N1) _ (Kd.R_mono HR0.out (fun _ h => h.1)) HA0.out (by have := HLE.out; omega)).mono ?_; rintro e w80 ⟨rfl, m8⟩; have M80 := Aside0.mk (m8); obtain ⟨u1_0, hy0_1, s1⟩ := M80.out.cell hx_1; obtain ⟨i1_0, rfl⟩ := s1.int; have hz0_1 := M80.out.frz hx_1 hf_1; clear m8))
   go_roundg (l.length - (x.toNat + 1))
   case measure => have := HG.out; have := HL.out; omega
   case rel => exact ⟨x + 1, _, rfl, by first | rw [hwx] | simp [hwx], by omega, by have := HL.out; omega, by have := HL.out; omega, ⟨by have := HSUM.out; rw [show (x + 1).toNat = x.toNat + 1 by omega]; omega⟩, ⟨M.out.trans (SETS.out _ M80.out _)⟩⟩
  have c1 : decide (x < (l.length : Int)) = false := decide_eq_false hlt
  have hA : N1 = a + ((l.map laws_markState.STomb_wt).sum : Nat) := by rw [HA.out, List.take_of_length_le (by omega)]
  clear hlt hg
  subst hA
  go_wp2
  go_ret
  exact ⟨rfl, M.out⟩
theorem laws_markState.STomb_call (P : Nat → Prop) (base : Nat) (v : Value) (l : List S94) (a : Int) (w1 w : World) (m : Mk w1 w P) (hr : Kd.R k94 94 w1 base P v l) (h0 : 0 ≤ a) (h1 : a + ((l.map laws_markState.STomb_wt).sum : Nat) ≤ 1000000000) :
  Calls Try.prog 137 #[v, .int .i64 a] w fun e w' => e = .returned (.int .i64 (a + ((l.map laws_markState.STomb_wt).sum : Nat))) ∧ Mk w1 w' P := by
 obtain ⟨l', hl, hs, hr'⟩ := Mk.R (s := laws_markState.STomb_Eqv) m (fun _ h => h) hr (fun z hz ok' hok' d d' hm' hsm' => laws_markState.STomb_shape z w1 w P ok' base d d' m hok' hm' hsm')
 have e1 : l.map laws_markState.STomb_wt = l'.map laws_markState.STomb_wt := mk_map_eq laws_markState.STomb_wt hl (fun j z z' h h' => by have := hs j z z' h h'; unfold laws_markState.STomb_Eqv at this; unfold laws_markState.STomb_wt; omega)
 rw [e1] at h1 ⊢
 refine (laws_markState.STomb_deep P base v l' a w hr' h0 h1).mono ?_
 rintro e w' ⟨rfl, m'⟩
 exact ⟨rfl, m.trans m'⟩
def laws_markState.SSes_wt (x : S109) : Nat := 2
def laws_markState.SSes_Eqv (x y : S109) : Prop := True
theorem laws_markState.SSes_shape (x : S109) (w W : World) (P ok : Nat → Prop) (base : Nat) (cs cs' : List Value) (M : Mk w W P) (hok : ∀ b, ok b → P b) (hm : k109.M w base ok x cs) (hsm : Sm cs cs') : ∃ x', laws_markState.SSes_Eqv x x' ∧ k109.M W base ok x' cs' := by
 obtain ⟨hl, he⟩ := hsm
 obtain rfl := k109_openM hm
 obtain ⟨u0, hu0, q0⟩ := he 0 _ rfl
 obtain ⟨u1, hu1, q1⟩ := he 1 _ rfl
 obtain ⟨i0, rfl⟩ := q0.int
 obtain ⟨i1, rfl⟩ := q1.bool
 have hcs : cs' = [.int .i64 i0, .bool i1] := by
  match cs', hl, hu0, hu1 with
  | [y0, y1], _, a0, a1 => simp at a0 a1; rw [a0, a1]
 subst hcs
 have e := k109_mkM W base ok (⟨i0, i1⟩ : S109)
 exact ⟨⟨i0, i1⟩, trivial, e⟩
set_option maxHeartbeats 16000000 in
set_option maxRecDepth 100000 in
theorem laws_markState.SSes_deep (P : Nat → Prop) (base : Nat) (v : Value) (l : List S109) (a : Int) (w : World) (hr : Kd.R k109 109 w base P v l) (h0 : 0 ≤ a) (h1 : a + ((l.map laws_markState.SSes_wt).sum : Nat) ≤ 1000000000) :
  Calls Try.prog 138 #[v, .int .i64 a] w fun e w' => e = .returned (.int .i64 (a + ((l.map laws_markState.SSes_wt).sum : Nat))) ∧ Mk w w' P := by
 obtain ⟨A, c, rfl⟩ := Kd.R_slice hr
 have HR := Aside0.mk hr
 have H0 := Aside0.mk h0
 have H1 := Aside0.mk h1
 clear hr h0 h1
 have hu := Try.underlying109
 go_enter Try.func138, Try.ntmps138
 go_wp2
 go_loopg [1, 5] l.length (fun gg v1 v5 wr => ∃ x N1 : Int, v1 = .int .i64 N1 ∧ v5 = .int .i64 x ∧ 0 ≤ x ∧ x ≤ (l.length : Int) ∧ l.length - x.toNat ≤ gg ∧ Aside0 (N1 = a + (((l.take x.toNat).map laws_markState.SSes_wt).sum : Nat)) ∧ Aside0 (Mk w wr P))
 case atStart => exact ⟨0, a, rfl, rfl, by omega, by omega, by omega, ⟨by simp⟩, ⟨Mk.refl w P⟩⟩
 case round =>
  obtain ⟨x, N1, rfl, rfl, hx0, hx1, hg, HA, M⟩ := hrel
  by_cases hlt : x < (l.length : Int)
  ·have hn : x.toNat < l.length := by omega
   obtain ⟨l', hl', hs', hr'⟩ := Mk.R (s := laws_markState.SSes_Eqv) M.out (fun _ h => h) HR.out (fun y hy ok' hok' d d' hm' hsm' => laws_markState.SSes_shape y w wr P ok' base d d' M.out hok' hm' hsm')
   have hn' : x.toNat < l'.length := by omega
   have hE := hs' x.toNat _ _ (List.getElem?_eq_getElem hn) (List.getElem?_eq_getElem hn')
   have c1 : decide (x < (l.length : Int)) = true := decide_eq_true hlt
   obtain ⟨g, cap, e, hb, hgl, cells, hcell⟩ := Kd.R_form hr' (by omega)
   injection e with ea en ec
   subst ea
   obtain ⟨ce, hcl, hM, hcc, hfr⟩ := Kd.R_elem hr' z109 x hx0 (by omega)
   rw [List.getD_eq_getElem?_getD, List.getElem?_eq_getElem hn', Option.getD_some] at hM
   generalize l'[x.toNat] = y at hE hM
   obtain rfl := k109_openM hM
   have hx_0 : wr.cell? ⟨g, x.toNat * 2, none⟩ = some (.int .i64 y.f0) := hcc 0 _ rfl
   have hx_1 : wr.cell? ⟨g, x.toNat * 2 + 1, none⟩ = some (.bool y.f1) := hcc 1 _ rfl
   have hf_0 : wr.frozen? ⟨g, x.toNat * 2, none⟩ = false := hfr 0
   have hf_1 : wr.frozen? ⟨g, x.toNat * 2 + 1, none⟩ = false := hfr 1
   have HP := Aside0.mk (hr'.1 g rfl)
   have h4 := Aside0.mk (mk_sum_take laws_markState.SSes_wt l (x.toNat + 1))
   have h5 := Aside0.mk (mk_sum_step laws_markState.SSes_wt l x.toNat hn)
   have h6 : laws_markState.SSes_wt l[x.toNat] = 2 := by
    unfold laws_markState.SSes_wt
    rfl
   have hsum : N1 + (2 : Nat) = a + (((l.take (x.toNat + 1)).map laws_markState.SSes_wt).sum : Nat) := by rw [HA.out, h5.out, h6]; omega
   have hle : N1 + (2 : Nat) ≤ 1000000000 := by rw [hsum]; have := h4.out; have := H1.out; omega
   have hA0 : 0 ≤ N1 := by rw [HA.out]; have := H0.out; omega
   have hw0 : wrap64 (N1 + 1) = N1 + 1 := w64m (by clear hsum; omega) (by clear hsum; omega)
   have hw1 : wrap64 (N1 + 1 + 1) = N1 + 1 + 1 := w64m (by clear hsum hw0; omega) (by clear hsum hw0; omega)
   have hwx : wrap64 (x + 1) = x + 1 := w64m (by clear hsum hle hw0 hw1; omega) (by have := (Kd.R_reads' HR.out).2.2.2.1; clear hsum hle hw0 hw1; omega)
   have HL := Aside0.mk hlt
   have HG := Aside0.mk hg
   have HLE := Aside0.mk hle
   have HA0 := Aside0.mk hA0
   have HSUM := Aside0.mk hsum
   have SETS := Aside0.mk (show ∀ w8, Mk wr w8 P → ∀ (b0 : Int) (b1 : Bool), Mk wr ((w8.setCell ⟨g, x.toNat * 2, none⟩ (.int .i64 b0)).setCell ⟨g, x.toNat * 2 + 1, none⟩ (.bool b1)) P from by
    intro w8 m8 b0 b1
    obtain ⟨u0, hy_0, s0⟩ := m8.cell hx_0
    obtain ⟨d0, rfl⟩ := s0.int
    have n0 := Mk.set m8 HP.out hy_0 (u' := .int .i64 b0) (.inr (.inl ⟨_, _, _, rfl, rfl⟩))
    obtain ⟨u1, hy_1, s1⟩ := n0.cell hx_1
    obtain ⟨d1, rfl⟩ := s1.bool
    have n1 := Mk.set n0 HP.out hy_1 (u' := .bool b1) (.inr (.inr ⟨_, _, rfl, rfl⟩))
    exact n1)
   clear hr' hcell hgl hb en ec hl' hn' hx1 hE hlt hg hle hA0 hsum h6 hs' hM hcc hfr hcl h4 h5 hn
   have p5 : (0 ≤ x) = True := eq_true hx0
   have q5 : (x < (l.length : Int)) = True := eq_true HL.out
   go_wp2
   go_roundg (l.length - (x.toNat + 1))
   case measure => have := HG.out; have := HL.out; omega
   case rel => exact ⟨x + 1, _, rfl, by first | rw [hwx] | simp [hwx], by omega, by have := HL.out; omega, by have := HL.out; omega, ⟨by have := HSUM.out; rw [show (x + 1).toNat = x.toNat + 1 by omega]; omega⟩, ⟨M.out.trans (SETS.out _ (Mk.refl wr P) _ _)⟩⟩
  have c1 : decide (x < (l.length : Int)) = false := decide_eq_false hlt
  have hA : N1 = a + ((l.map laws_markState.SSes_wt).sum : Nat) := by rw [HA.out, List.take_of_length_le (by omega)]
  clear hlt hg
  subst hA
  go_wp2
  go_ret
  exact ⟨rfl, M.out⟩
theorem laws_markState.SSes_call (P : Nat → Prop) (base : Nat) (v : Value) (l : List S109) (a : Int) (w1 w : World) (m : Mk w1 w P) (hr : Kd.R k109 109 w1 base P v l) (h0 : 0 ≤ a) (h1 : a + ((l.map laws_markState.SSes_wt).sum : Nat) ≤ 1000000000) :
  Calls Try.prog 138 #[v, .int .i64 a] w fun e w' => e = .returned (.int .i64 (a + ((l.map laws_markState.SSes_wt).sum : Nat))) ∧ Mk w1 w' P := by
 obtain ⟨l', hl, hs, hr'⟩ := Mk.R (s := laws_markState.SSes_Eqv) m (fun _ h => h) hr (fun z hz ok' hok' d d' hm' hsm' => laws_markState.SSes_shape z w1 w P ok' base d d' m hok' hm' hsm')
 have e1 : l.map laws_markState.SSes_wt = l'.map laws_markState.SSes_wt := mk_map_eq laws_markState.SSes_wt hl (fun j z z' h h' => by have := hs j z z' h h'; unfold laws_markState.SSes_Eqv at this; unfold laws_markState.SSes_wt; omega)
 rw [e1] at h1 ⊢
 refine (laws_markState.SSes_deep P base v l' a w hr' h0 h1).mono ?_
 rintro e w' ⟨rfl, m'⟩
 exact ⟨rfl, m.trans m'⟩
def laws_markState.SLast_wt (x : S75) : Nat := 4
def laws_markState.SLast_Eqv (x y : S75) : Prop := True
theorem laws_markState.SLast_shape (x : S75) (w W : World) (P ok : Nat → Prop) (base : Nat) (cs cs' : List Value) (M : Mk w W P) (hok : ∀ b, ok b → P b) (hm : k75.M w base ok x cs) (hsm : Sm cs cs') : ∃ x', laws_markState.SLast_Eqv x x' ∧ k75.M W base ok x' cs' := by
 obtain ⟨hl, he⟩ := hsm
 obtain rfl := k75_openM hm
 obtain ⟨u0, hu0, q0⟩ := he 0 _ rfl
 obtain ⟨u1, hu1, q1⟩ := he 1 _ rfl
 obtain ⟨u2, hu2, q2⟩ := he 2 _ rfl
 obtain ⟨u3, hu3, q3⟩ := he 3 _ rfl
 obtain ⟨i0, rfl⟩ := q0.int
 obtain ⟨i1, rfl⟩ := q1.int
 obtain ⟨i2, rfl⟩ := q2.int
 obtain ⟨i3, rfl⟩ := q3.int
 have hcs : cs' = [.int .i64 i0, .int .i64 i1, .int .i64 i2, .int .i64 i3] := by
  match cs', hl, hu0, hu1, hu2, hu3 with
  | [y0, y1, y2, y3], _, a0, a1, a2, a3 => simp at a0 a1 a2 a3; rw [a0, a1, a2, a3]
 subst hcs
 have e := k75_mkM W base ok (⟨i0, i1, ⟨i2, i3⟩⟩ : S75)
 exact ⟨⟨i0, i1, ⟨i2, i3⟩⟩, trivial, e⟩
set_option maxHeartbeats 16000000 in
set_option maxRecDepth 100000 in
theorem laws_markState.SLast_deep (P : Nat → Prop) (base : Nat) (v : Value) (l : List S75) (a : Int) (w : World) (hr : Kd.R k75 75 w base P v l) (h0 : 0 ≤ a) (h1 : a + ((l.map laws_markState.SLast_wt).sum : Nat) ≤ 1000000000) :
  Calls Try.prog 139 #[v, .int .i64 a] w fun e w' => e = .returned (.int .i64 (a + ((l.map laws_markState.SLast_wt).sum : Nat))) ∧ Mk w w' P := by
 obtain ⟨A, c, rfl⟩ := Kd.R_slice hr
 have HR := Aside0.mk hr
 have H0 := Aside0.mk h0
 have H1 := Aside0.mk h1
 clear hr h0 h1
 have hu := Try.underlying75
 have huz := Try.underlying73
 go_enter Try.func139, Try.ntmps139
 go_wp2
 go_loopg [1, 5] l.length (fun gg v1 v5 wr => ∃ x N1 : Int, v1 = .int .i64 N1 ∧ v5 = .int .i64 x ∧ 0 ≤ x ∧ x ≤ (l.length : Int) ∧ l.length - x.toNat ≤ gg ∧ Aside0 (N1 = a + (((l.take x.toNat).map laws_markState.SLast_wt).sum : Nat)) ∧ Aside0 (Mk w wr P))
 case atStart => exact ⟨0, a, rfl, rfl, by omega, by omega, by omega, ⟨by simp⟩, ⟨Mk.refl w P⟩⟩
 case round =>
  obtain ⟨x, N1, rfl, rfl, hx0, hx1, hg, HA, M⟩ := hrel
  by_cases hlt : x < (l.length : Int)
  ·have hn : x.toNat < l.length := by omega
   obtain ⟨l', hl', hs', hr'⟩ := Mk.R (s := laws_markState.SLast_Eqv) M.out (fun _ h => h) HR.out (fun y hy ok' hok' d d' hm' hsm' => laws_markState.SLast_shape y w wr P ok' base d d' M.out hok' hm' hsm')
   have hn' : x.toNat < l'.length := by omega
   have hE := hs' x.toNat _ _ (List.getElem?_eq_getElem hn) (List.getElem?_eq_getElem hn')
   have c1 : decide (x < (l.length : Int)) = true := decide_eq_true hlt
   obtain ⟨g, cap, e, hb, hgl, cells, hcell⟩ := Kd.R_form hr' (by omega)
   injection e with ea en ec
   subst ea
   obtain ⟨ce, hcl, hM, hcc, hfr⟩ := Kd.R_elem hr' z75 x hx0 (by omega)
   rw [List.getD_eq_getElem?_getD, List.getElem?_eq_getElem hn', Option.getD_some] at hM
   generalize l'[x.toNat] = y at hE hM
   obtain rfl := k75_openM hM
   have hx_0 : wr.cell? ⟨g, x.toNat * 4, none⟩ = some (.int .i64 y.f0) := hcc 0 _ rfl
   have hx_1 : wr.cell? ⟨g, x.toNat * 4 + 1, none⟩ = some (.int .i64 y.f1) := hcc 1 _ rfl
   have hx_2 : wr.cell? ⟨g, x.toNat * 4 + 2, none⟩ = some (.int .i64 y.f2.f0) := hcc 2 _ rfl
   have hx_3 : wr.cell? ⟨g, x.toNat * 4 + 3, none⟩ = some (.int .i64 y.f2.f1) := hcc 3 _ rfl
   have hf_0 : wr.frozen? ⟨g, x.toNat * 4, none⟩ = false := hfr 0
   have hf_1 : wr.frozen? ⟨g, x.toNat * 4 + 1, none⟩ = false := hfr 1
   have hf_2 : wr.frozen? ⟨g, x.toNat * 4 + 2, none⟩ = false := hfr 2
   have hf_3 : wr.frozen? ⟨g, x.toNat * 4 + 3, none⟩ = false := hfr 3
   have HP := Aside0.mk (hr'.1 g rfl)
   have h4 := Aside0.mk (mk_sum_take laws_markState.SLast_wt l (x.toNat + 1))
   have h5 := Aside0.mk (mk_sum_step laws_markState.SLast_wt l x.toNat hn)
   have h6 : laws_markState.SLast_wt l[x.toNat] = 4 := by
    unfold laws_markState.SLast_wt
    rfl
   have hsum : N1 + (4 : Nat) = a + (((l.take (x.toNat + 1)).map laws_markState.SLast_wt).sum : Nat) := by rw [HA.out, h5.out, h6]; omega
   have hle : N1 + (4 : Nat) ≤ 1000000000 := by rw [hsum]; have := h4.out; have := H1.out; omega
   have hA0 : 0 ≤ N1 := by rw [HA.out]; have := H0.out; omega
   have hw0 : wrap64 (N1 + 1) = N1 + 1 := w64m (by clear hsum; omega) (by clear hsum; omega)
   have hw1 : wrap64 (N1 + 1 + 1) = N1 + 1 + 1 := w64m (by clear hsum hw0; omega) (by clear hsum hw0; omega)
   have hw2 : wrap64 (N1 + 1 + 1 + 1) = N1 + 1 + 1 + 1 := w64m (by clear hsum hw0 hw1; omega) (by clear hsum hw0 hw1; omega)
   have hw3 : wrap64 (N1 + 1 + 1 + 1 + 1) = N1 + 1 + 1 + 1 + 1 := w64m (by clear hsum hw0 hw1 hw2; omega) (by clear hsum hw0 hw1 hw2; omega)
   have hwx : wrap64 (x + 1) = x + 1 := w64m (by clear hsum hle hw0 hw1 hw2 hw3; omega) (by have := (Kd.R_reads' HR.out).2.2.2.1; clear hsum hle hw0 hw1 hw2 hw3; omega)
   have HL := Aside0.mk hlt
   have HG := Aside0.mk hg
   have HLE := Aside0.mk hle
   have HA0 := Aside0.mk hA0
   have HSUM := Aside0.mk hsum
   have SETS := Aside0.mk (show ∀ w8, Mk wr w8 P → ∀ (b0 : Int) (b1 : Int) (b2 : Int) (b3 : Int), Mk wr ((((w8.setCell ⟨g, x.toNat * 4, none⟩ (.int .i64 b0)).setCell ⟨g, x.toNat * 4 + 1, none⟩ (.int .i64 b1)).setCell ⟨g, x.toNat * 4 + 2, none⟩ (.int .i64 b2)).setCell ⟨g, x.toNat * 4 + 3, none⟩ (.int .i64 b3)) P from by
    intro w8 m8 b0 b1 b2 b3
    obtain ⟨u0, hy_0, s0⟩ := m8.cell hx_0
    obtain ⟨d0, rfl⟩ := s0.int
    have n0 := Mk.set m8 HP.out hy_0 (u' := .int .i64 b0) (.inr (.inl ⟨_, _, _, rfl, rfl⟩))
    obtain ⟨u1, hy_1, s1⟩ := n0.cell hx_1
    obtain ⟨d1, rfl⟩ := s1.int
    have n1 := Mk.set n0 HP.out hy_1 (u' := .int .i64 b1) (.inr (.inl ⟨_, _, _, rfl, rfl⟩))
    obtain ⟨u2, hy_2, s2⟩ := n1.cell hx_2
    obtain ⟨d2, rfl⟩ := s2.int
    have n2 := Mk.set n1 HP.out hy_2 (u' := .int .i64 b2) (.inr (.inl ⟨_, _, _, rfl, rfl⟩))
    obtain ⟨u3, hy_3, s3⟩ := n2.cell hx_3
    obtain ⟨d3, rfl⟩ := s3.int
    have n3 := Mk.set n2 HP.out hy_3 (u' := .int .i64 b3) (.inr (.inl ⟨_, _, _, rfl, rfl⟩))
    exact n3)
   clear hr' hcell hgl hb en ec hl' hn' hx1 hE hlt hg hle hA0 hsum h6 hs' hM hcc hfr hcl h4 h5 hn
   have p5 : (0 ≤ x) = True := eq_true hx0
   have q5 : (x < (l.length : Int)) = True := eq_true HL.out
   go_wp2
   go_roundg (l.length - (x.toNat + 1))
   case measure => have := HG.out; have := HL.out; omega
   case rel => exact ⟨x + 1, _, rfl, by first | rw [hwx] | simp [hwx], by omega, by have := HL.out; omega, by have := HL.out; omega, ⟨by have := HSUM.out; rw [show (x + 1).toNat = x.toNat + 1 by omega]; omega⟩, ⟨M.out.trans (SETS.out _ (Mk.refl wr P) _ _ _ _)⟩⟩
  have c1 : decide (x < (l.length : Int)) = false := decide_eq_false hlt
  have hA : N1 = a + ((l.map laws_markState.SLast_wt).sum : Nat) := by rw [HA.out, List.take_of_length_le (by omega)]
  clear hlt hg
  subst hA
  go_wp2
  go_ret
  exact ⟨rfl, M.out⟩
theorem laws_markState.SLast_call (P : Nat → Prop) (base : Nat) (v : Value) (l : List S75) (a : Int) (w1 w : World) (m : Mk w1 w P) (hr : Kd.R k75 75 w1 base P v l) (h0 : 0 ≤ a) (h1 : a + ((l.map laws_markState.SLast_wt).sum : Nat) ≤ 1000000000) :
  Calls Try.prog 139 #[v, .int .i64 a] w fun e w' => e = .returned (.int .i64 (a + ((l.map laws_markState.SLast_wt).sum : Nat))) ∧ Mk w1 w' P := by
 obtain ⟨l', hl, hs, hr'⟩ := Mk.R (s := laws_markState.SLast_Eqv) m (fun _ h => h) hr (fun z hz ok' hok' d d' hm' hsm' => laws_markState.SLast_shape z w1 w P ok' base d d' m hok' hm' hsm')
 have e1 : l.map laws_markState.SLast_wt = l'.map laws_markState.SLast_wt := mk_map_eq laws_markState.SLast_wt hl (fun j z z' h h' => by have := hs j z z' h h'; unfold laws_markState.SLast_Eqv at this; unfold laws_markState.SLast_wt; omega)
 rw [e1] at h1 ⊢
 refine (laws_markState.SLast_deep P base v l' a w hr' h0 h1).mono ?_
 rintro e w' ⟨rfl, m'⟩
 exact ⟨rfl, m.trans m'⟩
def laws_markState.f (a0 : Int) (l1 : List S92) (l2 : List S94) (a3 : Int) (l4 : List S109) (l5 : List S75) (a6 : Int) : Option Int := if 0 ≤ a6 ∧ a6 + ((l1.map laws_markState.SRow_wt).sum : Nat) + ((l2.map laws_markState.STomb_wt).sum : Nat) + ((l4.map laws_markState.SSes_wt).sum : Nat) + ((l5.map laws_markState.SLast_wt).sum : Nat) ≤ 1000000000 then some (a6 + ((l1.map laws_markState.SRow_wt).sum : Nat) + ((l2.map laws_markState.STomb_wt).sum : Nat) + ((l4.map laws_markState.SSes_wt).sum : Nat) + ((l5.map laws_markState.SLast_wt).sum : Nat)) else none
set_option maxHeartbeats 16000000 in
set_option maxRecDepth 100000 in
theorem laws_markState.calls (a0 : Int) (P1_ : Nat → Prop) (u1 : Value) (l1 : List S92) (P2_ : Nat → Prop) (u2 : Value) (l2 : List S94) (a3 : Int) (P4_ : Nat → Prop) (u4 : Value) (l4 : List S109) (P5_ : Nat → Prop) (u5 : Value) (l5 : List S75) (a6 : Int) (r : Int) (w0 w : World) (hB : Below w0.heap.size w0 w) (ho1 : Kd.R k92 92 w w0.heap.size P1_ u1 l1) (ho2 : Kd.R k94 94 w w0.heap.size P2_ u2 l2) (ho4 : Kd.R k109 109 w w0.heap.size P4_ u4 l4) (ho5 : Kd.R k75 75 w w0.heap.size P5_ u5 l5) (h : laws_markState.f a0 l1 l2 a3 l4 l5 a6 = some r) :
  Calls Try.prog 57 #[.agg #[.int .i64 a0, u1, u2, .int .i64 a3, u4, u5], .int .i64 a6] w fun e w' => e = .returned (.int .i64 r) ∧ Below w0.heap.size w0 w' ∧ Kept w w' (fun k_ => P1_ k_ ∨ P2_ k_ ∨ P4_ k_ ∨ P5_ k_) := by
 have hu := Try.underlying35
 unfold laws_markState.f at h
 split at h
 case isFalse => cases h
 case isTrue hh =>
 obtain rfl := Option.some.inj h
 clear h
 obtain ⟨h0, h1⟩ := hh
 obtain ⟨A1, c1, rfl⟩ := Kd.R_slice ho1
 obtain ⟨A2, c2, rfl⟩ := Kd.R_slice ho2
 obtain ⟨A4, c4, rfl⟩ := Kd.R_slice ho4
 obtain ⟨A5, c5, rfl⟩ := Kd.R_slice ho5
 have HO1 := Aside0.mk (Kd.R_mono (ok' := (fun b => (P1_ b ∨ P2_ b ∨ P4_ b ∨ P5_ b) ∧ w0.heap.size ≤ b ∧ b < w.heap.size)) (Kd.R_bound ho1) (fun _ h => ⟨(.inl h.1), h.2.1, h.2.2.1⟩))
 have HO2 := Aside0.mk (Kd.R_mono (ok' := (fun b => (P1_ b ∨ P2_ b ∨ P4_ b ∨ P5_ b) ∧ w0.heap.size ≤ b ∧ b < w.heap.size)) (Kd.R_bound ho2) (fun _ h => ⟨(.inr (.inl h.1)), h.2.1, h.2.2.1⟩))
 have HO4 := Aside0.mk (Kd.R_mono (ok' := (fun b => (P1_ b ∨ P2_ b ∨ P4_ b ∨ P5_ b) ∧ w0.heap.size ≤ b ∧ b < w.heap.size)) (Kd.R_bound ho4) (fun _ h => ⟨(.inr (.inr (.inl h.1))), h.2.1, h.2.2.1⟩))
 have HO5 := Aside0.mk (Kd.R_mono (ok' := (fun b => (P1_ b ∨ P2_ b ∨ P4_ b ∨ P5_ b) ∧ w0.heap.size ≤ b ∧ b < w.heap.size)) (Kd.R_bound ho5) (fun _ h => ⟨(.inr (.inr (.inr h.1))), h.2.1, h.2.2.1⟩))
 have HBB := Aside0.mk hB
 have H0 := Aside0.mk h0
 have H1 := Aside0.mk h1
 clear ho1 ho2 ho4 ho5 hB h0 h1
 go_enter Try.func57, Try.ntmps57
 go_wp2_with (first | ((with_reducible refine gate_dst (N := 2) rfl ?_); refine bx_ 2 #[.int .i64 a0, .slice A1 l1.length c1, .slice A2 l2.length c2, .int .i64 a3, .slice A4 l4.length c4, .slice A5 l5.length c5] 35 (h := ?_); intro gb1 hg w1 hbox hb; have BK1 := Aside0.mk (hbox); have HG1 := Aside0.mk hg; have HB1 := Aside0.mk hb; have M1 := Aside0.mk (Mk.refl w1 (fun b => (P1_ b ∨ P2_ b ∨ P4_ b ∨ P5_ b) ∧ w0.heap.size ≤ b ∧ b < w.heap.size)); clear hb hbox hg; have C1_1 : w1.cell? ⟨gb1, 1, none⟩ = some (.slice A1 l1.length c1) := (blk_cell BK1.out 1).trans rfl) | (go_at_call 136; refine (laws_markState.SRow_call _ _ _ l1 (a6) w1 _ M1.out (Kd.R_below HO1.out HB1.out) (by have := H0.out; omega) (by have := H1.out; omega)).mono ?_; rintro e w2 ⟨rfl, m_⟩; have M2 := Aside0.mk m_; have BK2 := Aside0.mk (blk_kept BK1.out m_.kept (fun h => by have := h.2.2; have := HG1.out; omega)); have C2_2 : w2.cell? ⟨gb1, 2, none⟩ = some (.slice A2 l2.length c2) := (blk_cell BK2.out 2).trans rfl; clear m_) | (go_at_call 137; refine (laws_markState.STomb_call _ _ _ l2 (a6 + ((l1.map laws_markState.SRow_wt).sum : Nat)) w1 _ M2.out (Kd.R_below HO2.out HB1.out) (by have := H0.out; omega) (by have := H1.out; omega)).mono ?_; rintro e w3 ⟨rfl, m_⟩; have M3 := Aside0.mk m_; have BK3 := Aside0.mk (blk_kept BK1.out m_.kept (fun h => by have := h.2.2; have := HG1.out; omega)); have C3_4 : w3.cell? ⟨gb1, 4, none⟩ = some (.slice A4 l4.length c4) := (blk_cell BK3.out 4).trans rfl; clear m_) | (go_at_call 138; refine (laws_markState.SSes_call _ _ _ l4 (a6 + ((l1.map laws_markState.SRow_wt).sum : Nat) + ((l2.map laws_markState.STomb_wt).sum : Nat)) w1 _ M3.out (Kd.R_below HO4.out HB1.out) (by have := H0.out; omega) (by have := H1.out; omega)).mono ?_; rintro e w4 ⟨rfl, m_⟩; have M4 := Aside0.mk m_; have BK4 := Aside0.mk (blk_kept BK1.out m_.kept (fun h => by have := h.2.2; have := HG1.out; omega)); have C4_5 : w4.cell? ⟨gb1, 5, none⟩ = some (.slice A5 l5.length c5) := (blk_cell BK4.out 5).trans rfl; clear m_) | (go_at_call 139; refine (laws_markState.SLast_call _ _ _ l5 (a6 + ((l1.map laws_markState.SRow_wt).sum : Nat) + ((l2.map laws_markState.STomb_wt).sum : Nat) + ((l4.map laws_markState.SSes_wt).sum : Nat)) w1 _ M4.out (Kd.R_below HO5.out HB1.out) (by have := H0.out; omega) (by have := H1.out; omega)).mono ?_; rintro e w5 ⟨rfl, m_⟩; have M5 := Aside0.mk m_; clear m_))
 go_ret
 have mm := Mk.newer HB1.out M5.out (fun _ h => h.2.2)
 exact ⟨rfl, mm.below HBB.out (fun _ h => h.2.1), mm.kept.mono (fun _ h => h.1)⟩

/-! ### laws_markByteS: function 38 -/
def laws_markByteS.l0 : Nat → List Int → Int → Int → Option (Int × List Int)
 | 0, _, _, _ => none
 | k + 1, x0, x1, x5 => if x5 < (x0.length : Int) then (if 0 ≤ x5 then (laws_markByteS.l0 k (x0.set (x5 : Int).toNat ((x1) % 256)) (wrap64 (x1 + 1)) (wrap64 (x5 + 1))) else (none)) else (some (x1, x0))
def laws_markByteS.f (k : Nat) (l0 : List Int) (a1 : Int) : Option (Int × List Int) := laws_markByteS.l0 k l0 a1 0
set_option maxHeartbeats 8000000 in
set_option maxRecDepth 100000 in
theorem laws_markByteS.calls (k : Nat) (P0_ : Nat → Prop) (u9000_ : Value) (l0 : List Int) (a1 : Int) (r1 : Int) (r2 : List Int) (w0 w : World) (hB : Below w0.heap.size w0 w) (ho0 : Kd.R (Kd.int .u8) 5 w w0.heap.size P0_ u9000_ l0) (h : laws_markByteS.f k l0 a1 = some (r1, r2)) :
  Calls Try.prog 38 #[u9000_, .int .i64 a1] w fun e w' => e = .returned (.int .i64 r1) ∧ Kd.R (Kd.int .u8) 5 w' w0.heap.size (fun k_ => (P0_ k_ ∨ w.heap.size ≤ k_)) u9000_ r2 ∧ Below w0.heap.size w0 w' ∧ Kept w w' (fun k_ => P0_ k_) := by
 have HO0 := Aside0.mk (show Kd.R (Kd.int .u8) 5 w w0.heap.size (fun k_ => (P0_ k_ ∨ w.heap.size ≤ k_)) u9000_ l0 from Kd.R_mono ho0 (fun k_ hk => (.inl hk)))
 have HK := Aside0.mk (Kept.refl w (fun k_ => P0_ k_))
 have HW0 := Aside0.mk hB.size
 have HB := Aside0.mk hB
 clear hB
 have H : (laws_markByteS.l0 k l0 a1 0) = some (r1, r2) := h
 clear h
 have H' := Aside0.mk H
 clear H
 go_enter Try.func38, Try.ntmps38
 go_wp2
 go_loopg [1, 5] k (fun kq v1 v5 w' => ∃ (x0_1 : List Int) (x1_1 : Int) (x5_1 : Int), v1 = .int .i64 x1_1 ∧ v5 = .int .i64 x5_1 ∧ Aside0 (laws_markByteS.l0 kq x0_1 x1_1 x5_1 = some (r1, r2)) ∧ Aside0 (kq ≤ k) ∧ Aside0 (Kd.R (Kd.int .u8) 5 w' w0.heap.size (fun k_ => (P0_ k_ ∨ w.heap.size ≤ k_)) u9000_ x0_1) ∧ Aside0 (Kept w w' (fun k_ => P0_ k_)) ∧ Aside0 (Below w0.heap.size w0 w'))
 case atStart => exact ⟨(l0), (a1), (0), rs_, rs_, H', ⟨Nat.le_refl _⟩, ⟨rkp HO0⟩, ⟨by repeat (first | (with_reducible first | exact HK.out | apply Kept.alloc | apply Kept.drewN | apply Kept.drew) | exact HK.out)⟩, ⟨bel⟩⟩
 case round =>
  clear H'
  try clear p2
  obtain ⟨x0_1, x1_1, x5_1, rfl, rfl, HA, HK1, HO_0, HK, HB⟩ := hrel
  cases gk with
  | zero => exact absurd HA.out (by simp [laws_markByteS.l0])
  | succ k1 =>
   have H := HA.out
   clear HA
   simp only [laws_markByteS.l0] at H
   by_cases c3 : x5_1 < (x0_1.length : Int)
   ·rw [if_pos c3] at H
    have c3b0 : decide (x5_1 < (x0_1.length : Int)) = true := decide_eq_true c3
    clear c3
    by_cases c4 : 0 ≤ x5_1
    ·rw [if_pos c4] at H
     have c4b0 : decide (0 ≤ x5_1) = true := decide_eq_true c4
     clear c4
     obtain ⟨y302, hy302⟩ : ∃ y_ : List Int, y_ = (x0_1.set (x5_1 : Int).toNat ((x1_1) % 256)) := ⟨_, rfl⟩
     replace H : (laws_markByteS.l0 k1 y302 (wrap64 (x1_1 + 1)) (wrap64 (x5_1 + 1))) = some (r1, r2) := by first | (rw [hy302]; with_reducible exact H) | (have H2_ := (Option.bind_some _ _).symm.trans H; rw [hy302]; with_reducible exact H2_) | (have H2_ := (Option.bind_some _ _).symm.trans H; with_reducible exact H2_) | with_reducible exact H | (rw [hy302]; exact H) | exact H
     have Ny302 := Aside0.mk hy302
     clear hy302
     have H' := Aside0.mk H
     clear H
     obtain ⟨Ao6, co6, eo6⟩ := Kd.R_slice HO_0.out
     subst eo6
     have p5 : 0 ≤ (x5_1 : Int) := od
     have q5 : (x5_1 : Int) < ((x0_1.length : Int) : Int) := od
     obtain ⟨go5, co5, eo5, gb5, gl5, cl5, HG5⟩ := Kd.R_form HO_0.out (by omega)
     (first | cases eo5 | (injection eo5 with ea_ en_ ec_; (first | subst ea_ | (injection ea_ with ea_; subst ea_)); subst ec_; clear en_))
     have GB5 := Aside0.mk gb5
     have GG5 := Aside0.mk HG5
     clear gb5 gl5 HG5
     have HMgo5 := Aside0.mk (show (P0_ go5 ∨ w.heap.size ≤ go5) from (HO_0.out.1 _ rfl))
     obtain ⟨hx5_0, hf5_0⟩ := Kd.R_celln 0 HO_0.out (x5_1 : Int) p5 q5
     replace p5 := eq_true p5
     replace q5 := eq_true q5
     have HP7 := Kd.R_putg HO_0.out (x5_1 : Int) ((x1_1) % 256)
     go_wp2_with (first | ((with_reducible refine gate_store (t := 5) (p := 16) rfl ?_); refine store_event (t := 5) (p := 16) (v := ?vo_w8) (w1 := (wr.setCell ⟨go5, (x5_1 : Int).toNat, none⟩ (.int .u8 ((x1_1) % 256)))) ?hg ?ho ?hn ?hr ?_; (case ho => rfl); (case hg => rfl); (case hn => rfl); (case hr => first | (go_simp; done) | (go_simp; rfl)); intro w8 hw; have hg : wr.grownBy w8 (some go5) := (by rw [hw]; exact HP7.2); have hp_ : Kd.R (Kd.int .u8) 5 w8 w0.heap.size (fun k_ => (P0_ k_ ∨ w.heap.size ≤ k_)) (.slice (some ⟨go5, 0, none⟩) x0_1.length co6) y302 := (by rw [hw, Ny302.out]; exact HP7.1); clear HP7; replace HB := Aside0.mk ((by rw [hw]; exact below_set (HB.out) GB5.out : Below w0.heap.size w0 w8)); replace HK := Aside0.mk (Kept.of_grown (S := (fun k_ => P0_ k_)) hg (by repeat (first | (with_reducible first | exact HK.out | apply Kept.alloc | apply Kept.drewN | apply Kept.drew) | exact HK.out)) (fun k_ e_ => (HO_0.out.1 k_ e_))); replace HO_0 := Aside0.mk (hp_); clear hg hw hp_))
     go_roundg k1
     case measure => have := HK1.out; omega
     case rel => exact ⟨(y302), (wrap64 (x1_1 + 1)), (wrap64 (x5_1 + 1)), rs_, rs_, H', ⟨by have := HK1.out; omega⟩, ⟨rkp HO_0⟩, ⟨by repeat (first | (with_reducible first | exact HK.out | apply Kept.alloc | apply Kept.drewN | apply Kept.drew) | exact HK.out)⟩, ⟨bel⟩⟩
    rw [if_neg c4] at H
    exact absurd H (by simp)
   rw [if_neg c3] at H
   have c3b0 : decide (x5_1 < (x0_1.length : Int)) = false := decide_eq_false c3
   clear c3
   simp only [Option.some.injEq, Prod.mk.injEq] at H
   obtain ⟨rfl, rfl⟩ := H
   obtain ⟨Ao9, co9, eo9⟩ := Kd.R_slice HO_0.out
   subst eo9
   go_wp2
   go_ret
   exact ⟨rz_, by (with_reducible repeat (first | apply Kd.R_alloc | apply Kd.R_drewN | apply Kd.R_drew)); exact HO_0.out, by repeat (first | (with_reducible first | exact HB.out | apply below_alloc | apply pw_below_drewN | apply below_drew1) | exact HB.out), by repeat (first | (with_reducible first | exact HK.out | apply Kept.alloc | apply Kept.drewN | apply Kept.drew) | exact HK.out)⟩

/-! ### laws_heldByteS: function 39 -/
def laws_heldByteS.l0 : Nat → List Int → Int → Int → Option (Int)
 | 0, _, _, _ => none
 | k + 1, x0, x1, x5 => if x5 < (x0.length : Int) then (if 0 ≤ x5 then (if (rd x0 x5) = ((x1) % 256) then (laws_heldByteS.l0 k x0 (wrap64 (x1 + 1)) (wrap64 (x5 + 1))) else (some (-1))) else (none)) else (some x1)
def laws_heldByteS.f (k : Nat) (l0 : List Int) (a1 : Int) : Option (Int) := laws_heldByteS.l0 k l0 a1 0
set_option maxHeartbeats 8000000 in
set_option maxRecDepth 100000 in
theorem laws_heldByteS.calls (k : Nat) (A0 : Option Addr) (c0 : Nat) (l0 : List Int) (a1 : Int) (r : Int) (w : World) (hr0 : Kd.C (Kd.int .u8) w A0 l0.length l0) (hc0 : l0.length ≤ c0) (h : laws_heldByteS.f k l0 a1 = some r) :
  Calls Try.prog 39 #[.slice A0 l0.length c0, .int .i64 a1] w fun e w' => e = .returned (.int .i64 r) ∧ Drawn0 w w' := by
 have HR0 := Aside0.mk hr0
 have HC0 := Aside0.mk hc0
 clear hr0 hc0
 have H : (laws_heldByteS.l0 k l0 a1 0) = some r := h
 clear h
 have H' := Aside0.mk H
 clear H
 go_enter Try.func39, Try.ntmps39
 go_wp2
 go_loopg [1, 5] k (fun kq v1 v5 w' => ∃ (x1_1 : Int) (x5_1 : Int), v1 = .int .i64 x1_1 ∧ v5 = .int .i64 x5_1 ∧ Aside0 (laws_heldByteS.l0 kq l0 x1_1 x5_1 = some r) ∧ Aside0 (kq ≤ k) ∧ Drawn0 w w')
 case atStart => exact ⟨(a1), (0), rs_, rs_, H', ⟨Nat.le_refl _⟩, by repeat (first | exact Drawn0.refl _ | apply Drawn0.step)⟩
 case round =>
  clear H'
  try clear p2
  obtain ⟨x1_1, x5_1, rfl, rfl, HA, HK1, ⟨m1, rfl⟩⟩ := hrel
  cases gk with
  | zero => exact absurd HA.out (by simp [laws_heldByteS.l0])
  | succ k1 =>
   have H := HA.out
   clear HA
   simp only [laws_heldByteS.l0] at H
   by_cases c3 : x5_1 < (l0.length : Int)
   ·rw [if_pos c3] at H
    have c3b0 : decide (x5_1 < (l0.length : Int)) = true := decide_eq_true c3
    clear c3
    by_cases c4 : 0 ≤ x5_1
    ·rw [if_pos c4] at H
     have c4b0 : decide (0 ≤ x5_1) = true := decide_eq_true c4
     clear c4
     by_cases c5 : (rd l0 x5_1) = ((x1_1) % 256)
     ·rw [if_pos c5] at H
      have c5b0 : ((rd l0 x5_1) == ((x1_1) % 256)) = true := beq_iff_eq.mpr c5
      have c5b1 : ((rd l0 x5_1) != ((x1_1) % 256)) = false := bne_eq_false_iff_eq.mpr c5
      clear c5
      have H' := Aside0.mk H
      clear H
      have p303 : 0 ≤ (x5_1 : Int) := od
      have q303 : x5_1 < (l0.length : Int) := od
      obtain ⟨ad303, e303, hx303_0⟩ := Kd.at_int HR0.out x5_1 p303 q303
      cases e303
      replace p303 := eq_true p303
      replace q303 := eq_true q303
      go_wp2
      go_roundg k1
      case measure => have := HK1.out; omega
      case rel => exact ⟨(wrap64 (x1_1 + 1)), (wrap64 (x5_1 + 1)), rs_, rs_, H', ⟨by have := HK1.out; omega⟩, by repeat (first | exact Drawn0.refl _ | apply Drawn0.step)⟩
     rw [if_neg c5] at H
     have c5b0 : ((rd l0 x5_1) == ((x1_1) % 256)) = false := beq_eq_false_iff_ne.mpr c5
     have c5b1 : ((rd l0 x5_1) != ((x1_1) % 256)) = true := bne_iff_ne.mpr c5
     obtain rfl := Option.some.inj H
     have p303 : 0 ≤ (x5_1 : Int) := od
     have q303 : x5_1 < (l0.length : Int) := od
     obtain ⟨ad303, e303, hx303_0⟩ := Kd.at_int HR0.out x5_1 p303 q303
     cases e303
     replace p303 := eq_true p303
     replace q303 := eq_true q303
     go_wp2
     go_ret
     exact ⟨by first | rfl | (simp; done) | (simp [*]; done), by repeat (first | exact Drawn0.refl _ | apply Drawn0.step)⟩
    rw [if_neg c4] at H
    exact absurd H (by simp)
   rw [if_neg c3] at H
   have c3b0 : decide (x5_1 < (l0.length : Int)) = false := decide_eq_false c3
   clear c3
   obtain rfl := Option.some.inj H
   go_wp2
   go_ret
   exact ⟨by first | rfl | (simp; done) | (simp [*]; done), by repeat (first | exact Drawn0.refl _ | apply Drawn0.step)⟩

/-! ### laws_heldByteSS: function 59 -/
def laws_heldByteSS.l0 : Nat → List (List Int) → Int → Int → Option (Int)
 | 0, _, _, _ => none
 | k + 1, x0, x1, x5 => if x5 < (x0.length : Int) then (if 0 ≤ x5 then ((laws_heldByteS.f k (rd_L1 x0 x5) x1).bind fun t305 => (if t305 < 0 then (some (-1)) else (laws_heldByteSS.l0 k x0 t305 (wrap64 (x5 + 1))))) else (none)) else (some x1)
def laws_heldByteSS.f (k : Nat) (l0 : List (List Int)) (a1 : Int) : Option (Int) := laws_heldByteSS.l0 k l0 a1 0
set_option maxHeartbeats 8000000 in
set_option maxRecDepth 100000 in
theorem laws_heldByteSS.calls (k : Nat) (A0 : Option Addr) (c0 : Nat) (l0 : List (List Int)) (a1 : Int) (r : Int) (w : World) (hr0 : Kd.C (Kd.slice 5 (Kd.int .u8)) w A0 l0.length l0) (hc0 : l0.length ≤ c0) (h : laws_heldByteSS.f k l0 a1 = some r) :
  Calls Try.prog 59 #[.slice A0 l0.length c0, .int .i64 a1] w fun e w' => e = .returned (.int .i64 r) ∧ Drawn0 w w' := by
 have HR0 := Aside0.mk hr0
 have HC0 := Aside0.mk hc0
 clear hr0 hc0
 have H : (laws_heldByteSS.l0 k l0 a1 0) = some r := h
 clear h
 have H' := Aside0.mk H
 clear H
 go_enter Try.func59, Try.ntmps59
 go_wp2
 go_loopg [1, 5] k (fun kq v1 v5 w' => ∃ (x1_1 : Int) (x5_1 : Int), v1 = .int .i64 x1_1 ∧ v5 = .int .i64 x5_1 ∧ Aside0 (laws_heldByteSS.l0 kq l0 x1_1 x5_1 = some r) ∧ Aside0 (kq ≤ k) ∧ Drawn0 w w')
 case atStart => exact ⟨(a1), (0), rs_, rs_, H', ⟨Nat.le_refl _⟩, by repeat (first | exact Drawn0.refl _ | apply Drawn0.step)⟩
 case round =>
  clear H'
  try clear p2
  obtain ⟨x1_1, x5_1, rfl, rfl, HA, HK1, ⟨m1, rfl⟩⟩ := hrel
  cases gk with
  | zero => exact absurd HA.out (by simp [laws_heldByteSS.l0])
  | succ k1 =>
   have H := HA.out
   clear HA
   simp only [laws_heldByteSS.l0] at H
   by_cases c3 : x5_1 < (l0.length : Int)
   ·rw [if_pos c3] at H
    have c3b0 : decide (x5_1 < (l0.length : Int)) = true := decide_eq_true c3
    clear c3
    by_cases c4 : 0 ≤ x5_1
    ·rw [if_pos c4] at H
     have c4b0 : decide (0 ≤ x5_1) = true := decide_eq_true c4
     clear c4
     replace H := Option.bind_eq_some_iff.mp H
     obtain ⟨t305, A50, H⟩ := H
     replace H : (if t305 < 0 then (some (-1)) else (laws_heldByteSS.l0 k1 l0 t305 (wrap64 (x5_1 + 1)))) = some r := H
     have A5 := Aside0.mk A50
     clear A50
     by_cases c6 : t305 < 0
     ·rw [if_pos c6] at H
      have c6b0 : decide (t305 < 0) = true := decide_eq_true c6
      clear c6
      obtain rfl := Option.some.inj H
      have p304 : 0 ≤ (x5_1 : Int) := od
      have q304 : x5_1 < (l0.length : Int) := od
      obtain ⟨ad304, A304_0, c304_0, e304, hx304_0, hl304_0, hi304_0⟩ := at_L1 HR0.out x5_1 p304 q304
      cases e304
      have HR304_0 := Aside0.mk hi304_0
      have HC304_0 := Aside0.mk hl304_0
      clear hi304_0 hl304_0
      replace p304 := eq_true p304
      replace q304 := eq_true q304
      go_wp2_with (first | ((with_reducible refine gate_callee (f := 39) rfl ?_); refine gl_ (some 17) Try.func39 #[.slice A304_0 (rd_L1 l0 x5_1).length c304_0, .int .i64 x1_1] (h := ?_); (with_reducible refine (laws_heldByteS.calls k1 _ _ (rd_L1 l0 x5_1) x1_1 t305 _ ?side1 ?side2 A5.out).mono ?_); (case side1 => repeat (first | exact HR304_0.out | (with_reducible refine Kd.C_alloc ?_ _) | (with_reducible refine Kd.C_drewN ?_ _) | (with_reducible refine Kd.C_drew ?_))); (case side2 => exact HC304_0.out); rintro e w' ⟨rfl, ⟨nd, rfl⟩⟩; refine ⟨_, rfl, ?_⟩))
      go_ret
      exact ⟨by first | rfl | (simp; done) | (simp [*]; done), by repeat (first | exact Drawn0.refl _ | apply Drawn0.step)⟩
     rw [if_neg c6] at H
     have c6b0 : decide (t305 < 0) = false := decide_eq_false c6
     clear c6
     have H' := Aside0.mk H
     clear H
     have p304 : 0 ≤ (x5_1 : Int) := od
     have q304 : x5_1 < (l0.length : Int) := od
     obtain ⟨ad304, A304_0, c304_0, e304, hx304_0, hl304_0, hi304_0⟩ := at_L1 HR0.out x5_1 p304 q304
     cases e304
     have HR304_0 := Aside0.mk hi304_0
     have HC304_0 := Aside0.mk hl304_0
     clear hi304_0 hl304_0
     replace p304 := eq_true p304
     replace q304 := eq_true q304
     go_wp2_with (first | ((with_reducible refine gate_callee (f := 39) rfl ?_); refine gl_ (some 17) Try.func39 #[.slice A304_0 (rd_L1 l0 x5_1).length c304_0, .int .i64 x1_1] (h := ?_); (with_reducible refine (laws_heldByteS.calls k1 _ _ (rd_L1 l0 x5_1) x1_1 t305 _ ?side1 ?side2 A5.out).mono ?_); (case side1 => repeat (first | exact HR304_0.out | (with_reducible refine Kd.C_alloc ?_ _) | (with_reducible refine Kd.C_drewN ?_ _) | (with_reducible refine Kd.C_drew ?_))); (case side2 => exact HC304_0.out); rintro e w' ⟨rfl, ⟨nd, rfl⟩⟩; refine ⟨_, rfl, ?_⟩))
     go_roundg k1
     case measure => have := HK1.out; omega
     case rel => exact ⟨(t305), (wrap64 (x5_1 + 1)), rs_, rs_, H', ⟨by have := HK1.out; omega⟩, by repeat (first | exact Drawn0.refl _ | apply Drawn0.step)⟩
    rw [if_neg c4] at H
    exact absurd H (by simp)
   rw [if_neg c3] at H
   have c3b0 : decide (x5_1 < (l0.length : Int)) = false := decide_eq_false c3
   clear c3
   obtain rfl := Option.some.inj H
   go_wp2
   go_ret
   exact ⟨by first | rfl | (simp; done) | (simp [*]; done), by repeat (first | exact Drawn0.refl _ | apply Drawn0.step)⟩

end Go.Proofs.Ytdgegnakiljfjaa.PT
