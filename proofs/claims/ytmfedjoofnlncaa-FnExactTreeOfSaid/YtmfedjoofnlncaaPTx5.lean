-- Written for this claim by the session's program pp.py, out of the kit's print and the seat's translation.
import Derived.Test.YtmfedjoofnlncaaPTx0
namespace Go.Proofs.Ytmfedjoofnlncaa.PT
open Go.RowKit Go.Proofs.YtmfedjoofnlncaaW.PrintWords Go.Proofs.YtmfedjoofnlncaaW.PrintLast Go.Proofs.YtmfedjoofnlncaaW.PrintMore
attribute [local go_sem] kR kS nk nu jM jN kT kU   -- for this text's walks alone
set_option linter.unusedVariables false
set_option linter.unusedSimpArgs false
set_option maxHeartbeats 8000000 in
set_option maxRecDepth 100000 in
theorem ag.JL (P : Nat → Prop) (base : Nat) (v : Value) (l : List Int) (a : Int) (w : World) (hr : Kd.R (Kd.int .u8) 5 w base P v l) (h0 : 0 ≤ a) (h1 : a + l.length ≤ 1000000000) :
  Calls Try.prog 12 #[v, .int .i64 a] w fun e w' => e = .returned (.int .i64 (a + l.length)) ∧ Mk w w' P := by
 obtain ⟨A, c, rfl⟩ := Kd.eB hr; have HR := ae hr; clear hr; go_enter Try.func12, Try.ntmps12; go_wp2; go_loopg [1, 5] l.length (fun gg v1 v5 wr => ∃ x : Int, v1 = .int .i64 (a + x) ∧ v5 = .int .i64 x ∧ 0 ≤ x ∧ x ≤ (l.length : Int) ∧ l.length - x.toNat ≤ gg ∧ ai (Mk w wr P))
 case atStart => exact ⟨0, by rw [Int.add_zero], rfl, by omega, by omega, by omega, ⟨Mk.refl w P⟩⟩
 case round =>
  obtain ⟨x, rfl, rfl, hx0, hx1, hg, M⟩ := hrel; by_cases hlt : x < (l.length : Int)
  ·obtain ⟨l', hl', hr'⟩ := Mk.MF M.out (fun _ h => h) HR.o
   have hlt' : x < (l'.length : Int) := by omega
   have c1 : decide (x < (l.length : Int)) = true := decide_eq_true hlt; have HL := ae hlt; have HLL := ae hl'; have HG := ae hg; clear hlt hg; obtain ⟨g, cap, e, hb, hgl, cells, hcell⟩ := Kd.v_ hr' (by omega); injection e with ea en ec; subst ea; obtain ⟨hx, hf⟩ := Kd.Lc 0 hr' x hx0 (by omega); have HP := ae (hr'.1 g rfl); have HR' := ae hr'; clear hr' hcell hgl hb en ec hl' hlt' hx1; have p5 : (0 ≤ x) = True := eq_true hx0; have q5 : (x < (l.length : Int)) = True := eq_true HL.o; go_wp2_with (first | ((with_reducible refine mQ (t := 5) (p := 16) rfl ?_); refine lI (t := 5) (p := 16) (v := ?an_) (w1 := (wr.setCell ⟨g, x.toNat, none⟩ (.int .u8 ((a + x) % 256)))) ?hg ?ho ?hn ?hr ?_; (case ho => rfl); (case hg => rfl); (case hn => rfl); (case hr => first | (go_simp; done) | (go_simp; rfl)); intro w8 hw; have M8 := ae (show Mk w w8 P by rw [hw]; exact Mk.set M.out HP.o hx (.inr (.inl ⟨_, _, _, rfl, rfl⟩))); clear hw))
   go_roundg (l.length - (x.toNat + 1))
   case measure => have := HG.o; have := HL.o; omega
   case rel =>
    have hw1 : wrap64 (a + x + 1) = a + (x + 1) := by rw [zS (by have := HL.o; omega) (by have := HL.o; omega)]; omega
    have hw2 : wrap64 (x + 1) = x + 1 := zS (by have := HL.o; omega) (by have := HL.o; omega); exact ⟨x + 1, by first | rw [hw1] | simp [hw1], by first | rw [hw2] | simp [hw2], by omega, by have := HL.o; omega, by have := HL.o; omega, ⟨M8.out⟩⟩
  have c1 : decide (x < (l.length : Int)) = false := decide_eq_false hlt; have hx : x = (l.length : Int) := by omega
  clear hlt hg; subst hx; go_wp2; go_ret; exact ⟨rfl, M.out⟩
def ag.lU (x : kG) : Nat := x.f0.length + x.f1.length + 2
def ag.Cv (x y : kG) : Prop := x.f0.length = y.f0.length ∧ x.f1.length = y.f1.length
theorem ag.NC (x : kG) (w W : World) (P ok : Nat → Prop) (base : Nat) (cs cs' : List Value) (M : Mk w W P) (hok : ∀ b, ok b → P b) (hm : ym.M w base ok x cs) (hsm : Sm cs cs') : ∃ x', ag.Cv x x' ∧ ym.M W base ok x' cs' := by
 obtain ⟨hl, he⟩ := hsm; obtain ⟨v0, v1, rfl, h0, h1⟩ := Da hm; obtain ⟨A0, c0, rfl⟩ := Kd.eB h0; obtain ⟨A1, c1, rfl⟩ := Kd.eB h1; obtain ⟨u0, hu0, q0⟩ := he 0 _ rfl; obtain ⟨u1, hu1, q1⟩ := he 1 _ rfl; obtain ⟨u2, hu2, q2⟩ := he 2 _ rfl; obtain ⟨u3, hu3, q3⟩ := he 3 _ rfl; obtain rfl := q0.slice; obtain rfl := q1.slice; obtain ⟨i2, rfl⟩ := q2.int; obtain ⟨i3, rfl⟩ := q3.int
 have hcs : cs' = [.slice A0 x.f0.length c0, .slice A1 x.f1.length c1, .int .i64 i2, .int .i64 i3] := by
  match cs', hl, hu0, hu1, hu2, hu3 with
  | [y0, y1, y2, y3], _, a0, a1, a2, a3 => simp at a0 a1 a2 a3; rw [a0, a1, a2, a3]
 subst hcs; obtain ⟨f0, l0, g0⟩ := Mk.MF M hok h0; obtain ⟨f1, l1, g1⟩ := Mk.MF M hok h1; have e := QR W base ok (⟨f0, f1, i2, i3⟩ : kG) (v0 := .slice A0 x.f0.length c0) g0 (v1 := .slice A1 x.f1.length c1) g1; exact ⟨⟨f0, f1, i2, i3⟩, ⟨l0.symm, l1.symm⟩, e⟩
set_option maxHeartbeats 16000000 in
set_option maxRecDepth 100000 in
theorem ag.aeP (P : Nat → Prop) (base : Nat) (v : Value) (l : List kG) (a : Int) (w : World) (hr : Kd.R ym 70 w base P v l) (h0 : 0 ≤ a) (h1 : a + ((l.map ag.lU).sum : Nat) ≤ 1000000000) :
  Calls Try.prog 35 #[v, .int .i64 a] w fun e w' => e = .returned (.int .i64 (a + ((l.map ag.lU).sum : Nat))) ∧ Mk w w' P := by
 obtain ⟨A, c, rfl⟩ := Kd.eB hr; have HR := ae hr; have H0 := ae h0; have H1 := ae h1; clear hr h0 h1; have hu := Try.underlying70; go_enter Try.func35, Try.ntmps35; go_wp2; go_loopg [1, 5] l.length (fun gg v1 v5 wr => ∃ x N1 : Int, v1 = .int .i64 N1 ∧ v5 = .int .i64 x ∧ 0 ≤ x ∧ x ≤ (l.length : Int) ∧ l.length - x.toNat ≤ gg ∧ ai (N1 = a + (((l.take x.toNat).map ag.lU).sum : Nat)) ∧ ai (Mk w wr P))
 case atStart => exact ⟨0, a, rfl, rfl, by omega, by omega, by omega, ⟨by simp⟩, ⟨Mk.refl w P⟩⟩
 case round =>
  obtain ⟨x, N1, rfl, rfl, hx0, hx1, hg, HA, M⟩ := hrel; by_cases hlt : x < (l.length : Int)
  ·have hn : x.toNat < l.length := by omega
   obtain ⟨l', hl', hs', hr'⟩ := Mk.R (s := ag.Cv) M.out (fun _ h => h) HR.o (fun y hy ok' hok' d d' hm' hsm' => ag.NC y w wr P ok' base d d' M.out hok' hm' hsm'); have hn' : x.toNat < l'.length := by omega
   have hE := hs' x.toNat _ _ (List.getElem?_eq_getElem hn) (List.getElem?_eq_getElem hn'); have c1 : decide (x < (l.length : Int)) = true := decide_eq_true hlt; obtain ⟨g, cap, e, hb, hgl, cells, hcell⟩ := Kd.v_ hr' (by omega); injection e with ea en ec; subst ea; obtain ⟨ce, hcl, hM, hcc, hfr⟩ := Kd.yz hr' z70 x hx0 (by omega); rw [List.getD_eq_getElem?_getD, List.getElem?_eq_getElem hn', Option.getD_some] at hM; generalize l'[x.toNat] = y at hE hM; obtain ⟨v0, v1, rfl, hr0, hr1⟩ := Da hM; obtain ⟨A0, c0, rfl⟩ := Kd.eB hr0; obtain ⟨A1, c1, rfl⟩ := Kd.eB hr1; have YL : wr.cell? ⟨g, x.toNat * 4, none⟩ = some (.slice A0 y.f0.length c0) := hcc 0 _ rfl; have JM : wr.cell? ⟨g, x.toNat * 4 + 1, none⟩ = some (.slice A1 y.f1.length c1) := hcc 1 _ rfl; have ND : wr.cell? ⟨g, x.toNat * 4 + 2, none⟩ = some (.int .i64 y.f2) := hcc 2 _ rfl; have Ry : wr.cell? ⟨g, x.toNat * 4 + 3, none⟩ = some (.int .i64 y.f3) := hcc 3 _ rfl; have ahe : wr.frozen? ⟨g, x.toNat * 4 + 2, none⟩ = false := hfr 2; have ark : wr.frozen? ⟨g, x.toNat * 4 + 3, none⟩ = false := hfr 3; have HP := ae (hr'.1 g rfl); have h4 := ae (vQ ag.lU l (x.toNat + 1)); have h5 := ae (y5 ag.lU l x.toNat hn)
   have h6 : ag.lU l[x.toNat] = y.f0.length + y.f1.length + 2 := by
    unfold ag.lU; unfold ag.Cv at hE; rw [hE.1, hE.2]
   have hsum : N1 + (y.f0.length + y.f1.length + 2 : Nat) = a + (((l.take (x.toNat + 1)).map ag.lU).sum : Nat) := by rw [HA.o, h5.out, h6]; omega
   have hle : N1 + (y.f0.length + y.f1.length + 2 : Nat) ≤ 1000000000 := by rw [hsum]; have := h4.out; have := H1.out; omega
   have hA0 : 0 ≤ N1 := by rw [HA.o]; have := H0.out; omega
   have hw0 : wrap64 (N1 + (y.f0.length : Int) + (y.f1.length : Int) + 1) = N1 + (y.f0.length : Int) + (y.f1.length : Int) + 1 := zS (by clear hsum; omega) (by clear hsum; omega); have hw1 : wrap64 (N1 + (y.f0.length : Int) + (y.f1.length : Int) + 1 + 1) = N1 + (y.f0.length : Int) + (y.f1.length : Int) + 1 + 1 := zS (by clear hsum hw0; omega) (by clear hsum hw0; omega); have hwx : wrap64 (x + 1) = x + 1 := zS (by clear hsum hle hw0 hw1; omega) (by have := (Kd.jf HR.o).2.2.2.1; clear hsum hle hw0 hw1; omega); have HL := ae hlt; have HG := ae hg; have mV := ae hr0; have HR1 := ae hr1; have HLE := ae hle; have HA0 := ae hA0; have HSUM := ae hsum
   have SETS := ae (show ∀ w8, Mk wr w8 P → ∀ (b2 : Int) (b3 : Int), Mk wr ((w8.setCell ⟨g, x.toNat * 4 + 2, none⟩ (.int .i64 b2)).setCell ⟨g, x.toNat * 4 + 3, none⟩ (.int .i64 b3)) P from by
    intro w8 m8 b2 b3; obtain ⟨u2, YM, s2⟩ := m8.cell ND; obtain ⟨d2, rfl⟩ := s2.int; have n0 := Mk.set m8 HP.o YM (u' := .int .i64 b2) (.inr (.inl ⟨_, _, _, rfl, rfl⟩)); obtain ⟨u3, ahf, s3⟩ := n0.cell Ry; obtain ⟨d3, rfl⟩ := s3.int; have n1 := Mk.set n0 HP.o ahf (u' := .int .i64 b3) (.inr (.inl ⟨_, _, _, rfl, rfl⟩)); exact n1)
   clear hr' hcell hgl hb en ec hl' hn' hx1 hE hlt hg hr0 hr1 hle hA0 hsum h6 hs' hM hcc hfr hcl h4 h5 hn; have p5 : (0 ≤ x) = True := eq_true hx0; have q5 : (x < (l.length : Int)) = True := eq_true HL.o; go_wp2_with (first | (go_at_call 12; with_reducible refine (ag.JL P base _ y.f0 (N1) _ (Kd.dF mV.o (fun _ h => h.1)) HA0.o (by have := HLE.o; omega)).mono ?_; rintro e w80 ⟨rfl, m8⟩; have M80 := ae (m8); obtain ⟨aDY, axa, s1⟩ := M80.out.cell JM; obtain rfl := s1.slice; obtain ⟨u2_0, aI0, s2⟩ := M80.out.cell ND; obtain ⟨i2_0, rfl⟩ := s2.int; obtain ⟨u3_0, aI1, s3⟩ := M80.out.cell Ry; obtain ⟨i3_0, rfl⟩ := s3.int; have aI2 := M80.out.frz ND ahe; have aI3 := M80.out.frz Ry ark; clear m8) | (go_at_call 12; obtain ⟨r1, lr1, gr1⟩ := Mk.MF M80.out (fun _ (h : P _ ∧ _) => h.1) HR1.o; with_reducible refine (ag.JL P base _ r1 (N1 + (y.f0.length : Int)) _ (Kd.dF gr1 (fun _ h => h.1)) (by have := HA0.o; omega) (by have := HLE.o; have := lr1; omega)).mono ?_; rw [lr1]; rintro e w81 ⟨rfl, m8⟩; have M81 := ae (M80.out.trans m8); obtain ⟨u2_1, aI4, s2⟩ := M81.out.cell ND; obtain ⟨i2_1, rfl⟩ := s2.int; obtain ⟨u3_1, aI5, s3⟩ := M81.out.cell Ry; obtain ⟨i3_1, rfl⟩ := s3.int; have aI6 := M81.out.frz ND ahe; have aI7 := M81.out.frz Ry ark; clear m8))
   go_roundg (l.length - (x.toNat + 1))
   case measure => have := HG.o; have := HL.o; omega
   case rel => exact ⟨x + 1, _, rfl, by first | rw [hwx] | simp [hwx], by omega, by have := HL.o; omega, by have := HL.o; omega, ⟨by have := HSUM.o; rw [show (x + 1).toNat = x.toNat + 1 by omega]; omega⟩, ⟨M.out.trans (SETS.out _ M81.out _ _)⟩⟩
  have c1 : decide (x < (l.length : Int)) = false := decide_eq_false hlt; have hA : N1 = a + ((l.map ag.lU).sum : Nat) := by rw [HA.o, List.take_of_length_le (by omega)]
  clear hlt hg; subst hA; go_wp2; go_ret; exact ⟨rfl, M.out⟩
theorem ag.aeQ (P : Nat → Prop) (base : Nat) (v : Value) (l : List kG) (a : Int) (w1 w : World) (m : Mk w1 w P) (hr : Kd.R ym 70 w1 base P v l) (h0 : 0 ≤ a) (h1 : a + ((l.map ag.lU).sum : Nat) ≤ 1000000000) :
  Calls Try.prog 35 #[v, .int .i64 a] w fun e w' => e = .returned (.int .i64 (a + ((l.map ag.lU).sum : Nat))) ∧ Mk w1 w' P := by
 obtain ⟨l', hl, hs, hr'⟩ := Mk.R (s := ag.Cv) m (fun _ h => h) hr (fun z hz ok' hok' d d' hm' hsm' => ag.NC z w1 w P ok' base d d' m hok' hm' hsm'); have e1 : l.map ag.lU = l'.map ag.lU := Dg ag.lU hl (fun j z z' h h' => by have := hs j z z' h h'; unfold ag.Cv at this; unfold ag.lU; omega); rw [e1] at h1 ⊢; refine (ag.aeP P base v l' a w hr' h0 h1).mono ?_; rintro e w' ⟨rfl, m'⟩; exact ⟨rfl, m.trans m'⟩
def ag.kg (x : lQ) : Nat := x.f0.length + 1
def ag.Ac (x y : lQ) : Prop := x.f0.length = y.f0.length
theorem ag.KE (x : lQ) (w W : World) (P ok : Nat → Prop) (base : Nat) (cs cs' : List Value) (M : Mk w W P) (hok : ∀ b, ok b → P b) (hm : BM.M w base ok x cs) (hsm : Sm cs cs') : ∃ x', ag.Ac x x' ∧ BM.M W base ok x' cs' := by
 obtain ⟨hl, he⟩ := hsm; obtain ⟨v0, rfl, h0⟩ := Db hm; obtain ⟨A0, c0, rfl⟩ := Kd.eB h0; obtain ⟨u0, hu0, q0⟩ := he 0 _ rfl; obtain ⟨u1, hu1, q1⟩ := he 1 _ rfl; obtain rfl := q0.slice; obtain ⟨i1, rfl⟩ := q1.int
 have hcs : cs' = [.slice A0 x.f0.length c0, .int .i64 i1] := by
  match cs', hl, hu0, hu1 with
  | [y0, y1], _, a0, a1 => simp at a0 a1; rw [a0, a1]
 subst hcs; obtain ⟨f0, l0, g0⟩ := Mk.MF M hok h0; have e := QS W base ok (⟨f0, i1⟩ : lQ) (v0 := .slice A0 x.f0.length c0) g0; exact ⟨⟨f0, i1⟩, l0.symm, e⟩
set_option maxHeartbeats 16000000 in
set_option maxRecDepth 100000 in
theorem ag.YN (P : Nat → Prop) (base : Nat) (v : Value) (l : List lQ) (a : Int) (w : World) (hr : Kd.R BM 85 w base P v l) (h0 : 0 ≤ a) (h1 : a + ((l.map ag.kg).sum : Nat) ≤ 1000000000) :
  Calls Try.prog 36 #[v, .int .i64 a] w fun e w' => e = .returned (.int .i64 (a + ((l.map ag.kg).sum : Nat))) ∧ Mk w w' P := by
 obtain ⟨A, c, rfl⟩ := Kd.eB hr; have HR := ae hr; have H0 := ae h0; have H1 := ae h1; clear hr h0 h1; have hu := Try.underlying85; go_enter Try.func36, Try.ntmps36; go_wp2; go_loopg [1, 5] l.length (fun gg v1 v5 wr => ∃ x N1 : Int, v1 = .int .i64 N1 ∧ v5 = .int .i64 x ∧ 0 ≤ x ∧ x ≤ (l.length : Int) ∧ l.length - x.toNat ≤ gg ∧ ai (N1 = a + (((l.take x.toNat).map ag.kg).sum : Nat)) ∧ ai (Mk w wr P))
 case atStart => exact ⟨0, a, rfl, rfl, by omega, by omega, by omega, ⟨by simp⟩, ⟨Mk.refl w P⟩⟩
 case round =>
  obtain ⟨x, N1, rfl, rfl, hx0, hx1, hg, HA, M⟩ := hrel; by_cases hlt : x < (l.length : Int)
  ·have hn : x.toNat < l.length := by omega
   obtain ⟨l', hl', hs', hr'⟩ := Mk.R (s := ag.Ac) M.out (fun _ h => h) HR.o (fun y hy ok' hok' d d' hm' hsm' => ag.KE y w wr P ok' base d d' M.out hok' hm' hsm'); have hn' : x.toNat < l'.length := by omega
   have hE := hs' x.toNat _ _ (List.getElem?_eq_getElem hn) (List.getElem?_eq_getElem hn'); have c1 : decide (x < (l.length : Int)) = true := decide_eq_true hlt; obtain ⟨g, cap, e, hb, hgl, cells, hcell⟩ := Kd.v_ hr' (by omega); injection e with ea en ec; subst ea; obtain ⟨ce, hcl, hM, hcc, hfr⟩ := Kd.yz hr' z85 x hx0 (by omega); rw [List.getD_eq_getElem?_getD, List.getElem?_eq_getElem hn', Option.getD_some] at hM; generalize l'[x.toNat] = y at hE hM; obtain ⟨v0, rfl, hr0⟩ := Db hM; obtain ⟨A0, c0, rfl⟩ := Kd.eB hr0; have YL : wr.cell? ⟨g, x.toNat * 2, none⟩ = some (.slice A0 y.f0.length c0) := hcc 0 _ rfl; have JM : wr.cell? ⟨g, x.toNat * 2 + 1, none⟩ = some (.int .i64 y.f1) := hcc 1 _ rfl; have ahh : wr.frozen? ⟨g, x.toNat * 2 + 1, none⟩ = false := hfr 1; have HP := ae (hr'.1 g rfl); have h4 := ae (vQ ag.kg l (x.toNat + 1)); have h5 := ae (y5 ag.kg l x.toNat hn)
   have h6 : ag.kg l[x.toNat] = y.f0.length + 1 := by
    unfold ag.kg; unfold ag.Ac at hE; rw [hE]
   have hsum : N1 + (y.f0.length + 1 : Nat) = a + (((l.take (x.toNat + 1)).map ag.kg).sum : Nat) := by rw [HA.o, h5.out, h6]; omega
   have hle : N1 + (y.f0.length + 1 : Nat) ≤ 1000000000 := by rw [hsum]; have := h4.out; have := H1.out; omega
   have hA0 : 0 ≤ N1 := by rw [HA.o]; have := H0.out; omega
   have hw0 : wrap64 (N1 + (y.f0.length : Int) + 1) = N1 + (y.f0.length : Int) + 1 := zS (by clear hsum; omega) (by clear hsum; omega); have hwx : wrap64 (x + 1) = x + 1 := zS (by clear hsum hle hw0; omega) (by have := (Kd.jf HR.o).2.2.2.1; clear hsum hle hw0; omega); have HL := ae hlt; have HG := ae hg; have mV := ae hr0; have HLE := ae hle; have HA0 := ae hA0; have HSUM := ae hsum
   have SETS := ae (show ∀ w8, Mk wr w8 P → ∀ (b1 : Int), Mk wr (w8.setCell ⟨g, x.toNat * 2 + 1, none⟩ (.int .i64 b1)) P from by
    intro w8 m8 b1; obtain ⟨u1, Rz, s1⟩ := m8.cell JM; obtain ⟨d1, rfl⟩ := s1.int; have n0 := Mk.set m8 HP.o Rz (u' := .int .i64 b1) (.inr (.inl ⟨_, _, _, rfl, rfl⟩)); exact n0)
   clear hr' hcell hgl hb en ec hl' hn' hx1 hE hlt hg hr0 hle hA0 hsum h6 hs' hM hcc hfr hcl h4 h5 hn; have p5 : (0 ≤ x) = True := eq_true hx0; have q5 : (x < (l.length : Int)) = True := eq_true HL.o; go_wp2_with (first | (go_at_call 12; with_reducible refine (ag.JL P base _ y.f0 (N1) _ (Kd.dF mV.o (fun _ h => h.1)) HA0.o (by have := HLE.o; omega)).mono ?_; rintro e w80 ⟨rfl, m8⟩; have M80 := ae (m8); obtain ⟨aDY, axa, s1⟩ := M80.out.cell JM; obtain ⟨i1_0, rfl⟩ := s1.int; have aI8 := M80.out.frz JM ahh; clear m8))
   go_roundg (l.length - (x.toNat + 1))
   case measure => have := HG.o; have := HL.o; omega
   case rel => exact ⟨x + 1, _, rfl, by first | rw [hwx] | simp [hwx], by omega, by have := HL.o; omega, by have := HL.o; omega, ⟨by have := HSUM.o; rw [show (x + 1).toNat = x.toNat + 1 by omega]; omega⟩, ⟨M.out.trans (SETS.out _ M80.out _)⟩⟩
  have c1 : decide (x < (l.length : Int)) = false := decide_eq_false hlt; have hA : N1 = a + ((l.map ag.kg).sum : Nat) := by rw [HA.o, List.take_of_length_le (by omega)]
  clear hlt hg; subst hA; go_wp2; go_ret; exact ⟨rfl, M.out⟩
theorem ag.YO (P : Nat → Prop) (base : Nat) (v : Value) (l : List lQ) (a : Int) (w1 w : World) (m : Mk w1 w P) (hr : Kd.R BM 85 w1 base P v l) (h0 : 0 ≤ a) (h1 : a + ((l.map ag.kg).sum : Nat) ≤ 1000000000) :
  Calls Try.prog 36 #[v, .int .i64 a] w fun e w' => e = .returned (.int .i64 (a + ((l.map ag.kg).sum : Nat))) ∧ Mk w1 w' P := by
 obtain ⟨l', hl, hs, hr'⟩ := Mk.R (s := ag.Ac) m (fun _ h => h) hr (fun z hz ok' hok' d d' hm' hsm' => ag.KE z w1 w P ok' base d d' m hok' hm' hsm'); have e1 : l.map ag.kg = l'.map ag.kg := Dg ag.kg hl (fun j z z' h h' => by have := hs j z z' h h'; unfold ag.Ac at this; unfold ag.kg; omega); rw [e1] at h1 ⊢; refine (ag.YN P base v l' a w hr' h0 h1).mono ?_; rintro e w' ⟨rfl, m'⟩; exact ⟨rfl, m.trans m'⟩
def ag.mI (x : l7) : Nat := 2
def ag.GV (x y : l7) : Prop := True
theorem ag.NF (x : l7) (w W : World) (P ok : Nat → Prop) (base : Nat) (cs cs' : List Value) (M : Mk w W P) (hok : ∀ b, ok b → P b) (hm : BN.M w base ok x cs) (hsm : Sm cs cs') : ∃ x', ag.GV x x' ∧ BN.M W base ok x' cs' := by
 obtain ⟨hl, he⟩ := hsm; obtain rfl := Dc hm; obtain ⟨u0, hu0, q0⟩ := he 0 _ rfl; obtain ⟨u1, hu1, q1⟩ := he 1 _ rfl; obtain ⟨i0, rfl⟩ := q0.int; obtain ⟨i1, rfl⟩ := q1.bool
 have hcs : cs' = [.int .i64 i0, .bool i1] := by
  match cs', hl, hu0, hu1 with
  | [y0, y1], _, a0, a1 => simp at a0 a1; rw [a0, a1]
 subst hcs; have e := QT W base ok (⟨i0, i1⟩ : l7); exact ⟨⟨i0, i1⟩, trivial, e⟩
set_option maxHeartbeats 16000000 in
set_option maxRecDepth 100000 in
theorem ag.aeR (P : Nat → Prop) (base : Nat) (v : Value) (l : List l7) (a : Int) (w : World) (hr : Kd.R BN 88 w base P v l) (h0 : 0 ≤ a) (h1 : a + ((l.map ag.mI).sum : Nat) ≤ 1000000000) :
  Calls Try.prog 37 #[v, .int .i64 a] w fun e w' => e = .returned (.int .i64 (a + ((l.map ag.mI).sum : Nat))) ∧ Mk w w' P := by
 obtain ⟨A, c, rfl⟩ := Kd.eB hr; have HR := ae hr; have H0 := ae h0; have H1 := ae h1; clear hr h0 h1; have hu := Try.underlying88; go_enter Try.func37, Try.ntmps37; go_wp2; go_loopg [1, 5] l.length (fun gg v1 v5 wr => ∃ x N1 : Int, v1 = .int .i64 N1 ∧ v5 = .int .i64 x ∧ 0 ≤ x ∧ x ≤ (l.length : Int) ∧ l.length - x.toNat ≤ gg ∧ ai (N1 = a + (((l.take x.toNat).map ag.mI).sum : Nat)) ∧ ai (Mk w wr P))
 case atStart => exact ⟨0, a, rfl, rfl, by omega, by omega, by omega, ⟨by simp⟩, ⟨Mk.refl w P⟩⟩
 case round =>
  obtain ⟨x, N1, rfl, rfl, hx0, hx1, hg, HA, M⟩ := hrel; by_cases hlt : x < (l.length : Int)
  ·have hn : x.toNat < l.length := by omega
   obtain ⟨l', hl', hs', hr'⟩ := Mk.R (s := ag.GV) M.out (fun _ h => h) HR.o (fun y hy ok' hok' d d' hm' hsm' => ag.NF y w wr P ok' base d d' M.out hok' hm' hsm'); have hn' : x.toNat < l'.length := by omega
   have hE := hs' x.toNat _ _ (List.getElem?_eq_getElem hn) (List.getElem?_eq_getElem hn'); have c1 : decide (x < (l.length : Int)) = true := decide_eq_true hlt; obtain ⟨g, cap, e, hb, hgl, cells, hcell⟩ := Kd.v_ hr' (by omega); injection e with ea en ec; subst ea; obtain ⟨ce, hcl, hM, hcc, hfr⟩ := Kd.yz hr' z88 x hx0 (by omega); rw [List.getD_eq_getElem?_getD, List.getElem?_eq_getElem hn', Option.getD_some] at hM; generalize l'[x.toNat] = y at hE hM; obtain rfl := Dc hM; have YL : wr.cell? ⟨g, x.toNat * 2, none⟩ = some (.int .i64 y.f0) := hcc 0 _ rfl; have JM : wr.cell? ⟨g, x.toNat * 2 + 1, none⟩ = some (.bool y.f1) := hcc 1 _ rfl; have aDZ : wr.frozen? ⟨g, x.toNat * 2, none⟩ = false := hfr 0; have ahh : wr.frozen? ⟨g, x.toNat * 2 + 1, none⟩ = false := hfr 1; have HP := ae (hr'.1 g rfl); have h4 := ae (vQ ag.mI l (x.toNat + 1)); have h5 := ae (y5 ag.mI l x.toNat hn)
   have h6 : ag.mI l[x.toNat] = 2 := by
    unfold ag.mI; rfl
   have hsum : N1 + (2 : Nat) = a + (((l.take (x.toNat + 1)).map ag.mI).sum : Nat) := by rw [HA.o, h5.out, h6]; omega
   have hle : N1 + (2 : Nat) ≤ 1000000000 := by rw [hsum]; have := h4.out; have := H1.out; omega
   have hA0 : 0 ≤ N1 := by rw [HA.o]; have := H0.out; omega
   have hw0 : wrap64 (N1 + 1) = N1 + 1 := zS (by clear hsum; omega) (by clear hsum; omega); have hw1 : wrap64 (N1 + 1 + 1) = N1 + 1 + 1 := zS (by clear hsum hw0; omega) (by clear hsum hw0; omega); have hwx : wrap64 (x + 1) = x + 1 := zS (by clear hsum hle hw0 hw1; omega) (by have := (Kd.jf HR.o).2.2.2.1; clear hsum hle hw0 hw1; omega); have HL := ae hlt; have HG := ae hg; have HLE := ae hle; have HA0 := ae hA0; have HSUM := ae hsum
   have SETS := ae (show ∀ w8, Mk wr w8 P → ∀ (b0 : Int) (b1 : Bool), Mk wr ((w8.setCell ⟨g, x.toNat * 2, none⟩ (.int .i64 b0)).setCell ⟨g, x.toNat * 2 + 1, none⟩ (.bool b1)) P from by
    intro w8 m8 b0 b1; obtain ⟨u0, arl, s0⟩ := m8.cell YL; obtain ⟨d0, rfl⟩ := s0.int; have n0 := Mk.set m8 HP.o arl (u' := .int .i64 b0) (.inr (.inl ⟨_, _, _, rfl, rfl⟩)); obtain ⟨u1, Rz, s1⟩ := n0.cell JM; obtain ⟨d1, rfl⟩ := s1.bool; have n1 := Mk.set n0 HP.o Rz (u' := .bool b1) (.inr (.inr ⟨_, _, rfl, rfl⟩)); exact n1)
   clear hr' hcell hgl hb en ec hl' hn' hx1 hE hlt hg hle hA0 hsum h6 hs' hM hcc hfr hcl h4 h5 hn; have p5 : (0 ≤ x) = True := eq_true hx0; have q5 : (x < (l.length : Int)) = True := eq_true HL.o; go_wp2; go_roundg (l.length - (x.toNat + 1))
   case measure => have := HG.o; have := HL.o; omega
   case rel => exact ⟨x + 1, _, rfl, by first | rw [hwx] | simp [hwx], by omega, by have := HL.o; omega, by have := HL.o; omega, ⟨by have := HSUM.o; rw [show (x + 1).toNat = x.toNat + 1 by omega]; omega⟩, ⟨M.out.trans (SETS.out _ (Mk.refl wr P) _ _)⟩⟩
  have c1 : decide (x < (l.length : Int)) = false := decide_eq_false hlt; have hA : N1 = a + ((l.map ag.mI).sum : Nat) := by rw [HA.o, List.take_of_length_le (by omega)]
  clear hlt hg; subst hA; go_wp2; go_ret; exact ⟨rfl, M.out⟩
theorem ag.aeS (P : Nat → Prop) (base : Nat) (v : Value) (l : List l7) (a : Int) (w1 w : World) (m : Mk w1 w P) (hr : Kd.R BN 88 w1 base P v l) (h0 : 0 ≤ a) (h1 : a + ((l.map ag.mI).sum : Nat) ≤ 1000000000) :
  Calls Try.prog 37 #[v, .int .i64 a] w fun e w' => e = .returned (.int .i64 (a + ((l.map ag.mI).sum : Nat))) ∧ Mk w1 w' P := by
 obtain ⟨l', hl, hs, hr'⟩ := Mk.R (s := ag.GV) m (fun _ h => h) hr (fun z hz ok' hok' d d' hm' hsm' => ag.NF z w1 w P ok' base d d' m hok' hm' hsm'); have e1 : l.map ag.mI = l'.map ag.mI := Dg ag.mI hl (fun j z z' h h' => by have := hs j z z' h h'; unfold ag.GV at this; unfold ag.mI; omega); rw [e1] at h1 ⊢; refine (ag.aeR P base v l' a w hr' h0 h1).mono ?_; rintro e w' ⟨rfl, m'⟩; exact ⟨rfl, m.trans m'⟩
def ag.lv (x : mE) : Nat := 4
def ag.Dr (x y : mE) : Prop := True
theorem ag.KF (x : mE) (w W : World) (P ok : Nat → Prop) (base : Nat) (cs cs' : List Value) (M : Mk w W P) (hok : ∀ b, ok b → P b) (hm : Av.M w base ok x cs) (hsm : Sm cs cs') : ∃ x', ag.Dr x x' ∧ Av.M W base ok x' cs' := by
 obtain ⟨hl, he⟩ := hsm; obtain rfl := De hm; obtain ⟨u0, hu0, q0⟩ := he 0 _ rfl; obtain ⟨u1, hu1, q1⟩ := he 1 _ rfl; obtain ⟨u2, hu2, q2⟩ := he 2 _ rfl; obtain ⟨u3, hu3, q3⟩ := he 3 _ rfl; obtain ⟨i0, rfl⟩ := q0.int; obtain ⟨i1, rfl⟩ := q1.int; obtain ⟨i2, rfl⟩ := q2.int; obtain ⟨i3, rfl⟩ := q3.int
 have hcs : cs' = [.int .i64 i0, .int .i64 i1, .int .i64 i2, .int .i64 i3] := by
  match cs', hl, hu0, hu1, hu2, hu3 with
  | [y0, y1, y2, y3], _, a0, a1, a2, a3 => simp at a0 a1 a2 a3; rw [a0, a1, a2, a3]
 subst hcs; have e := QU W base ok (⟨i0, i1, ⟨i2, i3⟩⟩ : mE); exact ⟨⟨i0, i1, ⟨i2, i3⟩⟩, trivial, e⟩
set_option maxHeartbeats 16000000 in
set_option maxRecDepth 100000 in
theorem ag.YP (P : Nat → Prop) (base : Nat) (v : Value) (l : List mE) (a : Int) (w : World) (hr : Kd.R Av 92 w base P v l) (h0 : 0 ≤ a) (h1 : a + ((l.map ag.lv).sum : Nat) ≤ 1000000000) :
  Calls Try.prog 38 #[v, .int .i64 a] w fun e w' => e = .returned (.int .i64 (a + ((l.map ag.lv).sum : Nat))) ∧ Mk w w' P := by
 obtain ⟨A, c, rfl⟩ := Kd.eB hr; have HR := ae hr; have H0 := ae h0; have H1 := ae h1; clear hr h0 h1; have hu := Try.underlying92; have huz := Try.underlying90; go_enter Try.func38, Try.ntmps38; go_wp2; go_loopg [1, 5] l.length (fun gg v1 v5 wr => ∃ x N1 : Int, v1 = .int .i64 N1 ∧ v5 = .int .i64 x ∧ 0 ≤ x ∧ x ≤ (l.length : Int) ∧ l.length - x.toNat ≤ gg ∧ ai (N1 = a + (((l.take x.toNat).map ag.lv).sum : Nat)) ∧ ai (Mk w wr P))
 case atStart => exact ⟨0, a, rfl, rfl, by omega, by omega, by omega, ⟨by simp⟩, ⟨Mk.refl w P⟩⟩
 case round =>
  obtain ⟨x, N1, rfl, rfl, hx0, hx1, hg, HA, M⟩ := hrel; by_cases hlt : x < (l.length : Int)
  ·have hn : x.toNat < l.length := by omega
   obtain ⟨l', hl', hs', hr'⟩ := Mk.R (s := ag.Dr) M.out (fun _ h => h) HR.o (fun y hy ok' hok' d d' hm' hsm' => ag.KF y w wr P ok' base d d' M.out hok' hm' hsm'); have hn' : x.toNat < l'.length := by omega
   have hE := hs' x.toNat _ _ (List.getElem?_eq_getElem hn) (List.getElem?_eq_getElem hn'); have c1 : decide (x < (l.length : Int)) = true := decide_eq_true hlt; obtain ⟨g, cap, e, hb, hgl, cells, hcell⟩ := Kd.v_ hr' (by omega); injection e with ea en ec; subst ea; obtain ⟨ce, hcl, hM, hcc, hfr⟩ := Kd.yz hr' z92 x hx0 (by omega); rw [List.getD_eq_getElem?_getD, List.getElem?_eq_getElem hn', Option.getD_some] at hM; generalize l'[x.toNat] = y at hE hM; obtain rfl := De hM; have YL : wr.cell? ⟨g, x.toNat * 4, none⟩ = some (.int .i64 y.f0) := hcc 0 _ rfl; have JM : wr.cell? ⟨g, x.toNat * 4 + 1, none⟩ = some (.int .i64 y.f1) := hcc 1 _ rfl; have ND : wr.cell? ⟨g, x.toNat * 4 + 2, none⟩ = some (.int .i64 y.f2.f0) := hcc 2 _ rfl; have Ry : wr.cell? ⟨g, x.toNat * 4 + 3, none⟩ = some (.int .i64 y.f2.f1) := hcc 3 _ rfl; have aDZ : wr.frozen? ⟨g, x.toNat * 4, none⟩ = false := hfr 0; have ahh : wr.frozen? ⟨g, x.toNat * 4 + 1, none⟩ = false := hfr 1; have ahe : wr.frozen? ⟨g, x.toNat * 4 + 2, none⟩ = false := hfr 2; have ark : wr.frozen? ⟨g, x.toNat * 4 + 3, none⟩ = false := hfr 3; have HP := ae (hr'.1 g rfl); have h4 := ae (vQ ag.lv l (x.toNat + 1)); have h5 := ae (y5 ag.lv l x.toNat hn)
   have h6 : ag.lv l[x.toNat] = 4 := by
    unfold ag.lv; rfl
   have hsum : N1 + (4 : Nat) = a + (((l.take (x.toNat + 1)).map ag.lv).sum : Nat) := by rw [HA.o, h5.out, h6]; omega
   have hle : N1 + (4 : Nat) ≤ 1000000000 := by rw [hsum]; have := h4.out; have := H1.out; omega
   have hA0 : 0 ≤ N1 := by rw [HA.o]; have := H0.out; omega
   have hw0 : wrap64 (N1 + 1) = N1 + 1 := zS (by clear hsum; omega) (by clear hsum; omega); have hw1 : wrap64 (N1 + 1 + 1) = N1 + 1 + 1 := zS (by clear hsum hw0; omega) (by clear hsum hw0; omega); have hw2 : wrap64 (N1 + 1 + 1 + 1) = N1 + 1 + 1 + 1 := zS (by clear hsum hw0 hw1; omega) (by clear hsum hw0 hw1; omega); have hw3 : wrap64 (N1 + 1 + 1 + 1 + 1) = N1 + 1 + 1 + 1 + 1 := zS (by clear hsum hw0 hw1 hw2; omega) (by clear hsum hw0 hw1 hw2; omega); have hwx : wrap64 (x + 1) = x + 1 := zS (by clear hsum hle hw0 hw1 hw2 hw3; omega) (by have := (Kd.jf HR.o).2.2.2.1; clear hsum hle hw0 hw1 hw2 hw3; omega); have HL := ae hlt; have HG := ae hg; have HLE := ae hle; have HA0 := ae hA0; have HSUM := ae hsum
   have SETS := ae (show ∀ w8, Mk wr w8 P → ∀ (b0 : Int) (b1 : Int) (b2 : Int) (b3 : Int), Mk wr ((((w8.setCell ⟨g, x.toNat * 4, none⟩ (.int .i64 b0)).setCell ⟨g, x.toNat * 4 + 1, none⟩ (.int .i64 b1)).setCell ⟨g, x.toNat * 4 + 2, none⟩ (.int .i64 b2)).setCell ⟨g, x.toNat * 4 + 3, none⟩ (.int .i64 b3)) P from by
    intro w8 m8 b0 b1 b2 b3; obtain ⟨u0, arl, s0⟩ := m8.cell YL; obtain ⟨d0, rfl⟩ := s0.int; have n0 := Mk.set m8 HP.o arl (u' := .int .i64 b0) (.inr (.inl ⟨_, _, _, rfl, rfl⟩)); obtain ⟨u1, Rz, s1⟩ := n0.cell JM; obtain ⟨d1, rfl⟩ := s1.int; have n1 := Mk.set n0 HP.o Rz (u' := .int .i64 b1) (.inr (.inl ⟨_, _, _, rfl, rfl⟩)); obtain ⟨u2, YM, s2⟩ := n1.cell ND; obtain ⟨d2, rfl⟩ := s2.int; have n2 := Mk.set n1 HP.o YM (u' := .int .i64 b2) (.inr (.inl ⟨_, _, _, rfl, rfl⟩)); obtain ⟨u3, ahf, s3⟩ := n2.cell Ry; obtain ⟨d3, rfl⟩ := s3.int; have n3 := Mk.set n2 HP.o ahf (u' := .int .i64 b3) (.inr (.inl ⟨_, _, _, rfl, rfl⟩)); exact n3)
   clear hr' hcell hgl hb en ec hl' hn' hx1 hE hlt hg hle hA0 hsum h6 hs' hM hcc hfr hcl h4 h5 hn; have p5 : (0 ≤ x) = True := eq_true hx0; have q5 : (x < (l.length : Int)) = True := eq_true HL.o; go_wp2; go_roundg (l.length - (x.toNat + 1))
   case measure => have := HG.o; have := HL.o; omega
   case rel => exact ⟨x + 1, _, rfl, by first | rw [hwx] | simp [hwx], by omega, by have := HL.o; omega, by have := HL.o; omega, ⟨by have := HSUM.o; rw [show (x + 1).toNat = x.toNat + 1 by omega]; omega⟩, ⟨M.out.trans (SETS.out _ (Mk.refl wr P) _ _ _ _)⟩⟩
  have c1 : decide (x < (l.length : Int)) = false := decide_eq_false hlt; have hA : N1 = a + ((l.map ag.lv).sum : Nat) := by rw [HA.o, List.take_of_length_le (by omega)]
  clear hlt hg; subst hA; go_wp2; go_ret; exact ⟨rfl, M.out⟩
theorem ag.YQ (P : Nat → Prop) (base : Nat) (v : Value) (l : List mE) (a : Int) (w1 w : World) (m : Mk w1 w P) (hr : Kd.R Av 92 w1 base P v l) (h0 : 0 ≤ a) (h1 : a + ((l.map ag.lv).sum : Nat) ≤ 1000000000) :
  Calls Try.prog 38 #[v, .int .i64 a] w fun e w' => e = .returned (.int .i64 (a + ((l.map ag.lv).sum : Nat))) ∧ Mk w1 w' P := by
 obtain ⟨l', hl, hs, hr'⟩ := Mk.R (s := ag.Dr) m (fun _ h => h) hr (fun z hz ok' hok' d d' hm' hsm' => ag.KF z w1 w P ok' base d d' m hok' hm' hsm'); have e1 : l.map ag.lv = l'.map ag.lv := Dg ag.lv hl (fun j z z' h h' => by have := hs j z z' h h'; unfold ag.Dr at this; unfold ag.lv; omega); rw [e1] at h1 ⊢; refine (ag.YP P base v l' a w hr' h0 h1).mono ?_; rintro e w' ⟨rfl, m'⟩; exact ⟨rfl, m.trans m'⟩
def ag.f (a0 : Int) (l1 : List kG) (l2 : List lQ) (a3 : Int) (l4 : List l7) (l5 : List mE) (a6 : Int) : Option Int := if 0 ≤ a6 ∧ a6 + ((l1.map ag.lU).sum : Nat) + ((l2.map ag.kg).sum : Nat) + ((l4.map ag.mI).sum : Nat) + ((l5.map ag.lv).sum : Nat) ≤ 1000000000 then some (a6 + ((l1.map ag.lU).sum : Nat) + ((l2.map ag.kg).sum : Nat) + ((l4.map ag.mI).sum : Nat) + ((l5.map ag.lv).sum : Nat)) else none
set_option maxHeartbeats 16000000 in
set_option maxRecDepth 100000 in
theorem ag.calls (a0 : Int) (jl : Nat → Prop) (u1 : Value) (l1 : List kG) (P2_ : Nat → Prop) (u2 : Value) (l2 : List lQ) (a3 : Int) (P4_ : Nat → Prop) (u4 : Value) (l4 : List l7) (P5_ : Nat → Prop) (u5 : Value) (l5 : List mE) (a6 : Int) (r : Int) (w0 w : World) (hB : Below w0.heap.size w0 w) (ho1 : Kd.R ym 70 w w0.heap.size jl u1 l1) (ho2 : Kd.R BM 85 w w0.heap.size P2_ u2 l2) (ho4 : Kd.R BN 88 w w0.heap.size P4_ u4 l4) (DT : Kd.R Av 92 w w0.heap.size P5_ u5 l5) (h : ag.f a0 l1 l2 a3 l4 l5 a6 = some r) :
  Calls Try.prog 11 #[.agg #[.int .i64 a0, u1, u2, .int .i64 a3, u4, u5], .int .i64 a6] w fun e w' => e = .returned (.int .i64 r) ∧ Below w0.heap.size w0 w' ∧ Kept w w' (fun k_ => jl k_ ∨ P2_ k_ ∨ P4_ k_ ∨ P5_ k_) := by
 have hu := Try.underlying37; unfold ag.f at h; split at h
 case isFalse => cases h
 case isTrue hh =>
 obtain rfl := Option.some.inj h; clear h; obtain ⟨h0, h1⟩ := hh; obtain ⟨A1, c1, rfl⟩ := Kd.eB ho1; obtain ⟨A2, c2, rfl⟩ := Kd.eB ho2; obtain ⟨A4, c4, rfl⟩ := Kd.eB ho4; obtain ⟨A5, c5, rfl⟩ := Kd.eB DT; have uP := ae (Kd.dF (ok' := (fun b => (jl b ∨ P2_ b ∨ P4_ b ∨ P5_ b) ∧ w0.heap.size ≤ b ∧ b < w.heap.size)) (Kd.jY ho1) (fun _ h => ⟨(.inl h.1), h.2.1, h.2.2.1⟩)); have HO2 := ae (Kd.dF (ok' := (fun b => (jl b ∨ P2_ b ∨ P4_ b ∨ P5_ b) ∧ w0.heap.size ≤ b ∧ b < w.heap.size)) (Kd.jY ho2) (fun _ h => ⟨(.inr (.inl h.1)), h.2.1, h.2.2.1⟩)); have HO4 := ae (Kd.dF (ok' := (fun b => (jl b ∨ P2_ b ∨ P4_ b ∨ P5_ b) ∧ w0.heap.size ≤ b ∧ b < w.heap.size)) (Kd.jY ho4) (fun _ h => ⟨(.inr (.inr (.inl h.1))), h.2.1, h.2.2.1⟩)); have HO5 := ae (Kd.dF (ok' := (fun b => (jl b ∨ P2_ b ∨ P4_ b ∨ P5_ b) ∧ w0.heap.size ≤ b ∧ b < w.heap.size)) (Kd.jY DT) (fun _ h => ⟨(.inr (.inr (.inr h.1))), h.2.1, h.2.2.1⟩)); have HBB := ae hB; have H0 := ae h0; have H1 := ae h1; clear ho1 ho2 ho4 DT hB h0 h1; go_enter Try.func11, Try.ntmps11; go_wp2_with (first | ((with_reducible refine aD (N := 2) rfl ?_); refine je 2 #[.int .i64 a0, .slice A1 l1.length c1, .slice A2 l2.length c2, .int .i64 a3, .slice A4 l4.length c4, .slice A5 l5.length c5] 37 (h := ?_); intro Jo hg w1 hbox hb; have E5 := ae (hbox); have HG1 := ae hg; have HB1 := ae hb; have M1 := ae (Mk.refl w1 (fun b => (jl b ∨ P2_ b ∨ P4_ b ∨ P5_ b) ∧ w0.heap.size ≤ b ∧ b < w.heap.size)); clear hb hbox hg; have axc : w1.cell? ⟨Jo, 1, none⟩ = some (.slice A1 l1.length c1) := (aY E5.o 1).trans rfl) | (go_at_call 35; refine (ag.aeQ _ _ _ l1 (a6) w1 _ M1.out (Kd.rG uP.o HB1.o) (by have := H0.out; omega) (by have := H1.out; omega)).mono ?_; rintro e w2 ⟨rfl, m_⟩; have M2 := ae m_; have BK2 := ae (oW E5.o m_.kept (fun h => by have := h.2.2; have := HG1.o; omega)); have C2_2 : w2.cell? ⟨Jo, 2, none⟩ = some (.slice A2 l2.length c2) := (aY BK2.o 2).trans rfl; clear m_) | (go_at_call 36; refine (ag.YO _ _ _ l2 (a6 + ((l1.map ag.lU).sum : Nat)) w1 _ M2.out (Kd.rG HO2.o HB1.o) (by have := H0.out; omega) (by have := H1.out; omega)).mono ?_; rintro e w3 ⟨rfl, m_⟩; have M3 := ae m_; have BK3 := ae (oW E5.o m_.kept (fun h => by have := h.2.2; have := HG1.o; omega)); have C3_4 : w3.cell? ⟨Jo, 4, none⟩ = some (.slice A4 l4.length c4) := (aY BK3.o 4).trans rfl; clear m_) | (go_at_call 37; refine (ag.aeS _ _ _ l4 (a6 + ((l1.map ag.lU).sum : Nat) + ((l2.map ag.kg).sum : Nat)) w1 _ M3.out (Kd.rG HO4.o HB1.o) (by have := H0.out; omega) (by have := H1.out; omega)).mono ?_; rintro e w4 ⟨rfl, m_⟩; have M4 := ae m_; have BK4 := ae (oW E5.o m_.kept (fun h => by have := h.2.2; have := HG1.o; omega)); have C4_5 : w4.cell? ⟨Jo, 5, none⟩ = some (.slice A5 l5.length c5) := (aY BK4.o 5).trans rfl; clear m_) | (go_at_call 38; refine (ag.YQ _ _ _ l5 (a6 + ((l1.map ag.lU).sum : Nat) + ((l2.map ag.kg).sum : Nat) + ((l4.map ag.mI).sum : Nat)) w1 _ M4.out (Kd.rG HO5.o HB1.o) (by have := H0.out; omega) (by have := H1.out; omega)).mono ?_; rintro e w5 ⟨rfl, m_⟩; have M5 := ae m_; clear m_))
 go_ret; have mm := Mk.newer HB1.o M5.out (fun _ h => h.2.2); exact ⟨rfl, mm.below HBB.o (fun _ h => h.2.1), mm.kept.mono (fun _ h => h.1)⟩
def ko.f (a0 : Int) : Option (Bool) := if a0 ≥ 0 then (some (decide (a0 ≤ 1000000))) else (some false)
set_option maxHeartbeats 8000000 in
set_option maxRecDepth 100000 in
theorem ko.calls (a0 : Int) (r : Bool) (w : World) (h : ko.f a0 = some r) :
  Calls Try.prog 47 #[.int .i64 a0] w fun e w' => e = .returned (.bool r) ∧ bC w w' := by
 rw [ko.f] at h; have H := h; clear h; by_cases c2 : a0 ≥ 0
 ·rw [if_pos c2] at H
  have JG : decide (0 ≤ a0) = true := decide_eq_true c2; clear c2; obtain rfl := Option.some.inj H; go_enter Try.func47, Try.ntmps47; go_wp2; go_ret; exact ⟨by first | rfl | (simp; done) | (simp [*]; done), by repeat (first | exact bC.refl _ | apply bC.step)⟩
 rw [if_neg c2] at H; have JG : decide (0 ≤ a0) = false := decide_eq_false c2; clear c2; obtain rfl := Option.some.inj H; go_enter Try.func47, Try.ntmps47; go_wp2; go_ret; exact ⟨by first | rfl | (simp; done) | (simp [*]; done), by repeat (first | exact bC.refl _ | apply bC.step)⟩
mutual
def fD.j0 : Nat → List Int → Bool → Option (Bool)
 | 0, _, _ => none
 | k + 1, x0, x11 => if x11 = true then (some false) else (fD.l0 k x0 0)
def fD.l0 : Nat → List Int → Int → Option (Bool)
 | 0, _, _ => none
 | k + 1, x0, x3 => if x3 < (x0.length : Int) then (if 0 ≤ x3 then (if (rd x0 x3) < 97 then (if (rd x0 x3) = 47 then (fD.l0 k x0 (wrap64 (x3 + 1))) else (some false)) else (if (rd x0 x3) > 122 then (if (rd x0 x3) = 47 then (fD.l0 k x0 (wrap64 (x3 + 1))) else (some false)) else (fD.l0 k x0 (wrap64 (x3 + 1))))) else (none)) else (some true)
end
def fD.f (k : Nat) (l0 : List Int) : Option (Bool) := if (l0.length : Int) < 1 then (fD.j0 k l0 true) else (fD.j0 k l0 (decide ((l0.length : Int) > 20)))
set_option maxHeartbeats 8000000 in
set_option maxRecDepth 100000 in
theorem fD.calls (k : Nat) (A0 : Option Addr) (c0 : Nat) (l0 : List Int) (r : Bool) (w : World) (hr0 : Kd.C (Kd.int .u8) w A0 l0.length l0) (hc0 : l0.length ≤ c0) (h : fD.f k l0 = some r) :
  Calls Try.prog 48 #[.slice A0 l0.length c0] w fun e w' => e = .returned (.bool r) ∧ bC w w' := by
 have mV := ae hr0; have Jn := ae hc0; clear hr0 hc0; rw [fD.f] at h; have H := h; clear h; have HC2 := ae H; clear H; go_enter Try.func48, Try.ntmps48; go_upto_region 1 with (fail)
 go_cut [11] (fun v11 wc => ∃ (kq : Nat) (Ej : Bool), v11 = .bool Ej ∧ ai (fD.j0 kq l0 Ej = some r) ∧ ai (kq ≤ k) ∧ bC w wc)
 case first =>
  have H := HC2.o; clear HC2; by_cases c3 : (l0.length : Int) < 1
  ·rw [if_pos c3] at H
   have jP : decide ((l0.length : Int) < 1) = true := decide_eq_true c3; have pX : decide (l0.length < 1) = true := decide_eq_true (by omega); clear c3; (first | rw [jP] | (simp only [nR, uV]; rw [jP]) | skip); have H' := ae H; clear H; go_wp2; go_meet
   case rel => exact ⟨_, (true), ky, H', ⟨by first | omega | exact Nat.le_refl _⟩, by repeat (first | exact bC.refl _ | apply bC.step)⟩
  rw [if_neg c3] at H; have jP : decide ((l0.length : Int) < 1) = false := decide_eq_false c3; have pX : decide (l0.length < 1) = false := decide_eq_false (by omega); clear c3; (first | rw [jP] | (simp only [nR, uV]; rw [jP]) | skip); have H' := ae H; clear H; go_wp2; go_meet
  case rel => exact ⟨_, (decide ((l0.length : Int) > 20)), ky, H', ⟨by first | omega | exact Nat.le_refl _⟩, by repeat (first | exact bC.refl _ | apply bC.step)⟩
 case rest =>
  clear HC2; try clear p2; try clear c3; try clear jP; try clear pX
  obtain ⟨kq, Ej, rfl, HA, yS, ⟨mc1, rfl⟩⟩ := hcut; cases kq with
  | zero => exact absurd HA.o (by simp [fD.j0])
  | succ kj1 =>
   have H := HA.o; clear HA; simp only [fD.j0] at H; by_cases c4 : Ej = true
   ·subst c4
    rw [if_pos rfl] at H; obtain rfl := Option.some.inj H; go_wp2; go_ret; exact ⟨by first | rfl | (simp; done) | (simp [*]; done), by repeat (first | exact bC.refl _ | apply bC.step)⟩
   replace c4 := Bool.eq_false_iff.mpr c4; subst c4; rw [if_neg (show ¬ (false = true) by decide)] at H; have H' := ae H; clear H; go_wp2; go_loopg [3] kj1 (fun kq v3 w' => ∃ (fe : Int), v3 = .int .i64 fe ∧ ai (fD.l0 kq l0 fe = some r) ∧ ai (kq ≤ kj1) ∧ bC w w')
   case atStart => exact ⟨(0), ky, H', ⟨Nat.le_refl _⟩, by repeat (first | exact bC.refl _ | apply bC.step)⟩
   case round =>
    clear H'; try clear c1; try clear p2; try clear c3; try clear jP; try clear pX; try clear c4; try clear p2
    obtain ⟨fe, rfl, HA, uQ, ⟨m2, rfl⟩⟩ := hrel; cases gk with
    | zero => exact absurd HA.o (by simp [fD.l0])
    | succ k2 =>
     have H := HA.o; clear HA; simp only [fD.l0] at H; by_cases c5 : fe < (l0.length : Int)
     ·rw [if_pos c5] at H
      have wo : decide (fe < (l0.length : Int)) = true := decide_eq_true c5; clear c5; by_cases c6 : 0 ≤ fe
      ·rw [if_pos c6] at H
       have o6 : decide (0 ≤ fe) = true := decide_eq_true c6; clear c6; by_cases c7 : (rd l0 fe) < 97
       ·rw [if_pos c7] at H
        have zK : decide ((rd l0 fe) < 97) = true := decide_eq_true c7; clear c7; by_cases c8 : (rd l0 fe) = 47
        ·rw [if_pos c8] at H
         have uS : ((rd l0 fe) == 47) = true := beq_iff_eq.mpr c8; have Cs : ((rd l0 fe) != 47) = false := bne_eq_false_iff_eq.mpr c8; clear c8; have H' := ae H; clear H; have AJ : 0 ≤ (fe : Int) := od; have AL : fe < (l0.length : Int) := od; obtain ⟨Cw, e233, Lf⟩ := Kd.gK mV.o fe AJ AL; cases e233; replace AJ := eq_true AJ; replace AL := eq_true AL; have YR : 0 ≤ (fe : Int) := od; have YS : fe < (l0.length : Int) := od; obtain ⟨ahk, e234, akH⟩ := Kd.gK mV.o fe YR YS; obtain rfl : Cw = ahk := (by injection e234); replace YR := eq_true YR; replace YS := eq_true YS; go_wp2; go_roundg k2
         case measure => have := yS.o; have := uQ.o; omega
         case rel => exact ⟨(wrap64 (fe + 1)), ky, H', ⟨by have := yS.o; have := uQ.o; omega⟩, by repeat (first | exact bC.refl _ | apply bC.step)⟩
        rw [if_neg c8] at H; have uS : ((rd l0 fe) == 47) = false := beq_eq_false_iff_ne.mpr c8; have Cs : ((rd l0 fe) != 47) = true := bne_iff_ne.mpr c8; obtain rfl := Option.some.inj H; have AJ : 0 ≤ (fe : Int) := od; have AL : fe < (l0.length : Int) := od; obtain ⟨Cw, e233, Lf⟩ := Kd.gK mV.o fe AJ AL; cases e233; replace AJ := eq_true AJ; replace AL := eq_true AL; have YR : 0 ≤ (fe : Int) := od; have YS : fe < (l0.length : Int) := od; obtain ⟨ahk, e234, akH⟩ := Kd.gK mV.o fe YR YS; obtain rfl : Cw = ahk := (by injection e234); replace YR := eq_true YR; replace YS := eq_true YS; go_wp2; go_ret; exact ⟨by first | rfl | (simp; done) | (simp [*]; done), by repeat (first | exact bC.refl _ | apply bC.step)⟩
       rw [if_neg c7] at H; have zK : decide ((rd l0 fe) < 97) = false := decide_eq_false c7; clear c7; by_cases c9 : (rd l0 fe) > 122
       ·rw [if_pos c9] at H
        have MX : decide (122 < (rd l0 fe)) = true := decide_eq_true c9; clear c9; by_cases c10 : (rd l0 fe) = 47
        ·rw [if_pos c10] at H
         have vW : ((rd l0 fe) == 47) = true := beq_iff_eq.mpr c10; have GX : ((rd l0 fe) != 47) = false := bne_eq_false_iff_eq.mpr c10; clear c10; have H' := ae H; clear H; have AJ : 0 ≤ (fe : Int) := od; have AL : fe < (l0.length : Int) := od; obtain ⟨Cw, e233, Lf⟩ := Kd.gK mV.o fe AJ AL; cases e233; replace AJ := eq_true AJ; replace AL := eq_true AL; have NI : 0 ≤ (fe : Int) := od; have NJ : fe < (l0.length : Int) := od; obtain ⟨VN, ahl, abv⟩ := Kd.gK mV.o fe NI NJ; obtain rfl : Cw = VN := (by injection ahl); replace NI := eq_true NI; replace NJ := eq_true NJ; have YT : 0 ≤ (fe : Int) := od; have YU : fe < (l0.length : Int) := od; obtain ⟨ahm, ars, akI⟩ := Kd.gK mV.o fe YT YU; obtain rfl : Cw = ahm := (by injection ars); replace YT := eq_true YT; replace YU := eq_true YU; go_wp2; go_roundg k2
         case measure => have := yS.o; have := uQ.o; omega
         case rel => exact ⟨(wrap64 (fe + 1)), ky, H', ⟨by have := yS.o; have := uQ.o; omega⟩, by repeat (first | exact bC.refl _ | apply bC.step)⟩
        rw [if_neg c10] at H; have vW : ((rd l0 fe) == 47) = false := beq_eq_false_iff_ne.mpr c10; have GX : ((rd l0 fe) != 47) = true := bne_iff_ne.mpr c10; obtain rfl := Option.some.inj H; have AJ : 0 ≤ (fe : Int) := od; have AL : fe < (l0.length : Int) := od; obtain ⟨Cw, e233, Lf⟩ := Kd.gK mV.o fe AJ AL; cases e233; replace AJ := eq_true AJ; replace AL := eq_true AL; have NI : 0 ≤ (fe : Int) := od; have NJ : fe < (l0.length : Int) := od; obtain ⟨VN, ahl, abv⟩ := Kd.gK mV.o fe NI NJ; obtain rfl : Cw = VN := (by injection ahl); replace NI := eq_true NI; replace NJ := eq_true NJ; have YT : 0 ≤ (fe : Int) := od; have YU : fe < (l0.length : Int) := od; obtain ⟨ahm, ars, akI⟩ := Kd.gK mV.o fe YT YU; obtain rfl : Cw = ahm := (by injection ars); replace YT := eq_true YT; replace YU := eq_true YU; go_wp2; go_ret; exact ⟨by first | rfl | (simp; done) | (simp [*]; done), by repeat (first | exact bC.refl _ | apply bC.step)⟩
       rw [if_neg c9] at H; have MX : decide (122 < (rd l0 fe)) = false := decide_eq_false c9; clear c9; have H' := ae H; clear H; have AJ : 0 ≤ (fe : Int) := od; have AL : fe < (l0.length : Int) := od; obtain ⟨Cw, e233, Lf⟩ := Kd.gK mV.o fe AJ AL; cases e233; replace AJ := eq_true AJ; replace AL := eq_true AL; have NI : 0 ≤ (fe : Int) := od; have NJ : fe < (l0.length : Int) := od; obtain ⟨VN, ahl, abv⟩ := Kd.gK mV.o fe NI NJ; obtain rfl : Cw = VN := (by injection ahl); replace NI := eq_true NI; replace NJ := eq_true NJ; go_wp2; go_roundg k2
       case measure => have := yS.o; have := uQ.o; omega
       case rel => exact ⟨(wrap64 (fe + 1)), ky, H', ⟨by have := yS.o; have := uQ.o; omega⟩, by repeat (first | exact bC.refl _ | apply bC.step)⟩
      rw [if_neg c6] at H; exact absurd H (by simp)
     rw [if_neg c5] at H; have wo : decide (fe < (l0.length : Int)) = false := decide_eq_false c5; clear c5; obtain rfl := Option.some.inj H; go_wp2; go_ret; exact ⟨by first | rfl | (simp; done) | (simp [*]; done), by repeat (first | exact bC.refl _ | apply bC.step)⟩
def vC.f (l0 : List Int) : Option (Bool) := some (decide ((l0.length : Int) ≤ 20))
set_option maxHeartbeats 8000000 in
set_option maxRecDepth 100000 in
theorem vC.calls (A0 : Option Addr) (c0 : Nat) (l0 : List Int) (r : Bool) (w : World) (hr0 : Kd.C (Kd.int .u8) w A0 l0.length l0) (hc0 : l0.length ≤ c0) (h : vC.f l0 = some r) :
  Calls Try.prog 49 #[.slice A0 l0.length c0] w fun e w' => e = .returned (.bool r) ∧ bC w w' := by
 have mV := ae hr0; have Jn := ae hc0; clear hr0 hc0; rw [vC.f] at h; have H := h; clear h; obtain rfl := Option.some.inj H; go_enter Try.func49, Try.ntmps49; go_wp2; go_ret; exact ⟨by first | rfl | (simp; done) | (simp [*]; done), by repeat (first | exact bC.refl _ | apply bC.step)⟩
end Go.Proofs.Ytmfedjoofnlncaa.PT
