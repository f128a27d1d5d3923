-- Written for this claim by the session's program pp.py, out of the kit's print and the seat's translation.
import Derived.Test.YtmfedjoofnlncaaPTx0
import Derived.Test.YtmfedjoofnlncaaPTx16
namespace Go.Proofs.Ytmfedjoofnlncaa.PT
open Go.RowKit Go.Proofs.YtmfedjoofnlncaaW.PrintWords Go.Proofs.YtmfedjoofnlncaaW.PrintLast Go.Proofs.YtmfedjoofnlncaaW.PrintMore
attribute [local go_sem] kR kS nk nu jM jN kT kU   -- for this text's walks alone
set_option linter.unusedVariables false
set_option linter.unusedSimpArgs false
def aK.yY : Nat → dR → Nat
 | 0, _ => 0
 | k + 1, x => x.f0.length + 2 + (x.f3.map (aK.yY k)).sum
def aK.EO : Nat → dR → Bool
 | 0, _ => false
 | k + 1, x => x.f3.all (aK.EO k)
def aK.WS (x y : dR) : Prop := x.f0.length = y.f0.length ∧ ∀ j, aK.yY j x = aK.yY j y ∧ aK.EO j x = aK.EO j y
theorem aK.I_ {xs ys : List dR} {β : Type} (f : dR → β) (hl : ys.length = xs.length) (h : ∀ (j : Nat) (x y : dR), xs[j]? = some x → ys[j]? = some y → f x = f y) : xs.map f = ys.map f := by
 apply List.ext_getElem?; intro j; rw [List.getElem?_map, List.getElem?_map]; rcases Nat.lt_or_ge j xs.length with hj | hj
 ·have hj' : j < ys.length := by omega
  rw [List.getElem?_eq_getElem hj, List.getElem?_eq_getElem hj', Option.map_some, Option.map_some, h j _ _ (List.getElem?_eq_getElem hj) (List.getElem?_eq_getElem hj')]
 ·rw [List.getElem?_eq_none hj, List.getElem?_eq_none (by omega)]
theorem aK.OA {xs ys : List dR} (f : dR → Bool) (hl : ys.length = xs.length) (h : ∀ (j : Nat) (x y : dR), xs[j]? = some x → ys[j]? = some y → f x = f y) : xs.all f = ys.all f := by
 have e : ∀ zs : List dR, zs.all f = (zs.map f).all id := fun zs => by rw [List.all_map]; rfl
 rw [e, e, aK.I_ f hl h]
theorem aK.Um (k : Nat) : ∀ (x : dR), aK.EO k x = true → ∀ (w W : World) (P ok : Nat → Prop) (base : Nat) (cs cs' : List Value), Mk w W P → (∀ b, ok b → P b) → qp.M w base ok x cs → Sm cs cs' → ∃ x', aK.WS x x' ∧ qp.M W base ok x' cs' := by
 induction k with
 | zero => intro x hd; simp [aK.EO] at hd
 | succ k ih =>
  intro x hd w W P ok base cs cs' M hok hm hsm; obtain ⟨v0, v3, rfl, h0, h3⟩ := PG hm; obtain ⟨hl, he⟩ := hsm; obtain ⟨A0, c0, rfl⟩ := Kd.eB h0; obtain ⟨A3, c3, rfl⟩ := Kd.eB h3; obtain ⟨u0, hu0, q0⟩ := he 0 _ rfl; obtain ⟨u1, hu1, q1⟩ := he 1 _ rfl; obtain ⟨u2, hu2, q2⟩ := he 2 _ rfl; obtain ⟨u3, hu3, q3⟩ := he 3 _ rfl; obtain rfl := q0.slice; obtain ⟨b1, rfl⟩ := q1.bool; obtain ⟨i2, rfl⟩ := q2.int; obtain rfl := q3.slice
  have hcs : cs' = [.slice A0 x.f0.length c0, .bool b1, .int .i64 i2, .slice A3 x.f3.length c3] := by
   match cs', hl, hu0, hu1, hu2, hu3 with
   | [z0, z1, z2, z3], _, a0, a1, a2, a3 => simp at a0 a1 a2 a3; rw [a0, a1, a2, a3]
  obtain ⟨f0, hl0, h0'⟩ := Mk.MF M hok h0; obtain ⟨f3, hl3, hs3, h3'⟩ := Mk.R (s := aK.WS) M hok h3 (fun y hy ok' hok' d d' hm' hsm' => ih y (by simp only [aK.EO, List.all_eq_true] at hd; exact hd y hy) w W P ok' base d d' M hok' hm' hsm'); refine ⟨⟨f0, b1, i2, f3⟩, ⟨hl0.symm, fun j => ?_⟩, ?_⟩
  ·cases j with
   | zero => exact ⟨rfl, rfl⟩
   | succ j =>
    refine ⟨?_, ?_⟩
    ·simp only [aK.yY]
     rw [hl0, aK.I_ (aK.yY j) hl3 (fun i y y' hy hy' => ((hs3 i y y' hy hy').2 j).1)]
    ·simp only [aK.EO]
     exact aK.OA (aK.EO j) hl3 (fun i y y' hy hy' => ((hs3 i y y' hy hy').2 j).2)
  ·subst hcs
   have e := aaJ W base ok ⟨f0, b1, i2, f3⟩ (v0 := .slice A0 x.f0.length c0) h0' (v3 := .slice A3 x.f3.length c3) h3'; exact e
set_option maxHeartbeats 8000000 in
set_option maxRecDepth 100000 in
theorem aK.JL (P : Nat → Prop) (base : Nat) (v : Value) (l : List Int) (a : Int) (w : World) (hr : Kd.R (Kd.int .u8) 5 w base P v l) (h0 : 0 ≤ a) (h1 : a + l.length ≤ 1000000000) :
  Calls Try.prog 12 #[v, .int .i64 a] w fun e w' => e = .returned (.int .i64 (a + l.length)) ∧ Mk w w' P := by
 obtain ⟨A, c, rfl⟩ := Kd.eB hr; have HR := ae hr; clear hr; go_enter Try.func12, Try.ntmps12; go_wp2; go_loopg [1, 5] l.length (fun gg v1 v5 wr => ∃ x : Int, v1 = .int .i64 (a + x) ∧ v5 = .int .i64 x ∧ 0 ≤ x ∧ x ≤ (l.length : Int) ∧ l.length - x.toNat ≤ gg ∧ ai (Mk w wr P))
 case atStart => exact ⟨0, by rw [Int.add_zero], rfl, by omega, by omega, by omega, ⟨Mk.refl w P⟩⟩
 case round =>
  obtain ⟨x, rfl, rfl, hx0, hx1, hg, M⟩ := hrel; by_cases hlt : x < (l.length : Int)
  ·obtain ⟨l', hl', hr'⟩ := Mk.MF M.out (fun _ h => h) HR.o
   have hlt' : x < (l'.length : Int) := by omega
   have c1 : decide (x < (l.length : Int)) = true := decide_eq_true hlt; have HL := ae hlt; have HLL := ae hl'; have HG := ae hg; clear hlt hg; obtain ⟨g, cap, e, hb, hgl, cells, hcell⟩ := Kd.v_ hr' (by omega); injection e with ea en ec; subst ea; obtain ⟨hx, hf⟩ := Kd.Lc 0 hr' x hx0 (by omega); have HP := ae (hr'.1 g rfl); have HR' := ae hr'; clear hr' hcell hgl hb en ec hl' hlt' hx1; have p5 : (0 ≤ x) = True := eq_true hx0; have q5 : (x < (l.length : Int)) = True := eq_true HL.o; go_wp2_with (first | ((with_reducible refine mQ (t := 5) (p := 16) rfl ?_); refine lI (t := 5) (p := 16) (v := ?an_) (w1 := (wr.setCell ⟨g, x.toNat, none⟩ (.int .u8 ((a + x) % 256)))) ?hg ?ho ?hn ?hr ?_; (case ho => rfl); (case hg => rfl); (case hn => rfl); (case hr => first | (go_simp; done) | (go_simp; rfl)); intro w8 hw; have M8 := ae (show Mk w w8 P by rw [hw]; exact Mk.set M.out HP.o hx (.inr (.inl ⟨_, _, _, rfl, rfl⟩))); clear hw))
   go_roundg (l.length - (x.toNat + 1))
   case measure => have := HG.o; have := HL.o; omega
   case rel =>
    have hw1 : wrap64 (a + x + 1) = a + (x + 1) := by rw [zS (by have := HL.o; omega) (by have := HL.o; omega)]; omega
    have hw2 : wrap64 (x + 1) = x + 1 := zS (by have := HL.o; omega) (by have := HL.o; omega); exact ⟨x + 1, by first | rw [hw1] | simp [hw1], by first | rw [hw2] | simp [hw2], by omega, by have := HL.o; omega, by have := HL.o; omega, ⟨M8.out⟩⟩
  have c1 : decide (x < (l.length : Int)) = false := decide_eq_false hlt; have hx : x = (l.length : Int) := by omega
  clear hlt hg; subst hx; go_wp2; go_ret; exact ⟨rfl, M.out⟩
theorem aK.OB (f : dR → Nat) : ∀ (l : List dR) (n : Nat), ((l.take n).map f).sum ≤ (l.map f).sum
 | [], n => by simp
 | x :: xs, 0 => by simp
 | x :: xs, n + 1 => by
  have := aK.OB f xs n
  simp only [List.take_succ_cons, List.map_cons, List.sum_cons]
  omega
theorem aK.aae (f : dR → Nat) (l : List dR) (n : Nat) (h : n < l.length) : ((l.take (n + 1)).map f).sum = ((l.take n).map f).sum + f l[n] := by
 rw [List.take_succ_eq_append_getElem h, List.map_append, List.sum_append]; simp
set_option maxHeartbeats 16000000 in
set_option maxRecDepth 100000 in
theorem aK.auq (k : Nat) : ∀ (P : Nat → Prop) (base : Nat) (v : Value) (l : List dR) (a : Int) (w : World), Kd.R qp 46 w base P v l → l.all (aK.EO k) = true → 0 ≤ a → a + ((l.map (aK.yY k)).sum : Nat) ≤ 1000000000 →
  Calls Try.prog 43 #[v, .int .i64 a] w fun e w' => e = .returned (.int .i64 (a + ((l.map (aK.yY k)).sum : Nat))) ∧ Mk w w' P := by
 induction k using Nat.strongRecOn with
 | _ k ih =>
 intro P base v l a w hr hd h0 h1; obtain ⟨A, c, rfl⟩ := Kd.eB hr; have HR := ae hr; have HD := ae hd; have H0 := ae h0; have H1 := ae h1; have IH := ae ih; clear hr hd h0 h1 ih; go_enter Try.func43, Try.ntmps43; go_wp2; go_loopg [1, 5] l.length (fun gg v1 v5 wr => ∃ x A1 : Int, v1 = .int .i64 A1 ∧ v5 = .int .i64 x ∧ 0 ≤ x ∧ x ≤ (l.length : Int) ∧ l.length - x.toNat ≤ gg ∧ ai (A1 = a + (((l.take x.toNat).map (aK.yY k)).sum : Nat)) ∧ ai (Mk w wr P))
 case atStart => exact ⟨0, a, rfl, rfl, by omega, by omega, by omega, ⟨by simp⟩, ⟨Mk.refl w P⟩⟩
 case round =>
  obtain ⟨x, A1, rfl, rfl, hx0, hx1, hg, HA, M⟩ := hrel; by_cases hlt : x < (l.length : Int)
  ·have hn : x.toNat < l.length := by omega
   have hdx : aK.EO k l[x.toNat] = true := (List.all_eq_true.1 HD.o) _ (List.getElem_mem hn)
   obtain ⟨k, rfl⟩ : ∃ j, k = j + 1 := by
    cases k with
    | zero => simp [aK.EO] at hdx
    | succ j => exact ⟨j, rfl⟩
   obtain ⟨l', hl', hs', hr'⟩ := Mk.R (s := aK.WS) M.out (fun _ h => h) HR.o (fun y hy ok' hok' d d' hm' hsm' => aK.Um (k + 1) y ((List.all_eq_true.1 HD.o) y hy) w wr P ok' base d d' M.out hok' hm' hsm'); have hn' : x.toNat < l'.length := by omega
   have hE := hs' x.toNat _ _ (List.getElem?_eq_getElem hn) (List.getElem?_eq_getElem hn'); have c1 : decide (x < (l.length : Int)) = true := decide_eq_true hlt; obtain ⟨g, cap, e, hb, hgl, cells, hcell⟩ := Kd.v_ hr' (by omega); injection e with ea en ec; subst ea; obtain ⟨ce, hcl, hM, hcc, hfr⟩ := Kd.yz hr' z46 x hx0 (by omega); rw [List.getD_eq_getElem?_getD, List.getElem?_eq_getElem hn', Option.getD_some] at hM; generalize l'[x.toNat] = y at hE hM; obtain ⟨v0, v3, rfl, hr0, hr3⟩ := PG hM; obtain ⟨A0, c0, rfl⟩ := Kd.eB hr0; obtain ⟨A3, c3, rfl⟩ := Kd.eB hr3; have YL : wr.cell? ⟨g, x.toNat * 4, none⟩ = some (.slice A0 y.f0.length c0) := hcc 0 _ rfl; have JM : wr.cell? ⟨g, x.toNat * 4 + 1, none⟩ = some (.bool y.f1) := hcc 1 _ rfl; have ND : wr.cell? ⟨g, x.toNat * 4 + 2, none⟩ = some (.int .i64 y.f2) := hcc 2 _ rfl; have Ry : wr.cell? ⟨g, x.toNat * 4 + 3, none⟩ = some (.slice A3 y.f3.length c3) := hcc 3 _ rfl; have ahh : wr.frozen? ⟨g, x.toNat * 4 + 1, none⟩ = false := hfr 1; have ahe : wr.frozen? ⟨g, x.toNat * 4 + 2, none⟩ = false := hfr 2; have HP := ae (hr'.1 g rfl); have h4 := ae (aK.OB (aK.yY (k + 1)) l (x.toNat + 1)); have h5 := ae (aK.aae (aK.yY (k + 1)) l x.toNat hn); have h6 : aK.yY (k + 1) l[x.toNat] = y.f0.length + 2 + (y.f3.map (aK.yY k)).sum := by rw [(hE.2 (k + 1)).1]; rfl
   have h7 : y.f3.all (aK.EO k) = true := by have := (hE.2 (k + 1)).2; rw [hdx] at this; exact this.symm
   have hsum : A1 + (y.f0.length + 2 + (y.f3.map (aK.yY k)).sum : Nat) = a + (((l.take (x.toNat + 1)).map (aK.yY (k + 1))).sum : Nat) := by rw [HA.o, h5.out, h6]; omega
   have hle : A1 + (y.f0.length + 2 + (y.f3.map (aK.yY k)).sum : Nat) ≤ 1000000000 := by rw [hsum]; have := h4.out; have := H1.out; omega
   have hle' : A1 + (y.f0.length : Int) + 2 ≤ 1000000000 := by omega
   have hA0 : 0 ≤ A1 := by rw [HA.o]; have := H0.out; omega
   have hw1 : wrap64 (A1 + (y.f0.length : Int) + 1) = A1 + (y.f0.length : Int) + 1 := zS (by clear hsum hle; omega) (by clear hsum hle; omega); have hw2 : wrap64 (A1 + (y.f0.length : Int) + 1 + 1) = A1 + (y.f0.length : Int) + 1 + 1 := zS (by clear hsum hle hw1; omega) (by clear hsum hle hw1; omega); have hw3 : wrap64 (x + 1) = x + 1 := zS (by clear hsum hle hw1 hw2; omega) (by have := (Kd.jf HR.o).2.2.2.1; clear hsum hle hw1 hw2; omega); have HL := ae hlt; have HG := ae hg; have mV := ae hr0; have HR3 := ae hr3; have HLE := ae hle; have HA0 := ae hA0; have HSUM := ae hsum; have H7 := ae h7
   have CALL := ae (show ∀ Rh, Mk wr Rh P → Calls Try.prog 43 #[.slice A3 y.f3.length c3, .int .i64 (A1 + (y.f0.length : Int) + 1 + 1)] Rh (fun e w' => e = .returned (.int .i64 (A1 + (y.f0.length : Int) + 1 + 1 + ((y.f3.map (aK.yY k)).sum : Nat))) ∧ Mk Rh w' P) from by
    intro Rh m10; obtain ⟨f3, hl3, hs3, aG9⟩ := Mk.R (s := aK.WS) m10 (fun _ (h : P _ ∧ _ ≠ g) => h.1) HR3.o (fun z hz ok' hok' d d' hm' hsm' => aK.Um k z ((List.all_eq_true.1 H7.out) z hz) wr Rh P ok' base d d' m10 hok' hm' hsm'); have e1 := aK.I_ (aK.yY k) hl3 (fun j z z' h h' => ((hs3 j z z' h h').2 k).1); have e2 := aK.OA (aK.EO k) hl3 (fun j z z' h h' => ((hs3 j z z' h h').2 k).2); rw [e1]; refine (IH.out k (by omega) (fun b => P b ∧ b ≠ g) base _ f3 _ Rh aG9 (e2.symm.trans H7.out) (by have := HA0.o; omega) (by rw [← e1]; have := HLE.o; omega)).mono ?_; rintro e w' ⟨rfl, m'⟩; exact ⟨rfl, m'.mono (fun _ h => h.1)⟩)
   have SETS := ae (show ∀ w8, Mk wr w8 P → ∀ (b : Bool) (q : Int), Mk wr ((w8.setCell ⟨g, x.toNat * 4 + 1, none⟩ (.bool b)).setCell ⟨g, x.toNat * 4 + 2, none⟩ (.int .i64 q)) P from by
    intro w8 m8 b q; obtain ⟨u1, Rz, s1⟩ := m8.cell JM; obtain ⟨b1, rfl⟩ := s1.bool; have m9 := Mk.set m8 HP.o Rz (u' := .bool b) (.inr (.inr ⟨_, _, rfl, rfl⟩)); obtain ⟨u2, YM, s2⟩ := m9.cell ND; obtain ⟨i2, rfl⟩ := s2.int; exact Mk.set m9 HP.o YM (.inr (.inl ⟨_, _, _, rfl, rfl⟩)))
   clear hle' hr' hcell hgl hb en ec hl' hn' hx1 hE hlt hg hr0 hr3 hle hA0 hsum h6 h7 hdx hs' hM hcc hfr hcl h4 h5 hn; have p5 : (0 ≤ x) = True := eq_true hx0; have q5 : (x < (l.length : Int)) = True := eq_true HL.o
   go_wp2_with (first
    | ((with_reducible refine au (f := 12) rfl ?_); refine jG (some 18) Try.func12 #[.slice A0 y.f0.length c0, .int .i64 A1] (h := ?_); refine (aK.JL P base _ y.f0 A1 wr (Kd.dF mV.o (fun _ h => h.1)) HA0.o (by have := HLE.o; omega)).mono ?_; rintro e w8 ⟨rfl, m8⟩; refine ⟨_, rfl, ?_⟩; have M8 := ae m8; obtain ⟨u1, Rz, s1⟩ := m8.cell JM; obtain ⟨b1, rfl⟩ := s1.bool; obtain ⟨u2, YM, s2⟩ := m8.cell ND; obtain ⟨i2, rfl⟩ := s2.int; obtain ⟨u3, ahf, s3⟩ := m8.cell Ry; obtain rfl := s3.slice; have aG_ := m8.frz JM ahh; have aG' := m8.frz ND ahe; clear m8)
    | (go_at_call 43; refine (CALL.out _ (SETS.out w8 M8.out _ _)).mono ?_; rintro e sS ⟨rfl, m11⟩; have M11 := ae (M.out.trans ((SETS.out w8 M8.out _ _).trans m11)); clear m11))
   go_roundg (l.length - (x.toNat + 1))
   case measure => have := HG.o; have := HL.o; omega
   case rel => exact ⟨x + 1, _, rfl, by first | rw [hw3] | simp [hw3], by omega, by have := HL.o; omega, by have := HL.o; omega, ⟨by have := HSUM.o; rw [show (x + 1).toNat = x.toNat + 1 by omega]; omega⟩, ⟨M11.out⟩⟩
  have c1 : decide (x < (l.length : Int)) = false := decide_eq_false hlt; have hA : A1 = a + ((l.map (aK.yY k)).sum : Nat) := by rw [HA.o, List.take_of_length_le (by omega)]
  clear hlt hg; subst hA; go_wp2; go_ret; exact ⟨rfl, M.out⟩
def aK.f (k : Nat) (l0 : List Int) (a1 : Bool) (a2 : Int) (l3 : List dR) (a4 : Int) : Option Int :=
 if l3.all (aK.EO k) = true ∧ 0 ≤ a4 ∧ a4 + l0.length + ((l3.map (aK.yY k)).sum : Nat) ≤ 1000000000 then some (a4 + l0.length + ((l3.map (aK.yY k)).sum : Nat)) else none
set_option maxHeartbeats 16000000 in
set_option maxRecDepth 100000 in
theorem aK.calls (k : Nat) (rq : Nat → Prop) (u0 : Value) (l0 : List Int) (a1 : Bool) (a2 : Int) (P3_ : Nat → Prop) (u3 : Value) (l3 : List dR) (a4 : Int) (r : Int) (w0 w : World) (hB : Below w0.heap.size w0 w) (ho0 : Kd.R (Kd.int .u8) 5 w w0.heap.size rq u0 l0) (ho3 : Kd.R qp 46 w w0.heap.size P3_ u3 l3) (h : aK.f k l0 a1 a2 l3 a4 = some r) :
  Calls Try.prog 17 #[.agg #[u0, .bool a1, .int .i64 a2, u3], .int .i64 a4] w fun e w' => e = .returned (.int .i64 r) ∧ Below w0.heap.size w0 w' ∧ Kept w w' (fun k_ => rq k_ ∨ P3_ k_) := by
 have hu := Try.underlying46; unfold aK.f at h; split at h
 case isFalse => cases h
 case isTrue hh =>
 obtain rfl := Option.some.inj h; clear h; obtain ⟨hd, h0, h1⟩ := hh; obtain ⟨A0, c0, rfl⟩ := Kd.eB ho0; obtain ⟨A3, c3, rfl⟩ := Kd.eB ho3; have vP := ae (Kd.dF (ok' := fun b => rq b ∧ w0.heap.size ≤ b ∧ b < w.heap.size) (Kd.jY ho0) (fun _ h => ⟨h.1, h.2.1, h.2.2.1⟩)); have HO3 := ae (Kd.dF (ok' := fun b => P3_ b ∧ w0.heap.size ≤ b ∧ b < w.heap.size) (Kd.jY ho3) (fun _ h => ⟨h.1, h.2.1, h.2.2.1⟩)); have HBB := ae hB; have HD := ae hd; have H0 := ae h0; have H1 := ae h1; clear ho0 ho3 hB hd h0 h1
 have CALL := ae (show ∀ w1 w2, Below w.heap.size w w1 → Mk w1 w2 (fun b => rq b ∧ w0.heap.size ≤ b ∧ b < w.heap.size) → Calls Try.prog 43 #[.slice A3 l3.length c3, .int .i64 (a4 + (l0.length : Int))] w2 (fun e w' => e = .returned (.int .i64 (a4 + l0.length + ((l3.map (aK.yY k)).sum : Nat))) ∧ Below w0.heap.size w0 w' ∧ Kept w w' (fun k_ => rq k_ ∨ P3_ k_)) from by
  intro w1 w2 hb m; have m' : Mk w1 w2 (fun b => (rq b ∨ P3_ b) ∧ w0.heap.size ≤ b ∧ b < w.heap.size) := m.mono (fun b h => ⟨.inl h.1, h.2⟩); obtain ⟨l', hl, hs, hr⟩ := Mk.R (s := aK.WS) m' (fun _ (h : P3_ _ ∧ _) => ⟨.inr h.1, h.2⟩) (Kd.rG HO3.o hb) (fun z hz ok' hok' d d' hm' hsm' => aK.Um k z ((List.all_eq_true.1 HD.o) z hz) w1 w2 _ ok' _ d d' m' hok' hm' hsm'); have e1 := aK.I_ (aK.yY k) hl (fun j z z' h h' => ((hs j z z' h h').2 k).1); have e2 := aK.OA (aK.EO k) hl (fun j z z' h h' => ((hs j z z' h h').2 k).2); have h1 := H1.out; rw [e1] at h1 ⊢; refine (aK.auq k (fun b => P3_ b ∧ w0.heap.size ≤ b ∧ b < w.heap.size) _ _ l' _ w2 hr (e2.symm.trans HD.o) (by have := H0.out; omega) h1).mono ?_; rintro e w' ⟨rfl, m3⟩; have mm := Mk.newer hb (m'.trans (m3.mono (P' := fun b => (rq b ∨ P3_ b) ∧ w0.heap.size ≤ b ∧ b < w.heap.size) (fun b h => ⟨.inr h.1, h.2⟩))) (fun _ h => h.2.2); exact ⟨rfl, mm.below HBB.o (fun _ h => h.2.1), mm.kept.mono (fun _ h => h.1)⟩)
 go_enter Try.func17, Try.ntmps17
 go_wp2_with (first
  | ((with_reducible refine aD (N := 2) rfl ?_); refine je 2 #[.slice A0 l0.length c0, .bool a1, .int .i64 a2, .slice A3 l3.length c3] 46 (h := ?_); intro Jo hg w1 hbox hb; have E5 := ae (hbox); have HG1 := ae hg; have HB1 := ae hb; clear hb hbox hg; have axu : w1.cell? ⟨Jo, 0, none⟩ = some (.slice A0 l0.length c0) := (aY E5.o 0).trans rfl)
  | ((with_reducible refine au (f := 12) rfl ?_); refine jG (some 8) Try.func12 #[.slice A0 l0.length c0, .int .i64 a4] (h := ?_); refine (aK.JL _ _ _ l0 a4 w1 (Kd.rG vP.o HB1.o) H0.out (by have := H1.out; omega)).mono ?_; rintro e w2 ⟨rfl, m2⟩; refine ⟨_, rfl, ?_⟩; have M2 := ae m2; have BK2 := ae (oW E5.o m2.kept (fun h => by have := h.2.2; have := HG1.o; omega)); clear m2; have C2_3 : w2.cell? ⟨Jo, 3, none⟩ = some (.slice A3 l3.length c3) := (aY BK2.o 3).trans rfl)
  | ((with_reducible refine au (f := 43) rfl ?_); refine jG (some 12) Try.func43 #[.slice A3 l3.length c3, .int .i64 (a4 + (l0.length : Int))] (h := ?_); refine (CALL.out w1 w2 HB1.o M2.out).mono ?_; rintro e w3 ⟨rfl, hb3, hk3⟩; refine ⟨_, rfl, ?_⟩; have HB3 := ae hb3; have BP := ae hk3; clear hb3 hk3))
 go_ret; exact ⟨rfl, HB3.o, BP.o⟩
def eH.l0 : Nat → List Int → Int → Int → Option (Int)
 | 0, _, _, _ => none
 | k + 1, x0, x1, x5 => if x5 < (x0.length : Int) then (if 0 ≤ x5 then (if (rd x0 x5) = ((x1) % 256) then (eH.l0 k x0 (wrap64 (x1 + 1)) (wrap64 (x5 + 1))) else (some (-1))) else (none)) else (some x1)
def eH.f (k : Nat) (l0 : List Int) (a1 : Int) : Option (Int) := eH.l0 k l0 a1 0
set_option maxHeartbeats 8000000 in
set_option maxRecDepth 100000 in
theorem eH.calls (k : Nat) (A0 : Option Addr) (c0 : Nat) (l0 : List Int) (a1 : Int) (r : Int) (w : World) (hr0 : Kd.C (Kd.int .u8) w A0 l0.length l0) (hc0 : l0.length ≤ c0) (h : eH.f k l0 a1 = some r) :
  Calls Try.prog 13 #[.slice A0 l0.length c0, .int .i64 a1] w fun e w' => e = .returned (.int .i64 r) ∧ bC w w' := by
 have mV := ae hr0; have Jn := ae hc0; clear hr0 hc0; rw [eH.f] at h; have H := h; clear h; have H' := ae H; clear H; go_enter Try.func13, Try.ntmps13; go_wp2; go_loopg [1, 5] k (fun kq v1 v5 w' => ∃ (nM : Int) (ah : Int), v1 = .int .i64 nM ∧ v5 = .int .i64 ah ∧ ai (eH.l0 kq l0 nM ah = some r) ∧ ai (kq ≤ k) ∧ bC w w')
 case atStart => exact ⟨(a1), (0), ky, ky, H', ⟨Nat.le_refl _⟩, by repeat (first | exact bC.refl _ | apply bC.step)⟩
 case round =>
  clear H'; try clear c1; try clear p2
  obtain ⟨nM, ah, rfl, rfl, HA, nK, ⟨m1, rfl⟩⟩ := hrel; cases gk with
  | zero => exact absurd HA.o (by simp [eH.l0])
  | succ k1 =>
   have H := HA.o; clear HA; simp only [eH.l0] at H; by_cases c3 : ah < (l0.length : Int)
   ·rw [if_pos c3] at H
    have jP : decide (ah < (l0.length : Int)) = true := decide_eq_true c3; clear c3; by_cases c4 : 0 ≤ ah
    ·rw [if_pos c4] at H
     have mF : decide (0 ≤ ah) = true := decide_eq_true c4; clear c4; by_cases c5 : (rd l0 ah) = ((nM) % 256)
     ·rw [if_pos c5] at H
      have wo : ((rd l0 ah) == ((nM) % 256)) = true := beq_iff_eq.mpr c5; have ahc : ((rd l0 ah) != ((nM) % 256)) = false := bne_eq_false_iff_eq.mpr c5; clear c5; have H' := ae H; clear H; have aaf : 0 ≤ (ah : Int) := od; have aag : ah < (l0.length : Int) := od; obtain ⟨aAB, aur, am2⟩ := Kd.gK mV.o ah aaf aag; cases aur; replace aaf := eq_true aaf; replace aag := eq_true aag; go_wp2; go_roundg k1
      case measure => have := nK.o; omega
      case rel => exact ⟨(wrap64 (nM + 1)), (wrap64 (ah + 1)), ky, ky, H', ⟨by have := nK.o; omega⟩, by repeat (first | exact bC.refl _ | apply bC.step)⟩
     rw [if_neg c5] at H; have wo : ((rd l0 ah) == ((nM) % 256)) = false := beq_eq_false_iff_ne.mpr c5; have ahc : ((rd l0 ah) != ((nM) % 256)) = true := bne_iff_ne.mpr c5; obtain rfl := Option.some.inj H; have aaf : 0 ≤ (ah : Int) := od; have aag : ah < (l0.length : Int) := od; obtain ⟨aAB, aur, am2⟩ := Kd.gK mV.o ah aaf aag; cases aur; replace aaf := eq_true aaf; replace aag := eq_true aag; go_wp2; go_ret; exact ⟨by first | rfl | (simp; done) | (simp [*]; done), by repeat (first | exact bC.refl _ | apply bC.step)⟩
    rw [if_neg c4] at H; exact absurd H (by simp)
   rw [if_neg c3] at H; have jP : decide (ah < (l0.length : Int)) = false := decide_eq_false c3; clear c3; obtain rfl := Option.some.inj H; go_wp2; go_ret; exact ⟨by first | rfl | (simp; done) | (simp [*]; done), by repeat (first | exact bC.refl _ | apply bC.step)⟩
mutual
def eQ.l0 : Nat → List (dR) → Int → Int → Option (Int)
 | 0, _, _, _ => none
 | k + 1, x0, x1, x5 => if x5 < (x0.length : Int) then (if 0 ≤ x5 then ((eH.f k ((ak x0 x5).f0) x1).bind fun tT => (if tT < 0 then (some (-1)) else (if (((ak x0 x5).f1) != ((Int.tmod tT 3) == 0)) = true then (some (-1)) else (if ((ak x0 x5).f2) = (wrap64 (tT + 1)) then ((eQ.f k ((ak x0 x5).f3) (wrap64 ((wrap64 (tT + 1)) + 1))).bind fun Un => (if Un < 0 then (some (-1)) else (eQ.l0 k x0 Un (wrap64 (x5 + 1))))) else (some (-1)))))) else (none)) else (some x1)
def eQ.f : Nat → List (dR) → Int → Option (Int)
 | 0, _, _ => none
 | k + 1, l0, a1 => eQ.l0 k l0 a1 0
end
set_option maxHeartbeats 8000000 in
set_option maxRecDepth 100000 in
theorem eQ.calls (k : Nat) : ∀ (A0 : Option Addr) (c0 : Nat) (l0 : List (dR)) (a1 : Int) (r : Int) (w : World) (hr0 : Kd.C qp w A0 l0.length l0) (hc0 : l0.length ≤ c0) (h : eQ.f k l0 a1 = some r),
  Calls Try.prog 44 #[.slice A0 l0.length c0, .int .i64 a1] w fun e w' => e = .returned (.int .i64 r) ∧ bC w w' := by
 induction k using Nat.strongRecOn with
 | _ k ih =>
 intro A0 c0 l0 a1 r w hr0 hc0 h; cases k with
 | zero => exact absurd h (by simp [eQ.f])
 | succ k =>
 rw [eQ.f] at h; have mV := ae hr0; have Jn := ae hc0; clear hr0 hc0; have H := h; clear h; have H' := ae H; clear H; go_enter Try.func44, Try.ntmps44; go_wp2; go_loopg [1, 5] k (fun kq v1 v5 w' => ∃ (nM : Int) (ah : Int), v1 = .int .i64 nM ∧ v5 = .int .i64 ah ∧ ai (eQ.l0 kq l0 nM ah = some r) ∧ ai (kq ≤ k) ∧ bC w w')
 case atStart => exact ⟨(a1), (0), ky, ky, H', ⟨Nat.le_refl _⟩, by repeat (first | exact bC.refl _ | apply bC.step)⟩
 case round =>
  clear H'; try clear p2
  obtain ⟨nM, ah, rfl, rfl, HA, nK, ⟨m1, rfl⟩⟩ := hrel; cases gk with
  | zero => exact absurd HA.o (by simp [eQ.l0])
  | succ k1 =>
   have H := HA.o; clear HA; simp only [eQ.l0] at H; by_cases c3 : ah < (l0.length : Int)
   ·rw [if_pos c3] at H
    have jP : decide (ah < (l0.length : Int)) = true := decide_eq_true c3; clear c3; by_cases c4 : 0 ≤ ah
    ·rw [if_pos c4] at H
     have mF : decide (0 ≤ ah) = true := decide_eq_true c4; clear c4; replace H := ni H; obtain ⟨tT, A5, H⟩ := H; by_cases c6 : tT < 0
     ·rw [if_pos c6] at H
      have o6 : decide (tT < 0) = true := decide_eq_true c6; clear c6; obtain rfl := Option.some.inj H; have Bl : 0 ≤ (ah : Int) := od; have Bn : ah < (l0.length : Int) := od; obtain ⟨Aq, Bo, Bp, J4, J5, Uo, rY, Mr, Ms, rZ, qX, qY, qZ, rf⟩ := nT mV.o ah Bl Bn; cases Uo; have xZ := ae qY; have yc := ae qX; clear qY qX; have Mt := ae rf; have Mv := ae qZ; clear rf qZ; replace Bl := eq_true Bl; replace Bn := eq_true Bn; go_wp2_with (first | ((with_reducible refine au (f := 13) rfl ?_); refine jG (some 18) Try.func13 #[.slice Bo ((ak l0 ah).f0).length Bp, .int .i64 nM] (h := ?_); (with_reducible refine (eH.calls k1 _ _ ((ak l0 ah).f0) nM tT _ ?aI ?aJ A5.o).mono ?_); (case aI => repeat (first | exact xZ.o | (with_reducible refine Kd.cB ?_ _) | (with_reducible refine Kd.bO ?_ _) | (with_reducible refine Kd.dH ?_))); (case aJ => exact yc.o); rintro e w' ⟨rfl, ⟨nd, rfl⟩⟩; refine ⟨_, rfl, ?_⟩))
      go_ret; exact ⟨by first | rfl | (simp; done) | (simp [*]; done), by repeat (first | exact bC.refl _ | apply bC.step)⟩
     rw [if_neg c6] at H; have o6 : decide (tT < 0) = false := decide_eq_false c6; clear c6; by_cases c7 : (((ak l0 ah).f1) != ((Int.tmod tT 3) == 0)) = true
     ·rw [if_pos c7] at H
      have zK : (((ak l0 ah).f1) != ((Int.tmod tT 3) == 0)) = true := c7; (try (have Yp : decide (((ak l0 ah).f1) = ((Int.tmod tT 3) == 0)) = false := by simpa using c7)); (try (have aHb : (((ak l0 ah).f1) == ((Int.tmod tT 3) == 0)) = false := by simpa using c7)); (try (have c7b3 : ¬ (((ak l0 ah).f1) = ((Int.tmod tT 3) == 0)) := by simpa using c7)); clear c7; obtain rfl := Option.some.inj H; have Bl : 0 ≤ (ah : Int) := od; have Bn : ah < (l0.length : Int) := od; obtain ⟨Aq, Bo, Bp, J4, J5, Uo, rY, Mr, Ms, rZ, qX, qY, qZ, rf⟩ := nT mV.o ah Bl Bn; cases Uo; have xZ := ae qY; have yc := ae qX; clear qY qX; have Mt := ae rf; have Mv := ae qZ; clear rf qZ; replace Bl := eq_true Bl; replace Bn := eq_true Bn; go_wp2_with (first | ((with_reducible refine au (f := 13) rfl ?_); refine jG (some 18) Try.func13 #[.slice Bo ((ak l0 ah).f0).length Bp, .int .i64 nM] (h := ?_); (with_reducible refine (eH.calls k1 _ _ ((ak l0 ah).f0) nM tT _ ?aI ?aJ A5.o).mono ?_); (case aI => repeat (first | exact xZ.o | (with_reducible refine Kd.cB ?_ _) | (with_reducible refine Kd.bO ?_ _) | (with_reducible refine Kd.dH ?_))); (case aJ => exact yc.o); rintro e w' ⟨rfl, ⟨nd, rfl⟩⟩; refine ⟨_, rfl, ?_⟩; have EP : 0 ≤ (ah : Int) := od; have ER : ah < (l0.length : Int) := od; obtain ⟨OC, aah, aai, aaj, aak, aal, Bq, Uq, Ur, Br, uG, uH, uI, uJ⟩ := nT mV.o ah EP ER; obtain rfl : Aq = OC := (by injection aal); have Us := ae uH; have Ut := ae uG; clear uH uG; have Uu := ae uJ; have Uv := ae uI; clear uJ uI; replace EP := eq_true EP; replace ER := eq_true ER; have mg := Option.some.inj (rY.symm.trans Bq); injection mg with mg wu wy; subst mg; subst wy; clear wu; have mg := Option.some.inj (rZ.symm.trans Br); injection mg with mg wu wy; subst mg; subst wy; clear wu))
      go_ret; exact ⟨by first | rfl | (simp; done) | (simp [*]; done), by repeat (first | exact bC.refl _ | apply bC.step)⟩
     rw [if_neg c7] at H; have zK : (((ak l0 ah).f1) != ((Int.tmod tT 3) == 0)) = false := by simpa using c7
     (try (have Yp : decide (((ak l0 ah).f1) = ((Int.tmod tT 3) == 0)) = true := by simpa using c7)); (try (have aHb : (((ak l0 ah).f1) == ((Int.tmod tT 3) == 0)) = true := by simpa using c7)); clear c7; by_cases c8 : ((ak l0 ah).f2) = (wrap64 (tT + 1))
     ·rw [if_pos c8] at H
      have uS : (((ak l0 ah).f2) == (wrap64 (tT + 1))) = true := beq_iff_eq.mpr c8; have Cs : (((ak l0 ah).f2) != (wrap64 (tT + 1))) = false := bne_eq_false_iff_eq.mpr c8; clear c8; replace H := ni H; obtain ⟨Un, A9, H⟩ := H; by_cases c10 : Un < 0
      ·rw [if_pos c10] at H
       have vW : decide (Un < 0) = true := decide_eq_true c10; clear c10; obtain rfl := Option.some.inj H; have Bl : 0 ≤ (ah : Int) := od; have Bn : ah < (l0.length : Int) := od; obtain ⟨Aq, Bo, Bp, J4, J5, Uo, rY, Mr, Ms, rZ, qX, qY, qZ, rf⟩ := nT mV.o ah Bl Bn; cases Uo; have xZ := ae qY; have yc := ae qX; clear qY qX; have Mt := ae rf; have Mv := ae qZ; clear rf qZ; replace Bl := eq_true Bl; replace Bn := eq_true Bn; go_wp2_with (first | ((with_reducible refine au (f := 13) rfl ?_); refine jG (some 18) Try.func13 #[.slice Bo ((ak l0 ah).f0).length Bp, .int .i64 nM] (h := ?_); (with_reducible refine (eH.calls k1 _ _ ((ak l0 ah).f0) nM tT _ ?aI ?aJ A5.o).mono ?_); (case aI => repeat (first | exact xZ.o | (with_reducible refine Kd.cB ?_ _) | (with_reducible refine Kd.bO ?_ _) | (with_reducible refine Kd.dH ?_))); (case aJ => exact yc.o); rintro e w' ⟨rfl, ⟨nd, rfl⟩⟩; refine ⟨_, rfl, ?_⟩; have EP : 0 ≤ (ah : Int) := od; have ER : ah < (l0.length : Int) := od; obtain ⟨OC, aah, aai, aaj, aak, aal, Bq, Uq, Ur, Br, uG, uH, uI, uJ⟩ := nT mV.o ah EP ER; obtain rfl : Aq = OC := (by injection aal); have Us := ae uH; have Ut := ae uG; clear uH uG; have Uu := ae uJ; have Uv := ae uI; clear uJ uI; replace EP := eq_true EP; replace ER := eq_true ER; have mg := Option.some.inj (rY.symm.trans Bq); injection mg with mg wu wy; subst mg; subst wy; clear wu; have mg := Option.some.inj (rZ.symm.trans Br); injection mg with mg wu wy; subst mg; subst wy; clear wu; have OD : 0 ≤ (ah : Int) := od; have OE : ah < (l0.length : Int) := od; obtain ⟨WT, ai2, ai3, ai4, ai5, ai6, Ja, adO, adP, Jb, zA, zB, zC, zD⟩ := nT mV.o ah OD OE; obtain rfl : Aq = WT := (by injection ai6); have adQ := ae zB; have adR := ae zA; clear zB zA; have adS := ae zD; have adT := ae zC; clear zD zC; replace OD := eq_true OD; replace OE := eq_true OE; have mg := Option.some.inj (rY.symm.trans Ja); injection mg with mg wu wy; subst mg; subst wy; clear wu; have mg := Option.some.inj (rZ.symm.trans Jb); injection mg with mg wu wy; subst mg; subst wy; clear wu; have aam : 0 ≤ (ah : Int) := od; have aan : ah < (l0.length : Int) := od; obtain ⟨ai7, aus, aut, auu, auv, auw, Uw, am3, am4, Ux, Jc, Jd, Je, Jf⟩ := nT mV.o ah aam aan; obtain rfl : Aq = ai7 := (by injection auw); have am5 := ae Jd; have am6 := ae Jc; clear Jd Jc; have Uy := ae Jf; have Uz := ae Je; clear Jf Je; replace aam := eq_true aam; replace aan := eq_true aan; have mg := Option.some.inj (rY.symm.trans Uw); injection mg with mg wu wy; subst mg; subst wy; clear wu; have mg := Option.some.inj (rZ.symm.trans Ux); injection mg with mg wu wy; subst mg; subst wy; clear wu) | ((with_reducible refine au (f := 44) rfl ?_); refine jG (some 47) Try.func44 #[.slice J4 ((ak l0 ah).f3).length J5, .int .i64 (wrap64 ((wrap64 (tT + 1)) + 1))] (h := ?_); (with_reducible refine (ih k1 (by have := nK.o; omega) _ _ ((ak l0 ah).f3) (wrap64 ((wrap64 (tT + 1)) + 1)) Un _ ?aI ?aJ A9.o).mono ?_); (case aI => repeat (first | exact Uy.o | (with_reducible refine Kd.cB ?_ _) | (with_reducible refine Kd.bO ?_ _) | (with_reducible refine Kd.dH ?_))); (case aJ => exact Uz.o); rintro e w' ⟨rfl, ⟨nd, rfl⟩⟩; refine ⟨_, rfl, ?_⟩))
       go_ret; exact ⟨by first | rfl | (simp; done) | (simp [*]; done), by repeat (first | exact bC.refl _ | apply bC.step)⟩
      rw [if_neg c10] at H; have vW : decide (Un < 0) = false := decide_eq_false c10; clear c10; have H' := ae H; clear H; have Bl : 0 ≤ (ah : Int) := od; have Bn : ah < (l0.length : Int) := od; obtain ⟨Aq, Bo, Bp, J4, J5, Uo, rY, Mr, Ms, rZ, qX, qY, qZ, rf⟩ := nT mV.o ah Bl Bn; cases Uo; have xZ := ae qY; have yc := ae qX; clear qY qX; have Mt := ae rf; have Mv := ae qZ; clear rf qZ; replace Bl := eq_true Bl; replace Bn := eq_true Bn; go_wp2_with (first | ((with_reducible refine au (f := 13) rfl ?_); refine jG (some 18) Try.func13 #[.slice Bo ((ak l0 ah).f0).length Bp, .int .i64 nM] (h := ?_); (with_reducible refine (eH.calls k1 _ _ ((ak l0 ah).f0) nM tT _ ?aI ?aJ A5.o).mono ?_); (case aI => repeat (first | exact xZ.o | (with_reducible refine Kd.cB ?_ _) | (with_reducible refine Kd.bO ?_ _) | (with_reducible refine Kd.dH ?_))); (case aJ => exact yc.o); rintro e w' ⟨rfl, ⟨nd, rfl⟩⟩; refine ⟨_, rfl, ?_⟩; have EP : 0 ≤ (ah : Int) := od; have ER : ah < (l0.length : Int) := od; obtain ⟨OC, aah, aai, aaj, aak, aal, Bq, Uq, Ur, Br, uG, uH, uI, uJ⟩ := nT mV.o ah EP ER; obtain rfl : Aq = OC := (by injection aal); have Us := ae uH; have Ut := ae uG; clear uH uG; have Uu := ae uJ; have Uv := ae uI; clear uJ uI; replace EP := eq_true EP; replace ER := eq_true ER; have mg := Option.some.inj (rY.symm.trans Bq); injection mg with mg wu wy; subst mg; subst wy; clear wu; have mg := Option.some.inj (rZ.symm.trans Br); injection mg with mg wu wy; subst mg; subst wy; clear wu; have OD : 0 ≤ (ah : Int) := od; have OE : ah < (l0.length : Int) := od; obtain ⟨WT, ai2, ai3, ai4, ai5, ai6, Ja, adO, adP, Jb, zA, zB, zC, zD⟩ := nT mV.o ah OD OE; obtain rfl : Aq = WT := (by injection ai6); have adQ := ae zB; have adR := ae zA; clear zB zA; have adS := ae zD; have adT := ae zC; clear zD zC; replace OD := eq_true OD; replace OE := eq_true OE; have mg := Option.some.inj (rY.symm.trans Ja); injection mg with mg wu wy; subst mg; subst wy; clear wu; have mg := Option.some.inj (rZ.symm.trans Jb); injection mg with mg wu wy; subst mg; subst wy; clear wu; have aam : 0 ≤ (ah : Int) := od; have aan : ah < (l0.length : Int) := od; obtain ⟨ai7, aus, aut, auu, auv, auw, Uw, am3, am4, Ux, Jc, Jd, Je, Jf⟩ := nT mV.o ah aam aan; obtain rfl : Aq = ai7 := (by injection auw); have am5 := ae Jd; have am6 := ae Jc; clear Jd Jc; have Uy := ae Jf; have Uz := ae Je; clear Jf Je; replace aam := eq_true aam; replace aan := eq_true aan; have mg := Option.some.inj (rY.symm.trans Uw); injection mg with mg wu wy; subst mg; subst wy; clear wu; have mg := Option.some.inj (rZ.symm.trans Ux); injection mg with mg wu wy; subst mg; subst wy; clear wu) | ((with_reducible refine au (f := 44) rfl ?_); refine jG (some 47) Try.func44 #[.slice J4 ((ak l0 ah).f3).length J5, .int .i64 (wrap64 ((wrap64 (tT + 1)) + 1))] (h := ?_); (with_reducible refine (ih k1 (by have := nK.o; omega) _ _ ((ak l0 ah).f3) (wrap64 ((wrap64 (tT + 1)) + 1)) Un _ ?aI ?aJ A9.o).mono ?_); (case aI => repeat (first | exact Uy.o | (with_reducible refine Kd.cB ?_ _) | (with_reducible refine Kd.bO ?_ _) | (with_reducible refine Kd.dH ?_))); (case aJ => exact Uz.o); rintro e w' ⟨rfl, ⟨nd, rfl⟩⟩; refine ⟨_, rfl, ?_⟩))
      go_roundg k1
      case measure => have := nK.o; omega
      case rel => exact ⟨(Un), (wrap64 (ah + 1)), ky, ky, H', ⟨by have := nK.o; omega⟩, by repeat (first | exact bC.refl _ | apply bC.step)⟩
     rw [if_neg c8] at H; have uS : (((ak l0 ah).f2) == (wrap64 (tT + 1))) = false := beq_eq_false_iff_ne.mpr c8; have Cs : (((ak l0 ah).f2) != (wrap64 (tT + 1))) = true := bne_iff_ne.mpr c8; obtain rfl := Option.some.inj H; have Bl : 0 ≤ (ah : Int) := od; have Bn : ah < (l0.length : Int) := od; obtain ⟨Aq, Bo, Bp, J4, J5, Uo, rY, Mr, Ms, rZ, qX, qY, qZ, rf⟩ := nT mV.o ah Bl Bn; cases Uo; have xZ := ae qY; have yc := ae qX; clear qY qX; have Mt := ae rf; have Mv := ae qZ; clear rf qZ; replace Bl := eq_true Bl; replace Bn := eq_true Bn; go_wp2_with (first | ((with_reducible refine au (f := 13) rfl ?_); refine jG (some 18) Try.func13 #[.slice Bo ((ak l0 ah).f0).length Bp, .int .i64 nM] (h := ?_); (with_reducible refine (eH.calls k1 _ _ ((ak l0 ah).f0) nM tT _ ?aI ?aJ A5.o).mono ?_); (case aI => repeat (first | exact xZ.o | (with_reducible refine Kd.cB ?_ _) | (with_reducible refine Kd.bO ?_ _) | (with_reducible refine Kd.dH ?_))); (case aJ => exact yc.o); rintro e w' ⟨rfl, ⟨nd, rfl⟩⟩; refine ⟨_, rfl, ?_⟩; have EP : 0 ≤ (ah : Int) := od; have ER : ah < (l0.length : Int) := od; obtain ⟨OC, aah, aai, aaj, aak, aal, Bq, Uq, Ur, Br, uG, uH, uI, uJ⟩ := nT mV.o ah EP ER; obtain rfl : Aq = OC := (by injection aal); have Us := ae uH; have Ut := ae uG; clear uH uG; have Uu := ae uJ; have Uv := ae uI; clear uJ uI; replace EP := eq_true EP; replace ER := eq_true ER; have mg := Option.some.inj (rY.symm.trans Bq); injection mg with mg wu wy; subst mg; subst wy; clear wu; have mg := Option.some.inj (rZ.symm.trans Br); injection mg with mg wu wy; subst mg; subst wy; clear wu; have OD : 0 ≤ (ah : Int) := od; have OE : ah < (l0.length : Int) := od; obtain ⟨WT, ai2, ai3, ai4, ai5, ai6, Ja, adO, adP, Jb, zA, zB, zC, zD⟩ := nT mV.o ah OD OE; obtain rfl : Aq = WT := (by injection ai6); have adQ := ae zB; have adR := ae zA; clear zB zA; have adS := ae zD; have adT := ae zC; clear zD zC; replace OD := eq_true OD; replace OE := eq_true OE; have mg := Option.some.inj (rY.symm.trans Ja); injection mg with mg wu wy; subst mg; subst wy; clear wu; have mg := Option.some.inj (rZ.symm.trans Jb); injection mg with mg wu wy; subst mg; subst wy; clear wu))
     go_ret; exact ⟨by first | rfl | (simp; done) | (simp [*]; done), by repeat (first | exact bC.refl _ | apply bC.step)⟩
    rw [if_neg c4] at H; exact absurd H (by simp)
   rw [if_neg c3] at H; have jP : decide (ah < (l0.length : Int)) = false := decide_eq_false c3; clear c3; obtain rfl := Option.some.inj H; go_wp2; go_ret; exact ⟨by first | rfl | (simp; done) | (simp [*]; done), by repeat (first | exact bC.refl _ | apply bC.step)⟩
def nE.f (k : Nat) (bH : List Int) (b_ : Bool) (dI : Int) (aX : List (dR)) (a1 : Int) : Option (Int) := (eH.f k bH a1).bind fun J6 => (if J6 < 0 then (some (-1)) else ((eQ.f k aX J6).bind fun WU => (if WU < 0 then (some (-1)) else (some WU))))
set_option maxHeartbeats 8000000 in
set_option maxRecDepth 100000 in
theorem nE.calls (k : Nat) (d_ : Option Addr) (dY : Nat) (bH : List Int) (b_ : Bool) (dI : Int) (jU : Option Addr) (iI : Nat) (aX : List (dR)) (a1 : Int) (r : Int) (w : World) (nI : Kd.C (Kd.int .u8) w d_ bH.length bH) (nJ : bH.length ≤ dY) (CK : Kd.C qp w jU aX.length aX) (CL : aX.length ≤ iI) (h : nE.f k bH b_ dI aX a1 = some r) :
  Calls Try.prog 18 #[.agg #[.slice d_ bH.length dY, .bool b_, .int .i64 dI, .slice jU aX.length iI], .int .i64 a1] w fun e w' => e = .returned (.int .i64 r) ∧ Below w.heap.size w w' := by
 have QN := Try.underlying46; have BG := ae nI; have mX := ae nJ; clear nI nJ; have ahX := ae CK; have Qr := ae CL; clear CK CL; have HB := ae (Below.refl w.heap.size w); rw [nE.f] at h; have H := h; clear h; replace H := ni H; obtain ⟨J6, A3, H⟩ := H; by_cases c4 : J6 < 0
 ·rw [if_pos c4] at H
  have mF : decide (J6 < 0) = true := decide_eq_true c4; clear c4; obtain rfl := Option.some.inj H; go_enter Try.func18, Try.ntmps18; go_wp2_with (first | ((with_reducible refine aD (N := 2) rfl ?_); refine je 2 #[.slice d_ bH.length dY, .bool b_, .int .i64 dI, .slice jU aX.length iI] 46 (h := ?_); intro WV hg w5 hbox hb; have KO := ae (hbox); have WW := ae ((by rw [hg]; exact (af bG) : w.heap.size ≤ WV)); have apd := WW; replace HB := eU hb; clear hb hbox hg; have C6 := aT KO.o trivial; have F6 := dK KO.o) | ((with_reducible refine au (f := 13) rfl ?_); refine jG (some 8) Try.func13 #[.slice d_ bH.length dY, .int .i64 a1] (h := ?_); (with_reducible refine (eH.calls k _ _ bH a1 J6 _ ?aI ?aJ A3.o).mono ?_); (case aI => exact fT); (case aJ => exact mX.o); rintro e w' ⟨rfl, ⟨nd, rfl⟩⟩; refine ⟨_, rfl, ?_⟩))
  go_ret; exact ⟨ku, bG⟩
 rw [if_neg c4] at H; have mF : decide (J6 < 0) = false := decide_eq_false c4; clear c4; replace H := ni H; obtain ⟨WU, A7, H⟩ := H; by_cases c8 : WU < 0
 ·rw [if_pos c8] at H
  have uS : decide (WU < 0) = true := decide_eq_true c8; clear c8; obtain rfl := Option.some.inj H; go_enter Try.func18, Try.ntmps18; go_wp2_with (first | ((with_reducible refine aD (N := 2) rfl ?_); refine je 2 #[.slice d_ bH.length dY, .bool b_, .int .i64 dI, .slice jU aX.length iI] 46 (h := ?_); intro WV hg w9 hbox hb; have KO := ae (hbox); have WW := ae ((by rw [hg]; exact (af bG) : w.heap.size ≤ WV)); have apd := WW; replace HB := eU hb; clear hb hbox hg; have C10 := aT KO.o trivial; have F10 := dK KO.o) | ((with_reducible refine au (f := 13) rfl ?_); refine jG (some 8) Try.func13 #[.slice d_ bH.length dY, .int .i64 a1] (h := ?_); (with_reducible refine (eH.calls k _ _ bH a1 J6 _ ?aI ?aJ A3.o).mono ?_); (case aI => exact fT); (case aJ => exact mX.o); rintro e w' ⟨rfl, ⟨nd, rfl⟩⟩; refine ⟨_, rfl, ?_⟩) | ((with_reducible refine au (f := 44) rfl ?_); refine jG (some 14) Try.func44 #[.slice jU aX.length iI, .int .i64 J6] (h := ?_); (with_reducible refine (eQ.calls k _ _ aX J6 WU _ ?aI ?aJ A7.o).mono ?_); (case aI => exact fT); (case aJ => exact Qr.o); rintro e w' ⟨rfl, ⟨nd, rfl⟩⟩; refine ⟨_, rfl, ?_⟩))
  go_ret; exact ⟨ku, bG⟩
 rw [if_neg c8] at H; have uS : decide (WU < 0) = false := decide_eq_false c8; clear c8; obtain rfl := Option.some.inj H; go_enter Try.func18, Try.ntmps18; go_wp2_with (first | ((with_reducible refine aD (N := 2) rfl ?_); refine je 2 #[.slice d_ bH.length dY, .bool b_, .int .i64 dI, .slice jU aX.length iI] 46 (h := ?_); intro WV hg sS hbox hb; have KO := ae (hbox); have WW := ae ((by rw [hg]; exact (af bG) : w.heap.size ≤ WV)); have apd := WW; replace HB := eU hb; clear hb hbox hg; have C12 := aT KO.o trivial; have F12 := dK KO.o) | ((with_reducible refine au (f := 13) rfl ?_); refine jG (some 8) Try.func13 #[.slice d_ bH.length dY, .int .i64 a1] (h := ?_); (with_reducible refine (eH.calls k _ _ bH a1 J6 _ ?aI ?aJ A3.o).mono ?_); (case aI => exact fT); (case aJ => exact mX.o); rintro e w' ⟨rfl, ⟨nd, rfl⟩⟩; refine ⟨_, rfl, ?_⟩) | ((with_reducible refine au (f := 44) rfl ?_); refine jG (some 14) Try.func44 #[.slice jU aX.length iI, .int .i64 J6] (h := ?_); (with_reducible refine (eQ.calls k _ _ aX J6 WU _ ?aI ?aJ A7.o).mono ?_); (case aI => exact fT); (case aJ => exact Qr.o); rintro e w' ⟨rfl, ⟨nd, rfl⟩⟩; refine ⟨_, rfl, ?_⟩))
 go_ret; exact ⟨ku, bG⟩
theorem adU {W : World} {base g n cap : Nat} {ok oki : Nat → Prop} {xs : List dR} {i : Int} {c : List Value} (h : Kd.H yu 46 W base ok (.slice (some ⟨g, 0, none⟩) n cap) xs i oki c) (h0 : 0 ≤ i) (h1 : i < n) : (∀ j u, c[j]? = some u → W.cell? ⟨g, i.toNat * 4 + j, none⟩ = some u) ∧ ∀ j, W.frozen? ⟨g, i.toNat * 4 + j, none⟩ = false := by
  obtain ⟨rows, _, hraw, _, _, hcc, _⟩ := Kd.anx h h0 h1; obtain ⟨_, _, _, _, hfr⟩ := Kd.yz hraw [] i h0 h1; exact ⟨hcc, hfr⟩
def aW.row (a : Int) (n : Nat) : List Int := (List.range n).map (fun (i : Nat) => (a + (i : Int)) % 256)
def aW.list (g : List Int → Int → Option (Int × List Int)) (rec : List dR → Int → Option (Int × List dR)) : List dR → Int → Option (Int × List dR)
  | [], a => some (a, [])
  | x :: xs, a => (g x.f0 a).bind fun b => if (0 ≤ b.1 ∧ b.1 ≤ 1000000000) ∧ b.1 = a + (x.f0.length : Int) ∧ b.2 = aW.row a x.f0.length then (rec x.f3 (b.1 + 1 + 1)).bind fun c => (aW.list g rec xs c.1).bind fun d => some (d.1, ⟨b.2, Int.tmod b.1 3 == 0, b.1 + 1, c.2⟩ :: d.2) else none
def aW.rows (kb : Nat) : Nat → List dR → Int → Option (Int × List dR)
  | 0 => fun _ _ => none
  | k + 1 => aW.list (fB.f kb) (aW.rows kb k)
def aW.g (k : Nat) (l0 : List Int) (l3 : List dR) (a : Int) : Option (Int × List Int × List dR) :=
  (fB.f k l0 a).bind fun b => if b.1 = a + (l0.length : Int) ∧ b.2 = aW.row a l0.length then (aW.rows k k l3 b.1).bind fun c => some (c.1, b.2, c.2) else none
def aW.f (k : Nat) (l0 : List Int) (_a1 : Bool) (_a2 : Int) (l3 : List dR) (a : Int) : Option Int := (aW.g k l0 l3 a).bind fun m => some m.1
def mi.f (k : Nat) (l0 : List Int) (a1 : Bool) (a2 : Int) (l3 : List dR) (a : Int) : Option Int := (aW.g k l0 l3 1).bind fun m => nE.f k m.2.1 a1 a2 m.2.2 a
set_option maxHeartbeats 16000000 in
set_option maxRecDepth 100000 in
theorem aW.deep (kb k : Nat) : ∀ (rq : Nat → Prop) (v : Value) (l : List dR) (a r : Int) (m : List dR) (w0 w : World) (hB : Below w0.heap.size w0 w) (ho : Kd.S yu 46 w w0.heap.size rq v l) (h : aW.rows kb k l a = some (r, m)),
    Calls Try.prog 43 #[v, .int .i64 a] w fun e w' => e = .returned (.int .i64 r) ∧ Kd.S yu 46 w' w0.heap.size rq v m ∧ Below w0.heap.size w0 w' ∧ Kept w w' rq := by
  induction k with
  | zero => intro _ _ _ _ _ _ _ _ _ _ h; exact absurd h (by simp [aW.rows])
  | succ k ih =>
  intro rq v l a r m w0 w hB ho h; obtain ⟨A, c, rfl⟩ := Kd.tY ho; simp only [aW.rows] at h; have HS0 := ae ho; have HB := ae hB; have H0 := ae h; have IH := ae ih; clear ho hB h ih; go_enter Try.func43, Try.ntmps43; go_wp2; go_loopg [1, 5] l.length (fun gg v1 v5 wr => ∃ (x N1 : Int) (cur : List dR), v1 = .int .i64 N1 ∧ v5 = .int .i64 x ∧ 0 ≤ x ∧ x ≤ (l.length : Int) ∧ l.length - x.toNat ≤ gg ∧ ai (cur.length = l.length ∧ cur.drop x.toNat = l.drop x.toNat) ∧ ai (∃ m', aW.list (fB.f kb) (aW.rows kb k) (l.drop x.toNat) N1 = some (r, m') ∧ m = cur.take x.toNat ++ m') ∧ ai (Kd.S yu 46 wr w0.heap.size rq (.slice A l.length c) cur) ∧ ai (Below w0.heap.size w0 wr) ∧ ai (Kept w wr rq))
  case atStart => exact ⟨0, a, l, rfl, rfl, by omega, by omega, by omega, ⟨rfl, rfl⟩, ⟨m, H0.out, by simp⟩, HS0, HB, ⟨Kept.refl _ _⟩⟩
  case round =>
    obtain ⟨x, N1, cur, rfl, rfl, hx0, hx1, hg, HL, HF, HS, HBr, HK⟩ := hrel; by_cases hlt : x < (l.length : Int)
    · have hn : x.toNat < l.length := by omega
      have hn' : x.toNat < cur.length := by rw [HL.o.1]; exact hn
      obtain ⟨g, cap, e, hbg, hgl, cells, hcell⟩ := Kd.XU HS.o (by omega); injection e with ea en ec; subst ea; obtain ⟨oki, cs, hcl, hM, _, _, hoki, hH⟩ := Kd.MR HS.o z46 x hx0 (by omega); obtain ⟨oka, v0, v3, rfl, hv0, hv3⟩ := XK hM
      have hrow : cur.getD x.toNat z46 = l[x.toNat] := by
        have h1 := HL.o.2; rw [List.drop_eq_getElem_cons hn, List.drop_eq_getElem_cons hn'] at h1; rw [List.getD_eq_getElem?_getD, List.getElem?_eq_getElem hn', Option.getD_some]; exact (List.cons.inj h1).1
      have htail : cur.drop (x.toNat + 1) = l.drop (x.toNat + 1) := by
        have h1 := HL.o.2; rw [List.drop_eq_getElem_cons hn, List.drop_eq_getElem_cons hn'] at h1; exact (List.cons.inj h1).2
      rw [hrow] at hv0 hv3 hH; obtain ⟨m', hf, hm⟩ := HF.o; rw [List.drop_eq_getElem_cons hn, aW.list] at hf; generalize l[x.toNat] = y at hv0 hv3 hH hf; obtain ⟨⟨b1, b2⟩, hb, hf⟩ := Option.bind_eq_some_iff.mp hf; simp only at hf; split at hf
      case isFalse => cases hf
      case isTrue am7 =>
      have hbb := am7.1; clear am7; obtain ⟨⟨c1, c2⟩, hc, hf⟩ := Option.bind_eq_some_iff.mp hf; obtain ⟨⟨d1, d2⟩, hd, hf⟩ := Option.bind_eq_some_iff.mp hf; simp only [Option.some.injEq, Prod.mk.injEq] at hf hc hd; obtain ⟨rfl, rfl⟩ := hf; obtain ⟨A0, c0, rfl⟩ := Kd.eB hv0; obtain ⟨A3, c3, rfl⟩ := Kd.tY hv3; have hcc := (adU hH hx0 (by omega)).1; have YL : wr.cell? ⟨g, x.toNat * 4, none⟩ = some (.slice A0 y.f0.length c0) := hcc 0 _ rfl; have hw1 : wrap64 (b1 + 1) = b1 + 1 := by unfold wrap64; omega
      have hw2 : wrap64 (b1 + 1 + 1) = b1 + 1 + 1 := by unfold wrap64; omega
      have hwx : wrap64 (x + 1) = x + 1 := by have := (Kd.Ck HS.o).2.2.2.1; unfold wrap64; omega
      have HNG := ae (show ∀ k, oki k → k ≠ g from fun k hk => (hoki k hk).2); have HLT := ae (show x < (l.length : Int) from hlt); have HGB := ae hbg; have HV0 := ae hv0; have HV3 := ae hv3; have HH := ae hH; have HOK := ae hoki; have HBB := ae hb; have HCC := ae hc; have HDD := ae hd; have HMM := ae hm; have HN2 := ae hn'; have HTL := ae htail; have HG := ae hg; have HX0 := ae hx0; have HWX := ae hwx; clear hv0 hv3 hH hoki hb hc hd hm hrow htail hcc hcl hcell hgl hbg en ec hg hM hbb hlt hn hn' hx1; have e1 : decide (x < (l.length : Int)) = true := decide_eq_true HLT.o; have p5 : (0 ≤ x) = True := eq_true hx0; have q5 : (x < (l.length : Int)) = True := eq_true HLT.o
      go_wp2_with (first
        | ((with_reducible refine au (f := 12) rfl ?_); refine jG (some 18) Try.func12 #[.slice A0 y.f0.length c0, .int .i64 N1] (h := ?_); refine (fB.calls kb (fun k_ => oki k_ ∧ oka k_) (.slice A0 y.f0.length c0) y.f0 N1 b1 b2 w0 wr HBr.o HV0.o HBB.o).mono ?_; rintro e w8 ⟨rfl, ho, hb8, hk8⟩; refine ⟨_, rfl, ?_⟩; have HO8 := ae (Kd.dF (Kd.Ay rfl ho) (fun k e_ => HV0.o.1 k e_.symm)); have HB8 := ae hb8; have HK8 := ae hk8; have HH8 := ae (Kd.agJ HH.o hk8 (fun k _ hno hs => hno hs.1)); have HV8 := ae (Kd.agI HV3.o hk8 (fun k hk hs => hk.2 hs.2)); clear ho hb8 hk8; obtain ⟨am8, auy⟩ := adU HH8.o HX0.o HLT.o; have Rz : w8.cell? ⟨g, x.toNat * 4 + 1, none⟩ = some (.bool y.f1) := am8 1 _ rfl; have YM : w8.cell? ⟨g, x.toNat * 4 + 2, none⟩ = some (.int .i64 y.f2) := am8 2 _ rfl; have ahf : w8.cell? ⟨g, x.toNat * 4 + 3, none⟩ = some (.slice A3 y.f3.length c3) := am8 3 _ rfl; have aG_ := auy 1; have aG' := auy 2; clear am8 auy)
        | (go_at_call 43; refine (IH.out (fun k_ => oki k_ ∧ ¬ oka k_) (.slice A3 y.f3.length c3) y.f3 (b1 + 1 + 1) c1 c2 w0 _ ?hB ?hS HCC.o).mono ?_; (case hB => exact (HB8.o.setCell HGB.o _).setCell HGB.o _); (case hS => exact Kd.sF (p := ⟨g, x.toNat * 4 + 2, none⟩) (Kd.sF (p := ⟨g, x.toNat * 4 + 1, none⟩) HV8.o (fun k hk => HNG.o k hk.1) _) (fun k hk => HNG.o k hk.1) _); rintro e sS ⟨rfl, ho3, aAC, aAD⟩; have aHc := ae ho3; have aHd := ae aAC; have auz := ae aAD; clear ho3 aAC aAD))
      go_roundg (l.length - (x.toNat + 1))
      case measure => have := HG.o; have := HLT.o; omega
      case rel =>
        have hx0 := HX0.o; have ex : (x + 1).toNat = x.toNat + 1 := by omega
        have hn' := HN2.o; have aHe := (Kd.anz HH8.o HX0.o HLT.o (seg := [.bool (Int.tmod b1 3 == 0), .int .i64 (b1 + 1)]) (j := 1) (by show 1 + 2 ≤ 4; omega) (by intro q hq; simp at hq; rcases hq with rfl | rfl <;> rfl)).1; have aHf := Kd.agJ aHe auz.o (fun k _ hno hs => hno hs.1); have hr0 := Kd.agH (Kd.nG (p := ⟨g, x.toNat * 4 + 2, none⟩) (Kd.nG (p := ⟨g, x.toNat * 4 + 1, none⟩) HO8.o (fun k hk => HNG.o k hk.1) (.bool (Int.tmod b1 3 == 0))) (fun k hk => HNG.o k hk.1) (.int .i64 (b1 + 1))) auz.o (fun k hk hs => hs.2 hk.2); have hs1 := Kd.agG aHf (x' := ⟨b2, Int.tmod b1 3 == 0, b1 + 1, c2⟩) (okp := oki) (Va _ _ oki oka ⟨b2, Int.tmod b1 3 == 0, b1 + 1, c2⟩ hr0 aHc.o) (fun k hk => hk); refine ⟨x + 1, c1, cur.set x.toNat ⟨b2, Int.tmod b1 3 == 0, b1 + 1, c2⟩, by first | rfl | simp, by first | rw [HWX.o] | simp [HWX.o], by omega, by have := HLT.o; omega, by have := HG.o; omega, ⟨?_, ?_⟩, ⟨d2, ?_, ?_⟩, ⟨hs1⟩, aHd, ⟨?_⟩⟩
        · rw [List.length_set]; exact HL.o.1
        · rw [ex, List.drop_set_of_lt (by omega)]; exact HTL.o
        · rw [ex]; exact HDD.o
        · rw [ex, HMM.o, List.take_add_one, List.take_set_of_le (by omega), List.getElem?_set_self hn', Option.toList_some, List.append_assoc]
          rfl
        · refine HK.o.Fq ((HK8.o.mono (S' := fun k => oki k ∨ k = g) (fun k hk => .inl hk.1)).Fq (S2 := fun k => oki k ∨ k = g) ((((Kept.refl w8 (fun k => oki k ∨ k = g)).setCell (p := ⟨g, x.toNat * 4 + 1, none⟩) (.inl (.inr rfl)) (.bool (Int.tmod b1 3 == 0))).setCell (p := ⟨g, x.toNat * 4 + 2, none⟩) (.inl (.inr rfl)) (.int .i64 (b1 + 1))).Fq auz.o (fun k hk => .inl (.inl hk.1))) (fun k hk => .inl hk)) (fun k hk => .inl ?_)
          rcases hk with hk | rfl
          · exact (HOK.o k hk).1
          · exact HS.o.elim (fun _ h_ => h_.1 _ rfl)
    · have hx : x.toNat = l.length := by omega
      obtain ⟨m', hf, hm⟩ := HF.o; rw [hx, List.drop_length, aW.list] at hf; simp only [Option.some.injEq, Prod.mk.injEq] at hf; obtain ⟨rfl, rfl⟩ := hf; rw [hx, List.append_nil, List.take_of_length_le (by rw [HL.o.1]; exact Nat.le_refl _)] at hm; have e1 : decide (x < (l.length : Int)) = false := decide_eq_false hlt; go_wp2; go_ret; exact ⟨rfl, by first | exact HS.o | (rw [hm]; exact HS.o), HBr.o, HK.o⟩
set_option maxHeartbeats 16000000 in
set_option maxRecDepth 100000 in
theorem aW.calls (k : Nat) (rq : Nat → Prop) (u0 u3 : Value) (l0 : List Int) (a1 : Bool) (a2 : Int) (l3 : List dR) (a4 r : Int) (m0 : List Int) (m3 : List dR) (w0 w : World) (hB : Below w0.heap.size w0 w) (ho : oP w w0.heap.size rq u0 u3 l0 l3) (h : aW.g k l0 l3 a4 = some (r, m0, m3)) :
    Calls Try.prog 17 #[.agg #[u0, .bool a1, .int .i64 a2, u3], .int .i64 a4] w fun e w' => e = .returned (.int .i64 r) ∧ oP w' w0.heap.size rq u0 u3 m0 m3 ∧ Below w0.heap.size w0 w' ∧ Kept w w' rq := by
  have hu := Try.underlying30; obtain ⟨A0, c0, A3, c3, rfl, rfl⟩ := ho.tr.slices; obtain ⟨⟨b1, b2⟩, hb, h⟩ := Option.bind_eq_some_iff.mp h; simp only at h; split at h
  case isFalse => cases h
  case isTrue am7 =>
  clear am7; obtain ⟨⟨c1, c2⟩, hc, h⟩ := Option.bind_eq_some_iff.mp h; simp only [Option.some.injEq, Prod.mk.injEq] at h hc; obtain ⟨rfl, rfl, rfl⟩ := h; obtain ⟨oka, h0, h3⟩ := ho; have H0 := ae (Kd.dF (Kd.jY h0) (fun k hk => (⟨hk.1, hk.2.2.1⟩ : (rq k ∧ oka k) ∧ k < w.heap.size))); have H3 := ae (Kd.iA (Kd.Az h3) (fun k hk => (⟨hk.1, hk.2.2.1⟩ : (rq k ∧ ¬ oka k) ∧ k < w.heap.size))); have HBB := ae hB; have HB1 := ae hb; have OX := ae hc; clear h0 h3 hB hb hc; go_enter Try.func17, Try.ntmps17
  go_wp2_with (first
    | ((with_reducible refine aD (N := 2) rfl ?_); refine je 2 #[.slice A0 l0.length c0, .bool a1, .int .i64 a2, .slice A3 l3.length c3] 46 (h := ?_); intro Jo hg w1 hbox hb; have E5 := ae (hbox); have HG1 := ae hg; have HX1 := ae hb; clear hb hbox hg; have aHg : w1.cell? ⟨Jo, 0, none⟩ = some (.slice A0 l0.length c0) := (aY E5.o 0).trans rfl)
    | ((with_reducible refine au (f := 12) rfl ?_); refine jG (some 8) Try.func12 #[.slice A0 l0.length c0, .int .i64 a4] (h := ?_); refine (fB.calls k (fun k_ => (rq k_ ∧ oka k_) ∧ k_ < w.heap.size) _ l0 a4 b1 b2 w0 w1 (Ex HBB.o HX1.o) (Kd.rG H0.out HX1.o) HB1.o).mono ?_; rintro e w2 ⟨rfl, ho, hb2, hk2⟩; refine ⟨_, rfl, ?_⟩; have HO2 := ae (Kd.dF (Kd.Ay rfl ho) (fun k e_ => H0.out.1 k e_.symm)); have HB2 := ae hb2; have uQ := ae hk2; have BK2 := ae (oW E5.o hk2 (fun h_ => by have := h_.2; have := HG1.o; omega)); clear ho hb2 hk2; have aHh : w2.cell? ⟨Jo, 3, none⟩ = some (.slice A3 l3.length c3) := (aY BK2.o 3).trans rfl)
    | ((with_reducible refine au (f := 43) rfl ?_); refine jG (some 12) Try.func43 #[.slice A3 l3.length c3, .int .i64 b1] (h := ?_); refine (aW.deep k k (fun k_ => (rq k_ ∧ ¬ oka k_) ∧ k_ < w.heap.size) _ l3 b1 c1 c2 w0 w2 HB2.o (Kd.agI (Kd.vM H3.out HX1.o) uQ.o (fun k_ h_ hs_ => h_.1.2 hs_.1.2)) OX.o).mono ?_; rintro e w3 ⟨rfl, ho3, hb3, hk3⟩; refine ⟨_, rfl, ?_⟩; have HO3 := ae ho3; have HB3 := ae hb3; have BP := ae hk3; clear ho3 hb3 hk3))
  go_ret; exact ⟨rfl, ⟨oka, Kd.dF (Kd.agH HO2.o BP.o (fun k_ h_ hs_ => hs_.1.2 h_.1.2)) (fun _ h_ => h_.1), Kd.iA HO3.o (fun _ h_ => h_.1)⟩, HB3.o, (((Kept.of_below HX1.o rq).Fq uQ.o (fun _ h_ => .inl h_.1.1)).Fq BP.o (fun _ h_ => .inl h_.1.1))⟩
theorem aW.WX {g g' : List Int → Int → Option (Int × List Int)} {rec rec' : List dR → Int → Option (Int × List dR)} (hr : ∀ l a x y, rec l a = some x → rec' l a = some y → x = y) :
    ∀ (l : List dR) (a : Int) (x y : Int × List dR), aW.list g rec l a = some x → aW.list g' rec' l a = some y → x = y
  | [], a, x, y, h, h' => by
    rw [aW.list] at h h'
    exact Option.some.inj (h.symm.trans h')
  | z :: zs, a, x, y, h, h' => by
    rw [aW.list] at h h'
    obtain ⟨b, _, h⟩ := Option.bind_eq_some_iff.mp h
    obtain ⟨b', _, h'⟩ := Option.bind_eq_some_iff.mp h'
    split at h
    case isFalse => cases h
    case isTrue hb =>
    split at h'
    case isFalse => cases h'
    case isTrue hb' =>
    obtain ⟨c, hc, h⟩ := Option.bind_eq_some_iff.mp h
    obtain ⟨c', hc', h'⟩ := Option.bind_eq_some_iff.mp h'
    obtain ⟨d, hd, h⟩ := Option.bind_eq_some_iff.mp h
    obtain ⟨d', hd', h'⟩ := Option.bind_eq_some_iff.mp h'
    have e1 : b'.1 = b.1 := hb'.2.1.trans hb.2.1.symm
    have e2 : b'.2 = b.2 := hb'.2.2.trans hb.2.2.symm
    rw [e1] at hc'
    obtain rfl := hr _ _ _ _ hc hc'
    obtain rfl := aW.WX hr zs _ _ _ hd hd'
    rw [e1, e2] at h'
    exact Option.some.inj (h.symm.trans h')
theorem aW.WY (kb kb' : Nat) : ∀ (k k' : Nat) (l : List dR) (a : Int) (x y : Int × List dR), aW.rows kb k l a = some x → aW.rows kb' k' l a = some y → x = y
  | 0, _, _, _, _, _, h, _ => by cases h
  | _ + 1, 0, _, _, _, _, _, h => by cases h
  | k + 1, k' + 1, l, a, x, y, h, h' => aW.WX (fun l a x y => aW.WY kb kb' k k' l a x y) l a x y h h'
theorem aW.one {k k' : Nat} {l0 : List Int} {l3 : List dR} {a : Int} {x y : Int × List Int × List dR} (h : aW.g k l0 l3 a = some x) (h' : aW.g k' l0 l3 a = some y) : x = y := by
  unfold aW.g at h h'; obtain ⟨b, _, h⟩ := Option.bind_eq_some_iff.mp h; obtain ⟨b', _, h'⟩ := Option.bind_eq_some_iff.mp h'; split at h
  case isFalse => cases h
  case isTrue hb =>
  split at h'
  case isFalse => cases h'
  case isTrue hb' =>
  obtain ⟨c, hc, h⟩ := Option.bind_eq_some_iff.mp h; obtain ⟨c', hc', h'⟩ := Option.bind_eq_some_iff.mp h'; have e1 : b'.1 = b.1 := hb'.1.trans hb.1.symm; have e2 : b'.2 = b.2 := hb'.2.trans hb.2.symm; rw [e1] at hc'; obtain rfl := aW.WY _ _ _ _ _ _ _ _ hc hc'; rw [e2] at h'; exact Option.some.inj (h.symm.trans h')
theorem aW.get {k : Nat} {l0 : List Int} {a1 : Bool} {a2 : Int} {l3 : List dR} {a r : Int} (h : aW.f k l0 a1 a2 l3 a = some r) : ∃ m0 m3, aW.g k l0 l3 a = some (r, m0, m3) := by
  obtain ⟨⟨r', m0, m3⟩, h1, h2⟩ := Option.bind_eq_some_iff.mp h; exact ⟨m0, m3, by rw [h1, show r' = r from Option.some.inj h2]⟩
theorem mi.get {k k' : Nat} {l0 : List Int} {a1 : Bool} {a2 : Int} {l3 : List dR} {a r n : Int} {m0 : List Int} {m3 : List dR} (hg : aW.g k' l0 l3 1 = some (n, m0, m3)) (h : mi.f k l0 a1 a2 l3 a = some r) : nE.f k m0 a1 a2 m3 a = some r := by
  obtain ⟨x, h1, h2⟩ := Option.bind_eq_some_iff.mp h; obtain rfl := aW.one h1 hg; exact h2
end Go.Proofs.Ytmfedjoofnlncaa.PT
