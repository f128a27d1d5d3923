-- Written for this claim by the session's program pp.py, out of the kit's print and the seat's translation.
import Derived.Test.YtoaddpfoecggpaaPSx0
import Derived.Test.YtoaddpfoecggpaaPSx5
import Derived.Test.YtoaddpfoecggpaaPSx7
namespace Go.Proofs.Ytoaddpfoecggpaa.PS
open Go.RowKit Go.Proofs.YtoaddpfoecggpaaW.PrintWords Go.Proofs.YtoaddpfoecggpaaW.PrintLast Go.Proofs.YtoaddpfoecggpaaW.PrintMore
attribute [local go_sem] max2_int min2_int max_two min_two max_three min_three max_four min_four   -- for this text's walks alone
set_option linter.unusedVariables false
set_option linter.unusedSimpArgs false

/-! ### laws_heldByteSS: function 40 -/
def laws_heldByteSS.l0 : Nat → List (List Int) → Int → Int → Option (Int)
 | 0, _, _, _ => none
 | k + 1, x0, x1, x5 => if x5 < (x0.length : Int) then (if 0 ≤ x5 then ((laws_heldByteS.f k (rd_L1 x0 x5) x1).bind fun t234 => (if t234 < 0 then (some (-1)) else (laws_heldByteSS.l0 k x0 t234 (wrap64 (x5 + 1))))) else (none)) else (some x1)
def laws_heldByteSS.f (k : Nat) (l0 : List (List Int)) (a1 : Int) : Option (Int) := laws_heldByteSS.l0 k l0 a1 0
set_option maxHeartbeats 8000000 in
set_option maxRecDepth 100000 in
theorem laws_heldByteSS.calls (k : Nat) (A0 : Option Addr) (c0 : Nat) (l0 : List (List Int)) (a1 : Int) (r : Int) (w : World) (hr0 : Kd.C (Kd.slice 5 (Kd.int .u8)) w A0 l0.length l0) (hc0 : l0.length ≤ c0) (h : laws_heldByteSS.f k l0 a1 = some r) :
  Calls Try.prog 40 #[.slice A0 l0.length c0, .int .i64 a1] w fun e w' => e = .returned (.int .i64 r) ∧ Drawn0 w w' := by
 have HR0 := Aside0.mk hr0
 have HC0 := Aside0.mk hc0
 clear hr0 hc0
 have H : (laws_heldByteSS.l0 k l0 a1 0) = some r := h
 clear h
 have H' := Aside0.mk H
 clear H
 go_enter Try.func40, Try.ntmps40
 go_wp2
 go_loopg [1, 5] k (fun kq v1 v5 w' => ∃ (x1_1 : Int) (x5_1 : Int), v1 = .int .i64 x1_1 ∧ v5 = .int .i64 x5_1 ∧ Aside0 (laws_heldByteSS.l0 kq l0 x1_1 x5_1 = some r) ∧ Aside0 (kq ≤ k) ∧ Drawn0 w w')
 case atStart => exact ⟨(a1), (0), rs_, rs_, H', ⟨Nat.le_refl _⟩, by repeat (first | exact Drawn0.refl _ | apply Drawn0.step)⟩
 case round =>
  clear H'
  try clear p2
  obtain ⟨x1_1, x5_1, rfl, rfl, HA, HK1, ⟨m1, rfl⟩⟩ := hrel
  cases gk with
  | zero => exact absurd HA.out (by simp [laws_heldByteSS.l0])
  | succ k1 =>
   have H := HA.out
   clear HA
   simp only [laws_heldByteSS.l0] at H
   by_cases c3 : x5_1 < (l0.length : Int)
   ·rw [if_pos c3] at H
    have c3b0 : decide (x5_1 < (l0.length : Int)) = true := decide_eq_true c3
    clear c3
    by_cases c4 : 0 ≤ x5_1
    ·rw [if_pos c4] at H
     have c4b0 : decide (0 ≤ x5_1) = true := decide_eq_true c4
     clear c4
     replace H := Option.bind_eq_some_iff.mp H
     obtain ⟨t234, A50, H⟩ := H
     replace H : (if t234 < 0 then (some (-1)) else (laws_heldByteSS.l0 k1 l0 t234 (wrap64 (x5_1 + 1)))) = some r := H
     have A5 := Aside0.mk A50
     clear A50
     by_cases c6 : t234 < 0
     ·rw [if_pos c6] at H
      have c6b0 : decide (t234 < 0) = true := decide_eq_true c6
      clear c6
      obtain rfl := Option.some.inj H
      have p233 : 0 ≤ (x5_1 : Int) := od
      have q233 : x5_1 < (l0.length : Int) := od
      obtain ⟨ad233, A233_0, c233_0, e233, hx233_0, hl233_0, hi233_0⟩ := at_L1 HR0.out x5_1 p233 q233
      cases e233
      have HR233_0 := Aside0.mk hi233_0
      have HC233_0 := Aside0.mk hl233_0
      clear hi233_0 hl233_0
      replace p233 := eq_true p233
      replace q233 := eq_true q233
      go_wp2_with (first | ((with_reducible refine gate_callee (f := 35) rfl ?_); refine gl_ (some 17) Try.func35 #[.slice A233_0 (rd_L1 l0 x5_1).length c233_0, .int .i64 x1_1] (h := ?_); (with_reducible refine (laws_heldByteS.calls k1 _ _ (rd_L1 l0 x5_1) x1_1 t234 _ ?side1 ?side2 A5.out).mono ?_); (case side1 => repeat (first | exact HR233_0.out | (with_reducible refine Kd.C_alloc ?_ _) | (with_reducible refine Kd.C_drewN ?_ _) | (with_reducible refine Kd.C_drew ?_))); (case side2 => exact HC233_0.out); rintro e w' ⟨rfl, ⟨nd, rfl⟩⟩; refine ⟨_, rfl, ?_⟩))
      go_ret
      exact ⟨by first | rfl | (simp; done) | (simp [*]; done), by repeat (first | exact Drawn0.refl _ | apply Drawn0.step)⟩
     rw [if_neg c6] at H
     have c6b0 : decide (t234 < 0) = false := decide_eq_false c6
     clear c6
     have H' := Aside0.mk H
     clear H
     have p233 : 0 ≤ (x5_1 : Int) := od
     have q233 : x5_1 < (l0.length : Int) := od
     obtain ⟨ad233, A233_0, c233_0, e233, hx233_0, hl233_0, hi233_0⟩ := at_L1 HR0.out x5_1 p233 q233
     cases e233
     have HR233_0 := Aside0.mk hi233_0
     have HC233_0 := Aside0.mk hl233_0
     clear hi233_0 hl233_0
     replace p233 := eq_true p233
     replace q233 := eq_true q233
     go_wp2_with (first | ((with_reducible refine gate_callee (f := 35) rfl ?_); refine gl_ (some 17) Try.func35 #[.slice A233_0 (rd_L1 l0 x5_1).length c233_0, .int .i64 x1_1] (h := ?_); (with_reducible refine (laws_heldByteS.calls k1 _ _ (rd_L1 l0 x5_1) x1_1 t234 _ ?side1 ?side2 A5.out).mono ?_); (case side1 => repeat (first | exact HR233_0.out | (with_reducible refine Kd.C_alloc ?_ _) | (with_reducible refine Kd.C_drewN ?_ _) | (with_reducible refine Kd.C_drew ?_))); (case side2 => exact HC233_0.out); rintro e w' ⟨rfl, ⟨nd, rfl⟩⟩; refine ⟨_, rfl, ?_⟩))
     go_roundg k1
     case measure => have := HK1.out; omega
     case rel => exact ⟨(t234), (wrap64 (x5_1 + 1)), rs_, rs_, H', ⟨by have := HK1.out; omega⟩, by repeat (first | exact Drawn0.refl _ | apply Drawn0.step)⟩
    rw [if_neg c4] at H
    exact absurd H (by simp)
   rw [if_neg c3] at H
   have c3b0 : decide (x5_1 < (l0.length : Int)) = false := decide_eq_false c3
   clear c3
   obtain rfl := Option.some.inj H
   go_wp2
   go_ret
   exact ⟨by first | rfl | (simp; done) | (simp [*]; done), by repeat (first | exact Drawn0.refl _ | apply Drawn0.step)⟩

/-! ### laws_markByteSS: function 39 -/
/-- A row's marks. -/
def laws_markByteSS.row (a : Int) (n : Nat) : List Int := (List.range n).map (fun (i : Nat) => (a + (i : Int)) % 256)
/-- The rows as they then are. -/
def laws_markByteSS.mk : Int → List (List Int) → List (List Int)
 | _, [] => []
 | a, x :: xs => laws_markByteSS.row a x.length :: laws_markByteSS.mk (a + (x.length : Int)) xs
/-- Marks written row by row: the count. -/
def laws_markByteSS.f (k : Nat) : List (List Int) → Int → Option Int
 | [], a => some a
 | x :: xs, a => (laws_markByteS.f k x a).bind fun b => if b.1 = a + (x.length : Int) ∧ b.2 = laws_markByteSS.row a x.length then laws_markByteSS.f k xs b.1 else none
/-- .. where the row is no longer than the walk bears. -/
def laws_markByteSS1.f (k : Nat) (l : List (List Int)) (a : Int) : Option Int := if l.length < 1000000000 then laws_markByteSS.f k l a else none
/-- What is found of marks that began at one. -/
def laws_heldByteSSm.f (k : Nat) (l : List (List Int)) (a : Int) : Option Int := laws_heldByteSS.f k (laws_markByteSS.mk 1 l) a
theorem laws_markByteSS1.get {k : Nat} {l : List (List Int)} {a r : Int} (h : laws_markByteSS1.f k l a = some r) : l.length < 1000000000 ∧ laws_markByteSS.f k l a = some r := by
 unfold laws_markByteSS1.f at h
 split at h
 case isFalse => cases h
 case isTrue hl => exact ⟨hl, h⟩
set_option maxHeartbeats 4000000 in
set_option maxRecDepth 100000 in
theorem laws_markByteSS.calls (k : Nat) (P0_ : Nat → Prop) (u : Value) (l0 : List (List Int)) (a1 : Int) (r1 : Int) (w0 w : World) (hB : Below w0.heap.size w0 w) (ho0 : Kd.S (Kd.slice 5 (Kd.int .u8)) 22 w w0.heap.size P0_ u l0) (hlen : l0.length < 1000000000) (h : laws_markByteSS.f k l0 a1 = some r1) :
  Calls Try.prog 39 #[u, .int .i64 a1] w fun e w' => e = .returned (.int .i64 r1) ∧ Kd.S (Kd.slice 5 (Kd.int .u8)) 22 w' w0.heap.size (fun k_ => (P0_ k_ ∨ w.heap.size ≤ k_)) u (laws_markByteSS.mk a1 l0) ∧ Below w0.heap.size w0 w' ∧ Kept w w' (fun k_ => P0_ k_) := by
 obtain ⟨A, c, rfl⟩ := Kd.S_slice ho0
 have HS0 := Aside0.mk (Kd.S_mono (ok' := fun k_ => (P0_ k_ ∨ w.heap.size ≤ k_)) ho0 (fun _ h => .inl h))
 have HB := Aside0.mk hB
 have H0 := Aside0.mk h
 have HLEN := Aside0.mk hlen
 clear ho0 hB h hlen
 go_enter Try.func39, Try.ntmps39
 go_wp2
 go_loopg [1, 5] l0.length (fun gg v1 v5 wr => ∃ (x N1 : Int) (cur : List (List Int)), v1 = .int .i64 N1 ∧ v5 = .int .i64 x ∧ 0 ≤ x ∧ x ≤ (l0.length : Int) ∧ l0.length - x.toNat ≤ gg ∧ Aside0 (cur.length = l0.length ∧ cur.drop x.toNat = l0.drop x.toNat) ∧ Aside0 (laws_markByteSS.f k (l0.drop x.toNat) N1 = some r1 ∧ laws_markByteSS.mk a1 l0 = cur.take x.toNat ++ laws_markByteSS.mk N1 (l0.drop x.toNat)) ∧ Aside0 (Kd.S (Kd.slice 5 (Kd.int .u8)) 22 wr w0.heap.size (fun k_ => (P0_ k_ ∨ w.heap.size ≤ k_)) (.slice A l0.length c) cur) ∧ Aside0 (Below w0.heap.size w0 wr) ∧ Aside0 (Kept w wr (fun k_ => P0_ k_)))
 case atStart => exact ⟨0, a1, l0, rfl, rfl, by omega, by omega, by omega, ⟨rfl, rfl⟩, ⟨H0.out, by simp⟩, HS0, HB, ⟨Kept.refl _ _⟩⟩
 case round =>
  obtain ⟨x, N1, cur, rfl, rfl, hx0, hx1, hg, HL, HF, HS, HBr, HK⟩ := hrel
  by_cases hlt : x < (l0.length : Int)
  ·have hn : x.toNat < l0.length := by omega
   have hn' : x.toNat < cur.length := by rw [HL.out.1]; exact hn
   obtain ⟨g, cap, e, hbg, hgl, cells, hcell⟩ := Kd.S_form HS.out (by omega)
   injection e with ea en ec
   subst ea
   obtain ⟨oki, cs, hcl, hM, hcc, hoki, hH⟩ := Kd.S_lend HS.out [] x hx0 (by omega)
   obtain ⟨v, rfl, hv⟩ := hM
   have hrow : cur.getD x.toNat [] = l0[x.toNat] := by
    have h1 := HL.out.2
    rw [List.drop_eq_getElem_cons hn, List.drop_eq_getElem_cons hn'] at h1
    rw [List.getD_eq_getElem?_getD, List.getElem?_eq_getElem hn', Option.getD_some]
    exact (List.cons.inj h1).1
   have htail : cur.drop (x.toNat + 1) = l0.drop (x.toNat + 1) := by
    have h1 := HL.out.2
    rw [List.drop_eq_getElem_cons hn, List.drop_eq_getElem_cons hn'] at h1
    exact (List.cons.inj h1).2
   rw [hrow] at hv
   obtain ⟨hf, hr2⟩ := HF.out
   rw [List.drop_eq_getElem_cons hn, laws_markByteSS.f] at hf
   obtain ⟨⟨b1, b2⟩, hb, hf⟩ := Option.bind_eq_some_iff.mp hf
   simp only at hf
   split at hf
   case isFalse => cases hf
   case isTrue hbb =>
   have ht := hf
   obtain ⟨hb1, hb2⟩ := hbb
   have hmk : laws_markByteSS.mk N1 (l0.drop x.toNat) = b2 :: laws_markByteSS.mk b1 (l0.drop (x.toNat + 1)) := by
    rw [List.drop_eq_getElem_cons hn, laws_markByteSS.mk, hb1, hb2]
   rw [hmk] at hr2
   obtain ⟨Av, cv, rfl⟩ := Kd.R_slice hv
   have hx : wr.cell? ⟨g, x.toNat, none⟩ = some (.slice Av (l0[x.toNat]).length cv) := by
    have h1 := hcc 0 _ rfl
    rw [show (Kd.slice 5 (Kd.int .u8)).sz = 1 from rfl, Nat.mul_one, Nat.add_zero] at h1
    exact h1
   have HV := Aside0.mk hv
   have HT := Aside0.mk ht
   have HBB := Aside0.mk hb
   have HH := Aside0.mk hH
   have HOK := Aside0.mk hoki
   have HR2 := Aside0.mk hr2
   have HN := Aside0.mk hn
   have HN2 := Aside0.mk hn'
   have HTL := Aside0.mk htail
   have HG := Aside0.mk hg
   generalize l0[x.toNat] = row at HV hx HBB HH
   clear hv hr2 ht hb hH hoki hrow htail hcc hcl hcell hgl hbg en ec hg hb1 hb2 hmk hf
   have c1 : decide (x < (l0.length : Int)) = true := decide_eq_true hlt
   have p5 : (0 ≤ x) = True := eq_true hx0
   have q5 : (x < (l0.length : Int)) = True := eq_true hlt
   go_wp2_with (go_at_call 34; refine (laws_markByteS.calls k oki (.slice Av row.length cv) row N1 b1 b2 w0 _ HBr.out HV.out HBB.out).mono ?_; rintro e w3 ⟨rfl, ho, hb3, hk3⟩; have HO3 := Aside0.mk ho; have HB3 := Aside0.mk hb3; have HK3 := Aside0.mk hk3; clear ho hb3 hk3)
   go_roundg (l0.length - (x.toNat + 1))
   case measure => have := HG.out; omega
   case rel =>
    have ex : (x + 1).toNat = x.toNat + 1 := by omega
    have hwx : wrap64 (x + 1) = x + 1 := by unfold wrap64; have := HLEN.out; omega
    have hn := HN.out
    have hn' := HN2.out
    have hs1 : Kd.S (Kd.slice 5 (Kd.int .u8)) 22 w3 w0.heap.size (fun k_ => (P0_ k_ ∨ w.heap.size ≤ k_)) (.slice (some ⟨g, 0, none⟩) l0.length c) (cur.set x.toNat b2) :=
     Kd.H_back (Kd.H_step HH.out (fun k_ _ hno hlt_ => HK3.out.2 k_ hlt_ hno)) (x' := b2) (okp := fun k_ => some k_ = (.slice Av row.length cv : Value).ownBlock) ⟨_, rfl, Kd.R_tight rfl HO3.out⟩ (fun k_ e_ => HV.out.1 k_ e_.symm)
    refine ⟨x + 1, b1, cur.set x.toNat b2, by first | rfl | simp, by first | rw [hwx] | simp [hwx], by omega, by omega, by have := HG.out; omega, ⟨?_, ?_⟩, ⟨?_, ?_⟩, ⟨hs1⟩, HB3, ⟨?_⟩⟩
    ·rw [List.length_set]; exact HL.out.1
    ·rw [ex, List.drop_set_of_lt (by omega)]; exact HTL.out
    ·rw [ex]; exact HT.out
    ·rw [ex, HR2.out, List.take_add_one, List.take_set_of_le (by omega), List.getElem?_set_self hn', Option.toList_some, List.append_assoc]
     rfl
    ·refine HK.out.then_ HK3.out (fun k_ hk => ?_)
     rcases (HOK.out k_ hk).1 with h | h
     ·exact .inl h
     ·exact .inr h
  have hx : x.toNat = l0.length := by omega
  obtain ⟨hf, hr2⟩ := HF.out
  rw [hx, List.drop_length, laws_markByteSS.f] at hf
  injection hf with e1
  subst e1
  rw [hx, List.drop_length, laws_markByteSS.mk, List.append_nil, List.take_of_length_le (by rw [HL.out.1]; exact Nat.le_refl _)] at hr2
  have c1 : decide (x < (l0.length : Int)) = false := decide_eq_false hlt
  go_wp2
  go_ret
  exact ⟨rfl, by first | exact HS.out | (rw [hr2]; exact HS.out), HBr.out, HK.out⟩

end Go.Proofs.Ytoaddpfoecggpaa.PS
