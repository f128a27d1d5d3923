-- Written for this claim by the session's program pp.py, out of the kit's print and the seat's translation.
import Derived.Test.YtdgegnakiljfjaaPTx0
import Derived.Test.YtdgegnakiljfjaaPTx8
namespace Go.Proofs.Ytdgegnakiljfjaa.PT
open Go.RowKit Go.Proofs.YtdgegnakiljfjaaW.PrintWords Go.Proofs.YtdgegnakiljfjaaW.PrintLast Go.Proofs.YtdgegnakiljfjaaW.PrintMore
attribute [local go_sem] max2_int min2_int max_two min_two max_three min_three max_four min_four   -- for this text's walks alone
set_option linter.unusedVariables false
set_option linter.unusedSimpArgs false

/-! ### laws_markByteSS: function 58 -/
/-- A row's marks. -/
def laws_markByteSS.row (a : Int) (n : Nat) : List Int := (List.range n).map (fun (i : Nat) => (a + (i : Int)) % 256)
/-- The rows as they then are. -/
def laws_markByteSS.mk : Int → List (List Int) → List (List Int)
 | _, [] => []
 | a, x :: xs => laws_markByteSS.row a x.length :: laws_markByteSS.mk (a + (x.length : Int)) xs
/-- Marks written row by row: the count. -/
def laws_markByteSS.f (k : Nat) : List (List Int) → Int → Option Int
 | [], a => some a
 | x :: xs, a => (laws_markByteS.f k x a).bind fun b => if b.1 = a + (x.length : Int) ∧ b.2 = laws_markByteSS.row a x.length then laws_markByteSS.f k xs b.1 else none
/-- .. where the row is no longer than the walk bears. -/
def laws_markByteSS1.f (k : Nat) (l : List (List Int)) (a : Int) : Option Int := if l.length < 1000000000 then laws_markByteSS.f k l a else none
/-- What is found of marks that began at one. -/
def laws_heldByteSSm.f (k : Nat) (l : List (List Int)) (a : Int) : Option Int := laws_heldByteSS.f k (laws_markByteSS.mk 1 l) a
theorem laws_markByteSS1.get {k : Nat} {l : List (List Int)} {a r : Int} (h : laws_markByteSS1.f k l a = some r) : l.length < 1000000000 ∧ laws_markByteSS.f k l a = some r := by
 unfold laws_markByteSS1.f at h
 split at h
 case isFalse => cases h
 case isTrue hl => exact ⟨hl, h⟩
set_option maxHeartbeats 4000000 in
set_option maxRecDepth 100000 in
theorem laws_markByteSS.calls (k : Nat) (P0_ : Nat → Prop) (u : Value) (l0 : List (List Int)) (a1 : Int) (r1 : Int) (w0 w : World) (hB : Below w0.heap.size w0 w) (ho0 : Kd.S (Kd.slice 5 (Kd.int .u8)) 52 w w0.heap.size P0_ u l0) (hlen : l0.length < 1000000000) (h : laws_markByteSS.f k l0 a1 = some r1) :
  Calls Try.prog 58 #[u, .int .i64 a1] w fun e w' => e = .returned (.int .i64 r1) ∧ Kd.S (Kd.slice 5 (Kd.int .u8)) 52 w' w0.heap.size (fun k_ => (P0_ k_ ∨ w.heap.size ≤ k_)) u (laws_markByteSS.mk a1 l0) ∧ Below w0.heap.size w0 w' ∧ Kept w w' (fun k_ => P0_ k_) := by
 obtain ⟨A, c, rfl⟩ := Kd.S_slice ho0
 have HS0 := Aside0.mk (Kd.S_mono (ok' := fun k_ => (P0_ k_ ∨ w.heap.size ≤ k_)) ho0 (fun _ h => .inl h))
 have HB := Aside0.mk hB
 have H0 := Aside0.mk h
 have HLEN := Aside0.mk hlen
 clear ho0 hB h hlen
 go_enter Try.func58, Try.ntmps58
 go_wp2
 go_loopg [1, 5] l0.length (fun gg v1 v5 wr => ∃ (x N1 : Int) (cur : List (List Int)), v1 = .int .i64 N1 ∧ v5 = .int .i64 x ∧ 0 ≤ x ∧ x ≤ (l0.length : Int) ∧ l0.length - x.toNat ≤ gg ∧ Aside0 (cur.length = l0.length ∧ cur.drop x.toNat = l0.drop x.toNat) ∧ Aside0 (laws_markByteSS.f k (l0.drop x.toNat) N1 = some r1 ∧ laws_markByteSS.mk a1 l0 = cur.take x.toNat ++ laws_markByteSS.mk N1 (l0.drop x.toNat)) ∧ Aside0 (Kd.S (Kd.slice 5 (Kd.int .u8)) 52 wr w0.heap.size (fun k_ => (P0_ k_ ∨ w.heap.size ≤ k_)) (.slice A l0.length c) cur) ∧ Aside0 (Below w0.heap.size w0 wr) ∧ Aside0 (Kept w wr (fun k_ => P0_ k_)))
 case atStart => exact ⟨0, a1, l0, rfl, rfl, by omega, by omega, by omega, ⟨rfl, rfl⟩, ⟨H0.out, by simp⟩, HS0, HB, ⟨Kept.refl _ _⟩⟩
 case round =>
  obtain ⟨x, N1, cur, rfl, rfl, hx0, hx1, hg, HL, HF, HS, HBr, HK⟩ := hrel
  by_cases hlt : x < (l0.length : Int)
  ·have hn : x.toNat < l0.length := by omega
   have hn' : x.toNat < cur.length := by rw [HL.out.1]; exact hn
   obtain ⟨g, cap, e, hbg, hgl, cells, hcell⟩ := Kd.S_form HS.out (by omega)
   injection e with ea en ec
   subst ea
   obtain ⟨oki, cs, hcl, hM, hcc, hoki, hH⟩ := Kd.S_lend HS.out [] x hx0 (by omega)
   obtain ⟨v, rfl, hv⟩ := hM
   have hrow : cur.getD x.toNat [] = l0[x.toNat] := by
    have h1 := HL.out.2
    rw [List.drop_eq_getElem_cons hn, List.drop_eq_getElem_cons hn'] at h1
    rw [List.getD_eq_getElem?_getD, List.getElem?_eq_getElem hn', Option.getD_some]
    exact (List.cons.inj h1).1
   have htail : cur.drop (x.toNat + 1) = l0.drop (x.toNat + 1) := by
    have h1 := HL.out.2
    rw [List.drop_eq_getElem_cons hn, List.drop_eq_getElem_cons hn'] at h1
    exact (List.cons.inj h1).2
   rw [hrow] at hv
   obtain ⟨hf, hr2⟩ := HF.out
   rw [List.drop_eq_getElem_cons hn, laws_markByteSS.f] at hf
   obtain ⟨⟨b1, b2⟩, hb, hf⟩ := Option.bind_eq_some_iff.mp hf
   simp only at hf
   split at hf
   case isFalse => cases hf
   case isTrue hbb =>
   have ht := hf
   obtain ⟨hb1, hb2⟩ := hbb
   have hmk : laws_markByteSS.mk N1 (l0.drop x.toNat) = b2 :: laws_markByteSS.mk b1 (l0.drop (x.toNat + 1)) := by
    rw [List.drop_eq_getElem_cons hn, laws_markByteSS.mk, hb1, hb2]
   rw [hmk] at hr2
   obtain ⟨Av, cv, rfl⟩ := Kd.R_slice hv
   have hx : wr.cell? ⟨g, x.toNat, none⟩ = some (.slice Av (l0[x.toNat]).length cv) := by
    have h1 := hcc 0 _ rfl
    rw [show (Kd.slice 5 (Kd.int .u8)).sz = 1 from rfl, Nat.mul_one, Nat.add_zero] at h1
    exact h1
   have HV := Aside0.mk hv
   have HT := Aside0.mk ht
   have HBB := Aside0.mk hb
   have HH := Aside0.mk hH
   have HOK := Aside0.mk hoki
   have HR2 := Aside0.mk hr2
   have HN := Aside0.mk hn
   have HN2 := Aside0.mk hn'
   have HTL := Aside0.mk htail
   have HG := Aside0.mk hg
   generalize l0[x.toNat] = row at HV hx HBB HH
   clear hv hr2 ht hb hH hoki hrow htail hcc hcl hcell hgl hbg en ec hg hb1 hb2 hmk hf
   have c1 : decide (x < (l0.length : Int)) = true := decide_eq_true hlt
   have p5 : (0 ≤ x) = True := eq_true hx0
   have q5 : (x < (l0.length : Int)) = True := eq_true hlt
   go_wp2_with (go_at_call 38; refine (laws_markByteS.calls k oki (.slice Av row.length cv) row N1 b1 b2 w0 _ HBr.out HV.out HBB.out).mono ?_; rintro e w3 ⟨rfl, ho, hb3, hk3⟩; have HO3 := Aside0.mk ho; have HB3 := Aside0.mk hb3; have HK3 := Aside0.mk hk3; clear ho hb3 hk3)
   go_roundg (l0.length - (x.toNat + 1))
   case measure => have := HG.out; omega
   case rel =>
    have ex : (x + 1).toNat = x.toNat + 1 := by omega
    have hwx : wrap64 (x + 1) = x + 1 := by unfold wrap64; have := HLEN.out; omega
    have hn := HN.out
    have hn' := HN2.out
    have hs1 : Kd.S (Kd.slice 5 (Kd.int .u8)) 52 w3 w0.heap.size (fun k_ => (P0_ k_ ∨ w.heap.size ≤ k_)) (.slice (some ⟨g, 0, none⟩) l0.length c) (cur.set x.toNat b2) :=
     Kd.H_back (Kd.H_step HH.out (fun k_ _ hno hlt_ => HK3.out.2 k_ hlt_ hno)) (x' := b2) (okp := fun k_ => some k_ = (.slice Av row.length cv : Value).ownBlock) ⟨_, rfl, Kd.R_tight rfl HO3.out⟩ (fun k_ e_ => HV.out.1 k_ e_.symm)
    refine ⟨x + 1, b1, cur.set x.toNat b2, by first | rfl | simp, by first | rw [hwx] | simp [hwx], by omega, by omega, by have := HG.out; omega, ⟨?_, ?_⟩, ⟨?_, ?_⟩, ⟨hs1⟩, HB3, ⟨?_⟩⟩
    ·rw [List.length_set]; exact HL.out.1
    ·rw [ex, List.drop_set_of_lt (by omega)]; exact HTL.out
    ·rw [ex]; exact HT.out
    ·rw [ex, HR2.out, List.take_add_one, List.take_set_of_le (by omega), List.getElem?_set_self hn', Option.toList_some, List.append_assoc]
     rfl
    ·refine HK.out.then_ HK3.out (fun k_ hk => ?_)
     rcases (HOK.out k_ hk).1 with h | h
     ·exact .inl h
     ·exact .inr h
  have hx : x.toNat = l0.length := by omega
  obtain ⟨hf, hr2⟩ := HF.out
  rw [hx, List.drop_length, laws_markByteSS.f] at hf
  injection hf with e1
  subst e1
  rw [hx, List.drop_length, laws_markByteSS.mk, List.append_nil, List.take_of_length_le (by rw [HL.out.1]; exact Nat.le_refl _)] at hr2
  have c1 : decide (x < (l0.length : Int)) = false := decide_eq_false hlt
  go_wp2
  go_ret
  exact ⟨rfl, by first | exact HS.out | (rw [hr2]; exact HS.out), HBr.out, HK.out⟩

/-! ### spec_l2index: function 71 -/
def spec_l2index.f (a0 : Int) : Option (Bool) := if a0 ≥ 0 then (some (decide (a0 ≤ 1000000))) else (some false)
set_option maxHeartbeats 8000000 in
set_option maxRecDepth 100000 in
theorem spec_l2index.calls (a0 : Int) (r : Bool) (w : World) (h : spec_l2index.f a0 = some r) :
  Calls Try.prog 71 #[.int .i64 a0] w fun e w' => e = .returned (.bool r) ∧ Drawn0 w w' := by
 have H : (if a0 ≥ 0 then (some (decide (a0 ≤ 1000000))) else (some false)) = some r := h
 clear h
 by_cases c2 : a0 ≥ 0
 ·rw [if_pos c2] at H
  have c2b0 : decide (0 ≤ a0) = true := decide_eq_true c2
  clear c2
  obtain rfl := Option.some.inj H
  go_enter Try.func71, Try.ntmps71
  go_wp2
  go_ret
  exact ⟨by first | rfl | (simp; done) | (simp [*]; done), by repeat (first | exact Drawn0.refl _ | apply Drawn0.step)⟩
 rw [if_neg c2] at H
 have c2b0 : decide (0 ≤ a0) = false := decide_eq_false c2
 clear c2
 obtain rfl := Option.some.inj H
 go_enter Try.func71, Try.ntmps71
 go_wp2
 go_ret
 exact ⟨by first | rfl | (simp; done) | (simp [*]; done), by repeat (first | exact Drawn0.refl _ | apply Drawn0.step)⟩

/-! ### spec_l2key: function 72 -/
mutual
def spec_l2key.j0 : Nat → List Int → Bool → Option (Bool)
 | 0, _, _ => none
 | k + 1, x0, x11 => if x11 = true then (some false) else (spec_l2key.l0 k x0 0)
def spec_l2key.l0 : Nat → List Int → Int → Option (Bool)
 | 0, _, _ => none
 | k + 1, x0, x3 => if x3 < (x0.length : Int) then (if 0 ≤ x3 then (if (rd x0 x3) < 97 then (if (rd x0 x3) = 47 then (spec_l2key.l0 k x0 (wrap64 (x3 + 1))) else (some false)) else (if (rd x0 x3) > 122 then (if (rd x0 x3) = 47 then (spec_l2key.l0 k x0 (wrap64 (x3 + 1))) else (some false)) else (spec_l2key.l0 k x0 (wrap64 (x3 + 1))))) else (none)) else (some true)
end
def spec_l2key.f (k : Nat) (l0 : List Int) : Option (Bool) := if (l0.length : Int) < 1 then (spec_l2key.j0 k l0 true) else (spec_l2key.j0 k l0 (decide ((l0.length : Int) > 20)))
set_option maxHeartbeats 8000000 in
set_option maxRecDepth 100000 in
theorem spec_l2key.calls (k : Nat) (A0 : Option Addr) (c0 : Nat) (l0 : List Int) (r : Bool) (w : World) (hr0 : Kd.C (Kd.int .u8) w A0 l0.length l0) (hc0 : l0.length ≤ c0) (h : spec_l2key.f k l0 = some r) :
  Calls Try.prog 72 #[.slice A0 l0.length c0] w fun e w' => e = .returned (.bool r) ∧ Drawn0 w w' := by
 have HR0 := Aside0.mk hr0
 have HC0 := Aside0.mk hc0
 clear hr0 hc0
 have H : (if (l0.length : Int) < 1 then (spec_l2key.j0 k l0 true) else (spec_l2key.j0 k l0 (decide ((l0.length : Int) > 20)))) = some r := h
 clear h
 have HC2 := Aside0.mk H
 clear H
 go_enter Try.func72, Try.ntmps72
 go_upto_region 1 with (fail)
 go_cut [11] (fun v11 wc => ∃ (kq : Nat) (x11_1 : Bool), v11 = .bool x11_1 ∧ Aside0 (spec_l2key.j0 kq l0 x11_1 = some r) ∧ Aside0 (kq ≤ k) ∧ Drawn0 w wc)
 case first =>
  have H := HC2.out
  clear HC2
  by_cases c3 : (l0.length : Int) < 1
  ·rw [if_pos c3] at H
   have c3b0 : decide ((l0.length : Int) < 1) = true := decide_eq_true c3
   have c3b1 : decide (l0.length < 1) = true := decide_eq_true (by omega)
   clear c3
   (first | rw [c3b0] | (simp only [i64_w, i32_w]; rw [c3b0]) | skip)
   have H' := Aside0.mk H
   clear H
   go_wp2
   go_meet
   case rel => exact ⟨_, (true), rs_, H', ⟨by first | omega | exact Nat.le_refl _⟩, by repeat (first | exact Drawn0.refl _ | apply Drawn0.step)⟩
  rw [if_neg c3] at H
  have c3b0 : decide ((l0.length : Int) < 1) = false := decide_eq_false c3
  have c3b1 : decide (l0.length < 1) = false := decide_eq_false (by omega)
  clear c3
  (first | rw [c3b0] | (simp only [i64_w, i32_w]; rw [c3b0]) | skip)
  have H' := Aside0.mk H
  clear H
  go_wp2
  go_meet
  case rel => exact ⟨_, (decide ((l0.length : Int) > 20)), rs_, H', ⟨by first | omega | exact Nat.le_refl _⟩, by repeat (first | exact Drawn0.refl _ | apply Drawn0.step)⟩
 case rest =>
  clear HC2
  try clear p2; try clear c3; try clear c3b0; try clear c3b1
  obtain ⟨kq, x11_1, rfl, HA, HJ1, ⟨mc1, rfl⟩⟩ := hcut
  cases kq with
  | zero => exact absurd HA.out (by simp [spec_l2key.j0])
  | succ kj1 =>
   have H := HA.out
   clear HA
   simp only [spec_l2key.j0] at H
   by_cases c4 : x11_1 = true
   ·subst c4
    have H1 : (some false) = some r := by rw [if_pos rfl] at H; exact H
    clear H
    have H := H1
    clear H1
    obtain rfl := Option.some.inj H
    go_wp2
    go_ret
    exact ⟨by first | rfl | (simp; done) | (simp [*]; done), by repeat (first | exact Drawn0.refl _ | apply Drawn0.step)⟩
   replace c4 := Bool.eq_false_iff.mpr c4
   subst c4
   have H1 : (spec_l2key.l0 kj1 l0 0) = some r := by rw [if_neg (show ¬ (false = true) by decide)] at H; exact H
   clear H
   have H := H1
   clear H1
   have H' := Aside0.mk H
   clear H
   go_wp2
   go_loopg [3] kj1 (fun kq v3 w' => ∃ (x3_2 : Int), v3 = .int .i64 x3_2 ∧ Aside0 (spec_l2key.l0 kq l0 x3_2 = some r) ∧ Aside0 (kq ≤ kj1) ∧ Drawn0 w w')
   case atStart => exact ⟨(0), rs_, H', ⟨Nat.le_refl _⟩, by repeat (first | exact Drawn0.refl _ | apply Drawn0.step)⟩
   case round =>
    clear H'
    try clear c1; try clear p2; try clear c3; try clear c3b0; try clear c3b1; try clear c4; try clear p2
    obtain ⟨x3_2, rfl, HA, HK2, ⟨m2, rfl⟩⟩ := hrel
    cases gk with
    | zero => exact absurd HA.out (by simp [spec_l2key.l0])
    | succ k2 =>
     have H := HA.out
     clear HA
     simp only [spec_l2key.l0] at H
     by_cases c5 : x3_2 < (l0.length : Int)
     ·rw [if_pos c5] at H
      have c5b0 : decide (x3_2 < (l0.length : Int)) = true := decide_eq_true c5
      clear c5
      by_cases c6 : 0 ≤ x3_2
      ·rw [if_pos c6] at H
       have c6b0 : decide (0 ≤ x3_2) = true := decide_eq_true c6
       clear c6
       by_cases c7 : (rd l0 x3_2) < 97
       ·rw [if_pos c7] at H
        have c7b0 : decide ((rd l0 x3_2) < 97) = true := decide_eq_true c7
        clear c7
        by_cases c8 : (rd l0 x3_2) = 47
        ·rw [if_pos c8] at H
         have c8b0 : ((rd l0 x3_2) == 47) = true := beq_iff_eq.mpr c8
         have c8b1 : ((rd l0 x3_2) != 47) = false := bne_eq_false_iff_eq.mpr c8
         clear c8
         have H' := Aside0.mk H
         clear H
         have p306 : 0 ≤ (x3_2 : Int) := od
         have q306 : x3_2 < (l0.length : Int) := od
         obtain ⟨ad306, e306, hx306_0⟩ := Kd.at_int HR0.out x3_2 p306 q306
         cases e306
         replace p306 := eq_true p306
         replace q306 := eq_true q306
         have p307 : 0 ≤ (x3_2 : Int) := od
         have q307 : x3_2 < (l0.length : Int) := od
         obtain ⟨ad307, e307, hx307_0⟩ := Kd.at_int HR0.out x3_2 p307 q307
         obtain rfl : ad306 = ad307 := (by injection e307)
         replace p307 := eq_true p307
         replace q307 := eq_true q307
         go_wp2
         go_roundg k2
         case measure => have := HJ1.out; have := HK2.out; omega
         case rel => exact ⟨(wrap64 (x3_2 + 1)), rs_, H', ⟨by have := HJ1.out; have := HK2.out; omega⟩, by repeat (first | exact Drawn0.refl _ | apply Drawn0.step)⟩
        rw [if_neg c8] at H
        have c8b0 : ((rd l0 x3_2) == 47) = false := beq_eq_false_iff_ne.mpr c8
        have c8b1 : ((rd l0 x3_2) != 47) = true := bne_iff_ne.mpr c8
        obtain rfl := Option.some.inj H
        have p306 : 0 ≤ (x3_2 : Int) := od
        have q306 : x3_2 < (l0.length : Int) := od
        obtain ⟨ad306, e306, hx306_0⟩ := Kd.at_int HR0.out x3_2 p306 q306
        cases e306
        replace p306 := eq_true p306
        replace q306 := eq_true q306
        have p307 : 0 ≤ (x3_2 : Int) := od
        have q307 : x3_2 < (l0.length : Int) := od
        obtain ⟨ad307, e307, hx307_0⟩ := Kd.at_int HR0.out x3_2 p307 q307
        obtain rfl : ad306 = ad307 := (by injection e307)
        replace p307 := eq_true p307
        replace q307 := eq_true q307
        go_wp2
        go_ret
        exact ⟨by first | rfl | (simp; done) | (simp [*]; done), by repeat (first | exact Drawn0.refl _ | apply Drawn0.step)⟩
       rw [if_neg c7] at H
       have c7b0 : decide ((rd l0 x3_2) < 97) = false := decide_eq_false c7
       clear c7
       by_cases c9 : (rd l0 x3_2) > 122
       ·rw [if_pos c9] at H
        have c9b0 : decide (122 < (rd l0 x3_2)) = true := decide_eq_true c9
        clear c9
        by_cases c10 : (rd l0 x3_2) = 47
        ·rw [if_pos c10] at H
         have c10b0 : ((rd l0 x3_2) == 47) = true := beq_iff_eq.mpr c10
         have c10b1 : ((rd l0 x3_2) != 47) = false := bne_eq_false_iff_eq.mpr c10
         clear c10
         have H' := Aside0.mk H
         clear H
         have p306 : 0 ≤ (x3_2 : Int) := od
         have q306 : x3_2 < (l0.length : Int) := od
         obtain ⟨ad306, e306, hx306_0⟩ := Kd.at_int HR0.out x3_2 p306 q306
         cases e306
         replace p306 := eq_true p306
         replace q306 := eq_true q306
         have p308 : 0 ≤ (x3_2 : Int) := od
         have q308 : x3_2 < (l0.length : Int) := od
         obtain ⟨ad308, e308, hx308_0⟩ := Kd.at_int HR0.out x3_2 p308 q308
         obtain rfl : ad306 = ad308 := (by injection e308)
         replace p308 := eq_true p308
         replace q308 := eq_true q308
         have p309 : 0 ≤ (x3_2 : Int) := od
         have q309 : x3_2 < (l0.length : Int) := od
         obtain ⟨ad309, e309, hx309_0⟩ := Kd.at_int HR0.out x3_2 p309 q309
         obtain rfl : ad306 = ad309 := (by injection e309)
         replace p309 := eq_true p309
         replace q309 := eq_true q309
         go_wp2
         go_roundg k2
         case measure => have := HJ1.out; have := HK2.out; omega
         case rel => exact ⟨(wrap64 (x3_2 + 1)), rs_, H', ⟨by have := HJ1.out; have := HK2.out; omega⟩, by repeat (first | exact Drawn0.refl _ | apply Drawn0.step)⟩
        rw [if_neg c10] at H
        have c10b0 : ((rd l0 x3_2) == 47) = false := beq_eq_false_iff_ne.mpr c10
        have c10b1 : ((rd l0 x3_2) != 47) = true := bne_iff_ne.mpr c10
        obtain rfl := Option.some.inj H
        have p306 : 0 ≤ (x3_2 : Int) := od
        have q306 : x3_2 < (l0.length : Int) := od
        obtain ⟨ad306, e306, hx306_0⟩ := Kd.at_int HR0.out x3_2 p306 q306
        cases e306
        replace p306 := eq_true p306
        replace q306 := eq_true q306
        have p308 : 0 ≤ (x3_2 : Int) := od
        have q308 : x3_2 < (l0.length : Int) := od
        obtain ⟨ad308, e308, hx308_0⟩ := Kd.at_int HR0.out x3_2 p308 q308
        obtain rfl : ad306 = ad308 := (by injection e308)
        replace p308 := eq_true p308
        replace q308 := eq_true q308
        have p309 : 0 ≤ (x3_2 : Int) := od
        have q309 : x3_2 < (l0.length : Int) := od
        obtain ⟨ad309, e309, hx309_0⟩ := Kd.at_int HR0.out x3_2 p309 q309
        obtain rfl : ad306 = ad309 := (by injection e309)
        replace p309 := eq_true p309
        replace q309 := eq_true q309
        go_wp2
        go_ret
        exact ⟨by first | rfl | (simp; done) | (simp [*]; done), by repeat (first | exact Drawn0.refl _ | apply Drawn0.step)⟩
       rw [if_neg c9] at H
       have c9b0 : decide (122 < (rd l0 x3_2)) = false := decide_eq_false c9
       clear c9
       have H' := Aside0.mk H
       clear H
       have p306 : 0 ≤ (x3_2 : Int) := od
       have q306 : x3_2 < (l0.length : Int) := od
       obtain ⟨ad306, e306, hx306_0⟩ := Kd.at_int HR0.out x3_2 p306 q306
       cases e306
       replace p306 := eq_true p306
       replace q306 := eq_true q306
       have p308 : 0 ≤ (x3_2 : Int) := od
       have q308 : x3_2 < (l0.length : Int) := od
       obtain ⟨ad308, e308, hx308_0⟩ := Kd.at_int HR0.out x3_2 p308 q308
       obtain rfl : ad306 = ad308 := (by injection e308)
       replace p308 := eq_true p308
       replace q308 := eq_true q308
       go_wp2
       go_roundg k2
       case measure => have := HJ1.out; have := HK2.out; omega
       case rel => exact ⟨(wrap64 (x3_2 + 1)), rs_, H', ⟨by have := HJ1.out; have := HK2.out; omega⟩, by repeat (first | exact Drawn0.refl _ | apply Drawn0.step)⟩
      rw [if_neg c6] at H
      exact absurd H (by simp)
     rw [if_neg c5] at H
     have c5b0 : decide (x3_2 < (l0.length : Int)) = false := decide_eq_false c5
     clear c5
     obtain rfl := Option.some.inj H
     go_wp2
     go_ret
     exact ⟨by first | rfl | (simp; done) | (simp [*]; done), by repeat (first | exact Drawn0.refl _ | apply Drawn0.step)⟩

/-! ### spec_l2val: function 73 -/
def spec_l2val.f (l0 : List Int) : Option (Bool) := some (decide ((l0.length : Int) ≤ 20))
set_option maxHeartbeats 8000000 in
set_option maxRecDepth 100000 in
theorem spec_l2val.calls (A0 : Option Addr) (c0 : Nat) (l0 : List Int) (r : Bool) (w : World) (hr0 : Kd.C (Kd.int .u8) w A0 l0.length l0) (hc0 : l0.length ≤ c0) (h : spec_l2val.f l0 = some r) :
  Calls Try.prog 73 #[.slice A0 l0.length c0] w fun e w' => e = .returned (.bool r) ∧ Drawn0 w w' := by
 have HR0 := Aside0.mk hr0
 have HC0 := Aside0.mk hc0
 clear hr0 hc0
 have H : (some (decide ((l0.length : Int) ≤ 20))) = some r := h
 clear h
 obtain rfl := Option.some.inj H
 go_enter Try.func73, Try.ntmps73
 go_wp2
 go_ret
 exact ⟨by first | rfl | (simp; done) | (simp [*]; done), by repeat (first | exact Drawn0.refl _ | apply Drawn0.step)⟩

/-! ### spec_l2sess: function 74 -/
def spec_l2sess.l0 : Nat → Int → Int → Int → List (S92) → List (S94) → Int → List (S109) → List (S75) → Option (Int)
 | 0, _, _, _, _, _, _, _, _ => none
 | k + 1, x1, x5, x311000, x311001, x311002, x311003, x311004, x311005 => if x5 < (x311004.length : Int) then (if 0 ≤ x5 then (if ((rd_T109 x311004 x5).f0) = x1 then (some x5) else (spec_l2sess.l0 k x1 (wrap64 (x5 + 1)) x311000 x311001 x311002 x311003 x311004 x311005)) else (none)) else (some (-1))
def spec_l2sess.f (k : Nat) (a0_0 : Int) (l0_1 : List (S92)) (l0_2 : List (S94)) (a0_3 : Int) (l0_4 : List (S109)) (l0_5 : List (S75)) (a1 : Int) : Option (Int) := spec_l2sess.l0 k a1 0 a0_0 l0_1 l0_2 a0_3 l0_4 l0_5
set_option maxHeartbeats 8000000 in
set_option maxRecDepth 100000 in
theorem spec_l2sess.calls (k : Nat) (a0_0 : Int) (A0_1 : Option Addr) (c0_1 : Nat) (l0_1 : List (S92)) (A0_2 : Option Addr) (c0_2 : Nat) (l0_2 : List (S94)) (a0_3 : Int) (A0_4 : Option Addr) (c0_4 : Nat) (l0_4 : List (S109)) (A0_5 : Option Addr) (c0_5 : Nat) (l0_5 : List (S75)) (a1 : Int) (r : Int) (w : World) (hr0_1 : Kd.C k92 w A0_1 l0_1.length l0_1) (hc0_1 : l0_1.length ≤ c0_1) (hr0_2 : Kd.C k94 w A0_2 l0_2.length l0_2) (hc0_2 : l0_2.length ≤ c0_2) (hr0_4 : Kd.C k109 w A0_4 l0_4.length l0_4) (hc0_4 : l0_4.length ≤ c0_4) (hr0_5 : Kd.C k75 w A0_5 l0_5.length l0_5) (hc0_5 : l0_5.length ≤ c0_5) (h : spec_l2sess.f k a0_0 l0_1 l0_2 a0_3 l0_4 l0_5 a1 = some r) :
  Calls Try.prog 74 #[.agg #[.int .i64 a0_0, .slice A0_1 l0_1.length c0_1, .slice A0_2 l0_2.length c0_2, .int .i64 a0_3, .slice A0_4 l0_4.length c0_4, .slice A0_5 l0_5.length c0_5], .int .i64 a1] w fun e w' => e = .returned (.int .i64 r) ∧ Below w.heap.size w w' := by
 have hu35 := Try.underlying35
 have HR0_1 := Aside0.mk hr0_1
 have HC0_1 := Aside0.mk hc0_1
 clear hr0_1 hc0_1
 have HR0_2 := Aside0.mk hr0_2
 have HC0_2 := Aside0.mk hc0_2
 clear hr0_2 hc0_2
 have HR0_4 := Aside0.mk hr0_4
 have HC0_4 := Aside0.mk hc0_4
 clear hr0_4 hc0_4
 have HR0_5 := Aside0.mk hr0_5
 have HC0_5 := Aside0.mk hc0_5
 clear hr0_5 hc0_5
 have HB := Aside0.mk (Below.refl w.heap.size w)
 have H : (spec_l2sess.l0 k a1 0 a0_0 l0_1 l0_2 a0_3 l0_4 l0_5) = some r := h
 clear h
 have H' := Aside0.mk H
 clear H
 go_enter Try.func74, Try.ntmps74
 go_wp2_with (first | ((with_reducible refine gate_dst (N := 2) rfl ?_); refine bx_ 2 #[.int .i64 a0_0, .slice A0_1 l0_1.length c0_1, .slice A0_2 l0_2.length c0_2, .int .i64 a0_3, .slice A0_4 l0_4.length c0_4, .slice A0_5 l0_5.length c0_5] 35 (h := ?_); intro gb310 hg w3 hbox hb; have BK310 := Aside0.mk (hbox); have GW310 := Aside0.mk ((by rw [hg]; exact (below_size bel) : w.heap.size ≤ gb310)); have GE310 := GW310; replace HB := bst hb; clear hb hbox hg))
 go_loopg [5] k (fun kq v5 w' => ∃ (x5_1 : Int), v5 = .int .i64 x5_1 ∧ Aside0 (spec_l2sess.l0 kq a1 x5_1 a0_0 l0_1 l0_2 a0_3 l0_4 l0_5 = some r) ∧ Aside0 (kq ≤ k) ∧ Aside0 (w'.heap[gb310]? = some (.cells #[.int .i64 a0_0, (.slice A0_1 l0_1.length c0_1), (.slice A0_2 l0_2.length c0_2), .int .i64 a0_3, (.slice A0_4 l0_4.length c0_4), (.slice A0_5 l0_5.length c0_5)] 35 (0, 0))) ∧ Aside0 (Below w.heap.size w w'))
 case atStart => exact ⟨(0), rs_, H', ⟨Nat.le_refl _⟩, ⟨bkp BK310⟩, ⟨bel⟩⟩
 case round =>
  clear H'
  try clear p2
  obtain ⟨x5_1, rfl, HA, HK1, BK310, HB⟩ := hrel
  cases gk with
  | zero => exact absurd HA.out (by simp [spec_l2sess.l0])
  | succ k1 =>
   have H := HA.out
   clear HA
   simp only [spec_l2sess.l0] at H
   by_cases c4 : x5_1 < (l0_4.length : Int)
   ·rw [if_pos c4] at H
    have c4b0 : decide (x5_1 < (l0_4.length : Int)) = true := decide_eq_true c4
    clear c4
    by_cases c5 : 0 ≤ x5_1
    ·rw [if_pos c5] at H
     have c5b0 : decide (0 ≤ x5_1) = true := decide_eq_true c5
     clear c5
     by_cases c6 : ((rd_T109 l0_4 x5_1).f0) = a1
     ·rw [if_pos c6] at H
      have c6b0 : (((rd_T109 l0_4 x5_1).f0) == a1) = true := beq_iff_eq.mpr c6
      have c6b1 : (((rd_T109 l0_4 x5_1).f0) != a1) = false := bne_eq_false_iff_eq.mpr c6
      clear c6
      obtain rfl := Option.some.inj H
      obtain ⟨C7_0, C7_1, C7_2, C7_3, C7_4, C7_5, -⟩ := cells_6 BK310.out trivial
      obtain ⟨F7_0, F7_1, F7_2, F7_3, F7_4, F7_5, -⟩ := frz_6 BK310.out
      have p311 : 0 ≤ (x5_1 : Int) := od
      have q311 : x5_1 < (l0_4.length : Int) := od
      obtain ⟨ad311, e311, hx311_0, hx311_1⟩ := at_T109 HR0_4.out x5_1 p311 q311
      cases e311
      replace hx311_0 := hxb HB hx311_0
      replace hx311_1 := hxb HB hx311_1
      replace p311 := eq_true p311
      replace q311 := eq_true q311
      go_wp2
      go_ret
      exact ⟨rz_, bel⟩
     rw [if_neg c6] at H
     have c6b0 : (((rd_T109 l0_4 x5_1).f0) == a1) = false := beq_eq_false_iff_ne.mpr c6
     have c6b1 : (((rd_T109 l0_4 x5_1).f0) != a1) = true := bne_iff_ne.mpr c6
     have H' := Aside0.mk H
     clear H
     obtain ⟨C8_0, C8_1, C8_2, C8_3, C8_4, C8_5, -⟩ := cells_6 BK310.out trivial
     obtain ⟨F8_0, F8_1, F8_2, F8_3, F8_4, F8_5, -⟩ := frz_6 BK310.out
     have p311 : 0 ≤ (x5_1 : Int) := od
     have q311 : x5_1 < (l0_4.length : Int) := od
     obtain ⟨ad311, e311, hx311_0, hx311_1⟩ := at_T109 HR0_4.out x5_1 p311 q311
     cases e311
     replace hx311_0 := hxb HB hx311_0
     replace hx311_1 := hxb HB hx311_1
     replace p311 := eq_true p311
     replace q311 := eq_true q311
     go_wp2
     go_roundg k1
     case measure => have := HK1.out; omega
     case rel => exact ⟨(wrap64 (x5_1 + 1)), rs_, H', ⟨by have := HK1.out; omega⟩, ⟨bkp BK310⟩, ⟨bel⟩⟩
    rw [if_neg c5] at H
    exact absurd H (by simp)
   rw [if_neg c4] at H
   have c4b0 : decide (x5_1 < (l0_4.length : Int)) = false := decide_eq_false c4
   clear c4
   obtain rfl := Option.some.inj H
   obtain ⟨C9_0, C9_1, C9_2, C9_3, C9_4, C9_5, -⟩ := cells_6 BK310.out trivial
   obtain ⟨F9_0, F9_1, F9_2, F9_3, F9_4, F9_5, -⟩ := frz_6 BK310.out
   go_wp2
   go_ret
   exact ⟨rz_, bel⟩

/-! ### spec_l2row: function 75 -/
def spec_l2row.l0 : Nat → List Int → Int → Int → List (S92) → List (S94) → Int → List (S109) → List (S75) → Option (Int)
 | 0, _, _, _, _, _, _, _, _ => none
 | k + 1, x1, x5, x313000, x313001, x313002, x313003, x313004, x313005 => if x5 < (x313001.length : Int) then (if 0 ≤ x5 then (if (strOfNums ((rd_T92 x313001 x5).f0)).toList = (strOfNums x1).toList then (some x5) else (spec_l2row.l0 k x1 (wrap64 (x5 + 1)) x313000 x313001 x313002 x313003 x313004 x313005)) else (none)) else (some (-1))
def spec_l2row.f (k : Nat) (a0_0 : Int) (l0_1 : List (S92)) (l0_2 : List (S94)) (a0_3 : Int) (l0_4 : List (S109)) (l0_5 : List (S75)) (l1 : List Int) : Option (Int) := spec_l2row.l0 k l1 0 a0_0 l0_1 l0_2 a0_3 l0_4 l0_5
set_option maxHeartbeats 8000000 in
set_option maxRecDepth 100000 in
theorem spec_l2row.calls (k : Nat) (a0_0 : Int) (A0_1 : Option Addr) (c0_1 : Nat) (l0_1 : List (S92)) (A0_2 : Option Addr) (c0_2 : Nat) (l0_2 : List (S94)) (a0_3 : Int) (A0_4 : Option Addr) (c0_4 : Nat) (l0_4 : List (S109)) (A0_5 : Option Addr) (c0_5 : Nat) (l0_5 : List (S75)) (A1 : Option Addr) (c1 : Nat) (l1 : List Int) (r : Int) (w : World) (hr0_1 : Kd.C k92 w A0_1 l0_1.length l0_1) (hc0_1 : l0_1.length ≤ c0_1) (hr0_2 : Kd.C k94 w A0_2 l0_2.length l0_2) (hc0_2 : l0_2.length ≤ c0_2) (hr0_4 : Kd.C k109 w A0_4 l0_4.length l0_4) (hc0_4 : l0_4.length ≤ c0_4) (hr0_5 : Kd.C k75 w A0_5 l0_5.length l0_5) (hc0_5 : l0_5.length ≤ c0_5) (hr1 : Kd.C (Kd.int .u8) w A1 l1.length l1) (hc1 : l1.length ≤ c1) (h : spec_l2row.f k a0_0 l0_1 l0_2 a0_3 l0_4 l0_5 l1 = some r) :
  Calls Try.prog 75 #[.agg #[.int .i64 a0_0, .slice A0_1 l0_1.length c0_1, .slice A0_2 l0_2.length c0_2, .int .i64 a0_3, .slice A0_4 l0_4.length c0_4, .slice A0_5 l0_5.length c0_5], .slice A1 l1.length c1] w fun e w' => e = .returned (.int .i64 r) ∧ Below w.heap.size w w' := by
 have hu35 := Try.underlying35
 have HR0_1 := Aside0.mk hr0_1
 have HC0_1 := Aside0.mk hc0_1
 clear hr0_1 hc0_1
 have HR0_2 := Aside0.mk hr0_2
 have HC0_2 := Aside0.mk hc0_2
 clear hr0_2 hc0_2
 have HR0_4 := Aside0.mk hr0_4
 have HC0_4 := Aside0.mk hc0_4
 clear hr0_4 hc0_4
 have HR0_5 := Aside0.mk hr0_5
 have HC0_5 := Aside0.mk hc0_5
 clear hr0_5 hc0_5
 have HR1 := Aside0.mk hr1
 have HC1 := Aside0.mk hc1
 clear hr1 hc1
 have HB := Aside0.mk (Below.refl w.heap.size w)
 have H : (spec_l2row.l0 k l1 0 a0_0 l0_1 l0_2 a0_3 l0_4 l0_5) = some r := h
 clear h
 have H' := Aside0.mk H
 clear H
 go_enter Try.func75, Try.ntmps75
 go_wp2_with (first | ((with_reducible refine gate_dst (N := 2) rfl ?_); refine bx_ 2 #[.int .i64 a0_0, .slice A0_1 l0_1.length c0_1, .slice A0_2 l0_2.length c0_2, .int .i64 a0_3, .slice A0_4 l0_4.length c0_4, .slice A0_5 l0_5.length c0_5] 35 (h := ?_); intro gb312 hg w3 hbox hb; have BK312 := Aside0.mk (hbox); have GW312 := Aside0.mk ((by rw [hg]; exact (below_size bel) : w.heap.size ≤ gb312)); have GE312 := GW312; replace HB := bst hb; clear hb hbox hg))
 repeat (go_quiet (first | ((with_reducible refine gate_dst (N := 2) rfl ?_); refine bx_ 2 #[.int .i64 a0_0, .slice A0_1 l0_1.length c0_1, .slice A0_2 l0_2.length c0_2, .int .i64 a0_3, .slice A0_4 l0_4.length c0_4, .slice A0_5 l0_5.length c0_5] 35 (h := ?_); intro gb312 hg w3 hbox hb; have BK312 := Aside0.mk (hbox); have GW312 := Aside0.mk ((by rw [hg]; exact (below_size bel) : w.heap.size ≤ gb312)); have GE312 := GW312; replace HB := bst hb; clear hb hbox hg)); try go_wp2_with (first | ((with_reducible refine gate_dst (N := 2) rfl ?_); refine bx_ 2 #[.int .i64 a0_0, .slice A0_1 l0_1.length c0_1, .slice A0_2 l0_2.length c0_2, .int .i64 a0_3, .slice A0_4 l0_4.length c0_4, .slice A0_5 l0_5.length c0_5] 35 (h := ?_); intro gb312 hg w3 hbox hb; have BK312 := Aside0.mk (hbox); have GW312 := Aside0.mk ((by rw [hg]; exact (below_size bel) : w.heap.size ≤ gb312)); have GE312 := GW312; replace HB := bst hb; clear hb hbox hg)))
 go_loopg [5] k (fun kq v5 w' => ∃ (x5_1 : Int), v5 = .int .i64 x5_1 ∧ Aside0 (spec_l2row.l0 kq l1 x5_1 a0_0 l0_1 l0_2 a0_3 l0_4 l0_5 = some r) ∧ Aside0 (kq ≤ k) ∧ Aside0 (w'.heap[gb312]? = some (.cells #[.int .i64 a0_0, (.slice A0_1 l0_1.length c0_1), (.slice A0_2 l0_2.length c0_2), .int .i64 a0_3, (.slice A0_4 l0_4.length c0_4), (.slice A0_5 l0_5.length c0_5)] 35 (0, 0))) ∧ Aside0 (Below w.heap.size w w'))
 case atStart => exact ⟨(0), rs_, H', ⟨Nat.le_refl _⟩, ⟨bkp BK312⟩, ⟨bel⟩⟩
 case round =>
  clear H'
  try clear c1; try clear p2
  obtain ⟨x5_1, rfl, HA, HK1, BK312, HB⟩ := hrel
  cases gk with
  | zero => exact absurd HA.out (by simp [spec_l2row.l0])
  | succ k1 =>
   have H := HA.out
   clear HA
   simp only [spec_l2row.l0] at H
   by_cases c4 : x5_1 < (l0_1.length : Int)
   ·rw [if_pos c4] at H
    have c4b0 : decide (x5_1 < (l0_1.length : Int)) = true := decide_eq_true c4
    clear c4
    by_cases c5 : 0 ≤ x5_1
    ·rw [if_pos c5] at H
     have c5b0 : decide (0 ≤ x5_1) = true := decide_eq_true c5
     clear c5
     by_cases c6 : (strOfNums ((rd_T92 l0_1 x5_1).f0)).toList = (strOfNums l1).toList
     ·rw [if_pos c6] at H
      have c6b0 : ((strOfNums ((rd_T92 l0_1 x5_1).f0)).toList == (strOfNums l1).toList) = true := beq_iff_eq.mpr c6
      have c6b1 : ((strOfNums ((rd_T92 l0_1 x5_1).f0)).toList != (strOfNums l1).toList) = false := bne_eq_false_iff_eq.mpr c6
      clear c6
      obtain rfl := Option.some.inj H
      obtain ⟨C7_0, C7_1, C7_2, C7_3, C7_4, C7_5, -⟩ := cells_6 BK312.out trivial
      obtain ⟨F7_0, F7_1, F7_2, F7_3, F7_4, F7_5, -⟩ := frz_6 BK312.out
      have p313 : 0 ≤ (x5_1 : Int) := od
      have q313 : x5_1 < (l0_1.length : Int) := od
      obtain ⟨ad313, A313_0, c313_0, A313_1, c313_1, e313, hx313_0, hx313_1, hx313_2, hx313_3, hl313_0, hi313_0, hl313_1, hi313_1⟩ := at_T92 HR0_1.out x5_1 p313 q313
      cases e313
      replace hx313_0 := hxb HB hx313_0
      replace hx313_1 := hxb HB hx313_1
      replace hx313_2 := hxb HB hx313_2
      replace hx313_3 := hxb HB hx313_3
      have HR313_0 := Aside0.mk hi313_0
      have HC313_0 := Aside0.mk hl313_0
      clear hi313_0 hl313_0
      have HR313_1 := Aside0.mk hi313_1
      have HC313_1 := Aside0.mk hl313_1
      clear hi313_1 hl313_1
      replace p313 := eq_true p313
      replace q313 := eq_true q313
      have hcv8 := Kd.C_string (P := Try.prog) (A := A313_0) (c := c313_0) Try.underlying52 Try.underlying5 Try.underlying9 (Kd.C_below HR313_0.out HB.out)
      have hcw8 := fun nq_ : Nat => Kd.C_string (P := Try.prog) (A := A313_0) (c := c313_0) Try.underlying52 Try.underlying5 Try.underlying9 (Kd.C_drewN (Kd.C_below HR313_0.out HB.out) nq_)
      have hcv9 := Kd.C_string (P := Try.prog) (A := A1) (c := c1) Try.underlying52 Try.underlying5 Try.underlying9 (Kd.C_below HR1.out HB.out)
      have hcw9 := fun nq_ : Nat => Kd.C_string (P := Try.prog) (A := A1) (c := c1) Try.underlying52 Try.underlying5 Try.underlying9 (Kd.C_drewN (Kd.C_below HR1.out HB.out) nq_)
      go_wp2
      repeat (go_quiet (fail); try go_wp2)
      go_ret
      exact ⟨rz_, bel⟩
     rw [if_neg c6] at H
     have c6b0 : ((strOfNums ((rd_T92 l0_1 x5_1).f0)).toList == (strOfNums l1).toList) = false := beq_eq_false_iff_ne.mpr c6
     have c6b1 : ((strOfNums ((rd_T92 l0_1 x5_1).f0)).toList != (strOfNums l1).toList) = true := bne_iff_ne.mpr c6
     have H' := Aside0.mk H
     clear H
     obtain ⟨C10_0, C10_1, C10_2, C10_3, C10_4, C10_5, -⟩ := cells_6 BK312.out trivial
     obtain ⟨F10_0, F10_1, F10_2, F10_3, F10_4, F10_5, -⟩ := frz_6 BK312.out
     have p313 : 0 ≤ (x5_1 : Int) := od
     have q313 : x5_1 < (l0_1.length : Int) := od
     obtain ⟨ad313, A313_0, c313_0, A313_1, c313_1, e313, hx313_0, hx313_1, hx313_2, hx313_3, hl313_0, hi313_0, hl313_1, hi313_1⟩ := at_T92 HR0_1.out x5_1 p313 q313
     cases e313
     replace hx313_0 := hxb HB hx313_0
     replace hx313_1 := hxb HB hx313_1
     replace hx313_2 := hxb HB hx313_2
     replace hx313_3 := hxb HB hx313_3
     have HR313_0 := Aside0.mk hi313_0
     have HC313_0 := Aside0.mk hl313_0
     clear hi313_0 hl313_0
     have HR313_1 := Aside0.mk hi313_1
     have HC313_1 := Aside0.mk hl313_1
     clear hi313_1 hl313_1
     replace p313 := eq_true p313
     replace q313 := eq_true q313
     have hcv11 := Kd.C_string (P := Try.prog) (A := A313_0) (c := c313_0) Try.underlying52 Try.underlying5 Try.underlying9 (Kd.C_below HR313_0.out HB.out)
     have hcw11 := fun nq_ : Nat => Kd.C_string (P := Try.prog) (A := A313_0) (c := c313_0) Try.underlying52 Try.underlying5 Try.underlying9 (Kd.C_drewN (Kd.C_below HR313_0.out HB.out) nq_)
     have hcv12 := Kd.C_string (P := Try.prog) (A := A1) (c := c1) Try.underlying52 Try.underlying5 Try.underlying9 (Kd.C_below HR1.out HB.out)
     have hcw12 := fun nq_ : Nat => Kd.C_string (P := Try.prog) (A := A1) (c := c1) Try.underlying52 Try.underlying5 Try.underlying9 (Kd.C_drewN (Kd.C_below HR1.out HB.out) nq_)
     go_wp2
     repeat (go_quiet (fail); try go_wp2)
     go_roundg k1
     case measure => have := HK1.out; omega
     case rel => exact ⟨(wrap64 (x5_1 + 1)), rs_, H', ⟨by have := HK1.out; omega⟩, ⟨bkp BK312⟩, ⟨bel⟩⟩
    rw [if_neg c5] at H
    exact absurd H (by simp)
   rw [if_neg c4] at H
   have c4b0 : decide (x5_1 < (l0_1.length : Int)) = false := decide_eq_false c4
   clear c4
   obtain rfl := Option.some.inj H
   obtain ⟨C13_0, C13_1, C13_2, C13_3, C13_4, C13_5, -⟩ := cells_6 BK312.out trivial
   obtain ⟨F13_0, F13_1, F13_2, F13_3, F13_4, F13_5, -⟩ := frz_6 BK312.out
   go_wp2
   repeat (go_quiet (fail); try go_wp2)
   go_ret
   exact ⟨rz_, bel⟩

/-! ### spec_l2tomb: function 76 -/
def spec_l2tomb.l0 : Nat → List Int → Int → Int → List (S92) → List (S94) → Int → List (S109) → List (S75) → Option (Int)
 | 0, _, _, _, _, _, _, _, _ => none
 | k + 1, x1, x5, x315000, x315001, x315002, x315003, x315004, x315005 => if x5 < (x315002.length : Int) then (if 0 ≤ x5 then (if (strOfNums ((rd_T94 x315002 x5).f0)).toList = (strOfNums x1).toList then (some x5) else (spec_l2tomb.l0 k x1 (wrap64 (x5 + 1)) x315000 x315001 x315002 x315003 x315004 x315005)) else (none)) else (some (-1))
def spec_l2tomb.f (k : Nat) (a0_0 : Int) (l0_1 : List (S92)) (l0_2 : List (S94)) (a0_3 : Int) (l0_4 : List (S109)) (l0_5 : List (S75)) (l1 : List Int) : Option (Int) := spec_l2tomb.l0 k l1 0 a0_0 l0_1 l0_2 a0_3 l0_4 l0_5
set_option maxHeartbeats 8000000 in
set_option maxRecDepth 100000 in
theorem spec_l2tomb.calls (k : Nat) (a0_0 : Int) (A0_1 : Option Addr) (c0_1 : Nat) (l0_1 : List (S92)) (A0_2 : Option Addr) (c0_2 : Nat) (l0_2 : List (S94)) (a0_3 : Int) (A0_4 : Option Addr) (c0_4 : Nat) (l0_4 : List (S109)) (A0_5 : Option Addr) (c0_5 : Nat) (l0_5 : List (S75)) (A1 : Option Addr) (c1 : Nat) (l1 : List Int) (r : Int) (w : World) (hr0_1 : Kd.C k92 w A0_1 l0_1.length l0_1) (hc0_1 : l0_1.length ≤ c0_1) (hr0_2 : Kd.C k94 w A0_2 l0_2.length l0_2) (hc0_2 : l0_2.length ≤ c0_2) (hr0_4 : Kd.C k109 w A0_4 l0_4.length l0_4) (hc0_4 : l0_4.length ≤ c0_4) (hr0_5 : Kd.C k75 w A0_5 l0_5.length l0_5) (hc0_5 : l0_5.length ≤ c0_5) (hr1 : Kd.C (Kd.int .u8) w A1 l1.length l1) (hc1 : l1.length ≤ c1) (h : spec_l2tomb.f k a0_0 l0_1 l0_2 a0_3 l0_4 l0_5 l1 = some r) :
  Calls Try.prog 76 #[.agg #[.int .i64 a0_0, .slice A0_1 l0_1.length c0_1, .slice A0_2 l0_2.length c0_2, .int .i64 a0_3, .slice A0_4 l0_4.length c0_4, .slice A0_5 l0_5.length c0_5], .slice A1 l1.length c1] w fun e w' => e = .returned (.int .i64 r) ∧ Below w.heap.size w w' := by
 have hu35 := Try.underlying35
 have HR0_1 := Aside0.mk hr0_1
 have HC0_1 := Aside0.mk hc0_1
 clear hr0_1 hc0_1
 have HR0_2 := Aside0.mk hr0_2
 have HC0_2 := Aside0.mk hc0_2
 clear hr0_2 hc0_2
 have HR0_4 := Aside0.mk hr0_4
 have HC0_4 := Aside0.mk hc0_4
 clear hr0_4 hc0_4
 have HR0_5 := Aside0.mk hr0_5
 have HC0_5 := Aside0.mk hc0_5
 clear hr0_5 hc0_5
 have HR1 := Aside0.mk hr1
 have HC1 := Aside0.mk hc1
 clear hr1 hc1
 have HB := Aside0.mk (Below.refl w.heap.size w)
 have H : (spec_l2tomb.l0 k l1 0 a0_0 l0_1 l0_2 a0_3 l0_4 l0_5) = some r := h
 clear h
 have H' := Aside0.mk H
 clear H
 go_enter Try.func76, Try.ntmps76
 go_wp2_with (first | ((with_reducible refine gate_dst (N := 2) rfl ?_); refine bx_ 2 #[.int .i64 a0_0, .slice A0_1 l0_1.length c0_1, .slice A0_2 l0_2.length c0_2, .int .i64 a0_3, .slice A0_4 l0_4.length c0_4, .slice A0_5 l0_5.length c0_5] 35 (h := ?_); intro gb314 hg w3 hbox hb; have BK314 := Aside0.mk (hbox); have GW314 := Aside0.mk ((by rw [hg]; exact (below_size bel) : w.heap.size ≤ gb314)); have GE314 := GW314; replace HB := bst hb; clear hb hbox hg))
 repeat (go_quiet (first | ((with_reducible refine gate_dst (N := 2) rfl ?_); refine bx_ 2 #[.int .i64 a0_0, .slice A0_1 l0_1.length c0_1, .slice A0_2 l0_2.length c0_2, .int .i64 a0_3, .slice A0_4 l0_4.length c0_4, .slice A0_5 l0_5.length c0_5] 35 (h := ?_); intro gb314 hg w3 hbox hb; have BK314 := Aside0.mk (hbox); have GW314 := Aside0.mk ((by rw [hg]; exact (below_size bel) : w.heap.size ≤ gb314)); have GE314 := GW314; replace HB := bst hb; clear hb hbox hg)); try go_wp2_with (first | ((with_reducible refine gate_dst (N := 2) rfl ?_); refine bx_ 2 #[.int .i64 a0_0, .slice A0_1 l0_1.length c0_1, .slice A0_2 l0_2.length c0_2, .int .i64 a0_3, .slice A0_4 l0_4.length c0_4, .slice A0_5 l0_5.length c0_5] 35 (h := ?_); intro gb314 hg w3 hbox hb; have BK314 := Aside0.mk (hbox); have GW314 := Aside0.mk ((by rw [hg]; exact (below_size bel) : w.heap.size ≤ gb314)); have GE314 := GW314; replace HB := bst hb; clear hb hbox hg)))
 go_loopg [5] k (fun kq v5 w' => ∃ (x5_1 : Int), v5 = .int .i64 x5_1 ∧ Aside0 (spec_l2tomb.l0 kq l1 x5_1 a0_0 l0_1 l0_2 a0_3 l0_4 l0_5 = some r) ∧ Aside0 (kq ≤ k) ∧ Aside0 (w'.heap[gb314]? = some (.cells #[.int .i64 a0_0, (.slice A0_1 l0_1.length c0_1), (.slice A0_2 l0_2.length c0_2), .int .i64 a0_3, (.slice A0_4 l0_4.length c0_4), (.slice A0_5 l0_5.length c0_5)] 35 (0, 0))) ∧ Aside0 (Below w.heap.size w w'))
 case atStart => exact ⟨(0), rs_, H', ⟨Nat.le_refl _⟩, ⟨bkp BK314⟩, ⟨bel⟩⟩
 case round =>
  clear H'
  try clear c1; try clear p2
  obtain ⟨x5_1, rfl, HA, HK1, BK314, HB⟩ := hrel
  cases gk with
  | zero => exact absurd HA.out (by simp [spec_l2tomb.l0])
  | succ k1 =>
   have H := HA.out
   clear HA
   simp only [spec_l2tomb.l0] at H
   by_cases c4 : x5_1 < (l0_2.length : Int)
   ·rw [if_pos c4] at H
    have c4b0 : decide (x5_1 < (l0_2.length : Int)) = true := decide_eq_true c4
    clear c4
    by_cases c5 : 0 ≤ x5_1
    ·rw [if_pos c5] at H
     have c5b0 : decide (0 ≤ x5_1) = true := decide_eq_true c5
     clear c5
     by_cases c6 : (strOfNums ((rd_T94 l0_2 x5_1).f0)).toList = (strOfNums l1).toList
     ·rw [if_pos c6] at H
      have c6b0 : ((strOfNums ((rd_T94 l0_2 x5_1).f0)).toList == (strOfNums l1).toList) = true := beq_iff_eq.mpr c6
      have c6b1 : ((strOfNums ((rd_T94 l0_2 x5_1).f0)).toList != (strOfNums l1).toList) = false := bne_eq_false_iff_eq.mpr c6
      clear c6
      obtain rfl := Option.some.inj H
      obtain ⟨C7_0, C7_1, C7_2, C7_3, C7_4, C7_5, -⟩ := cells_6 BK314.out trivial
      obtain ⟨F7_0, F7_1, F7_2, F7_3, F7_4, F7_5, -⟩ := frz_6 BK314.out
      have p315 : 0 ≤ (x5_1 : Int) := od
      have q315 : x5_1 < (l0_2.length : Int) := od
      obtain ⟨ad315, A315_0, c315_0, e315, hx315_0, hx315_1, hl315_0, hi315_0⟩ := at_T94 HR0_2.out x5_1 p315 q315
      cases e315
      replace hx315_0 := hxb HB hx315_0
      replace hx315_1 := hxb HB hx315_1
      have HR315_0 := Aside0.mk hi315_0
      have HC315_0 := Aside0.mk hl315_0
      clear hi315_0 hl315_0
      replace p315 := eq_true p315
      replace q315 := eq_true q315
      have hcv8 := Kd.C_string (P := Try.prog) (A := A315_0) (c := c315_0) Try.underlying52 Try.underlying5 Try.underlying9 (Kd.C_below HR315_0.out HB.out)
      have hcw8 := fun nq_ : Nat => Kd.C_string (P := Try.prog) (A := A315_0) (c := c315_0) Try.underlying52 Try.underlying5 Try.underlying9 (Kd.C_drewN (Kd.C_below HR315_0.out HB.out) nq_)
      have hcv9 := Kd.C_string (P := Try.prog) (A := A1) (c := c1) Try.underlying52 Try.underlying5 Try.underlying9 (Kd.C_below HR1.out HB.out)
      have hcw9 := fun nq_ : Nat => Kd.C_string (P := Try.prog) (A := A1) (c := c1) Try.underlying52 Try.underlying5 Try.underlying9 (Kd.C_drewN (Kd.C_below HR1.out HB.out) nq_)
      go_wp2
      repeat (go_quiet (fail); try go_wp2)
      go_ret
      exact ⟨rz_, bel⟩
     rw [if_neg c6] at H
     have c6b0 : ((strOfNums ((rd_T94 l0_2 x5_1).f0)).toList == (strOfNums l1).toList) = false := beq_eq_false_iff_ne.mpr c6
     have c6b1 : ((strOfNums ((rd_T94 l0_2 x5_1).f0)).toList != (strOfNums l1).toList) = true := bne_iff_ne.mpr c6
     have H' := Aside0.mk H
     clear H
     obtain ⟨C10_0, C10_1, C10_2, C10_3, C10_4, C10_5, -⟩ := cells_6 BK314.out trivial
     obtain ⟨F10_0, F10_1, F10_2, F10_3, F10_4, F10_5, -⟩ := frz_6 BK314.out
     have p315 : 0 ≤ (x5_1 : Int) := od
     have q315 : x5_1 < (l0_2.length : Int) := od
     obtain ⟨ad315, A315_0, c315_0, e315, hx315_0, hx315_1, hl315_0, hi315_0⟩ := at_T94 HR0_2.out x5_1 p315 q315
     cases e315
     replace hx315_0 := hxb HB hx315_0
     replace hx315_1 := hxb HB hx315_1
     have HR315_0 := Aside0.mk hi315_0
     have HC315_0 := Aside0.mk hl315_0
     clear hi315_0 hl315_0
     replace p315 := eq_true p315
     replace q315 := eq_true q315
     have hcv11 := Kd.C_string (P := Try.prog) (A := A315_0) (c := c315_0) Try.underlying52 Try.underlying5 Try.underlying9 (Kd.C_below HR315_0.out HB.out)
     have hcw11 := fun nq_ : Nat => Kd.C_string (P := Try.prog) (A := A315_0) (c := c315_0) Try.underlying52 Try.underlying5 Try.underlying9 (Kd.C_drewN (Kd.C_below HR315_0.out HB.out) nq_)
     have hcv12 := Kd.C_string (P := Try.prog) (A := A1) (c := c1) Try.underlying52 Try.underlying5 Try.underlying9 (Kd.C_below HR1.out HB.out)
     have hcw12 := fun nq_ : Nat => Kd.C_string (P := Try.prog) (A := A1) (c := c1) Try.underlying52 Try.underlying5 Try.underlying9 (Kd.C_drewN (Kd.C_below HR1.out HB.out) nq_)
     go_wp2
     repeat (go_quiet (fail); try go_wp2)
     go_roundg k1
     case measure => have := HK1.out; omega
     case rel => exact ⟨(wrap64 (x5_1 + 1)), rs_, H', ⟨by have := HK1.out; omega⟩, ⟨bkp BK314⟩, ⟨bel⟩⟩
    rw [if_neg c5] at H
    exact absurd H (by simp)
   rw [if_neg c4] at H
   have c4b0 : decide (x5_1 < (l0_2.length : Int)) = false := decide_eq_false c4
   clear c4
   obtain rfl := Option.some.inj H
   obtain ⟨C13_0, C13_1, C13_2, C13_3, C13_4, C13_5, -⟩ := cells_6 BK314.out trivial
   obtain ⟨F13_0, F13_1, F13_2, F13_3, F13_4, F13_5, -⟩ := frz_6 BK314.out
   go_wp2
   repeat (go_quiet (fail); try go_wp2)
   go_ret
   exact ⟨rz_, bel⟩

end Go.Proofs.Ytdgegnakiljfjaa.PT
