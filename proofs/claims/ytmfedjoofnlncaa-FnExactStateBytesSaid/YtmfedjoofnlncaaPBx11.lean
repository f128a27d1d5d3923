-- Written for this claim by the session's program pp.py, out of the kit's print and the seat's translation.
import Derived.Test.YtmfedjoofnlncaaPBx0
namespace Go.Proofs.Ytmfedjoofnlncaa.PB
open Go.RowKit Go.Proofs.YtmfedjoofnlncaaW.PrintWords Go.Proofs.YtmfedjoofnlncaaW.PrintLast Go.Proofs.YtmfedjoofnlncaaW.PrintMore
attribute [local go_sem] max2_int min2_int max_two min_two max_three min_three max_four min_four   -- for this text's walks alone
set_option linter.unusedVariables false
set_option linter.unusedSimpArgs false

/-! ### laws_eqByteS: function 9 -/
def laws_eqByteS.l0 : Nat → List Int → List Int → Int → Option (Bool)
 | 0, _, _, _ => none
 | k + 1, x0, x1, x5 => if x5 < (x0.length : Int) then (if 0 ≤ x5 then (if x5 < (x1.length : Int) then (if (rd x0 x5) = (rd x1 x5) then (laws_eqByteS.l0 k x0 x1 (wrap64 (x5 + 1))) else (some false)) else (none)) else (none)) else (some true)
def laws_eqByteS.f (k : Nat) (l0 : List Int) (l1 : List Int) : Option (Bool) := if (l0.length : Int) = (l1.length : Int) then (laws_eqByteS.l0 k l0 l1 0) else (some false)
set_option maxHeartbeats 8000000 in
set_option maxRecDepth 100000 in
theorem laws_eqByteS.calls (k : Nat) (A0 : Option Addr) (c0 : Nat) (l0 : List Int) (A1 : Option Addr) (c1 : Nat) (l1 : List Int) (r : Bool) (w : World) (hr0 : Kd.C (Kd.int .u8) w A0 l0.length l0) (hc0 : l0.length ≤ c0) (hr1 : Kd.C (Kd.int .u8) w A1 l1.length l1) (hc1 : l1.length ≤ c1) (h : laws_eqByteS.f k l0 l1 = some r) :
  Calls Try.prog 9 #[.slice A0 l0.length c0, .slice A1 l1.length c1] w fun e w' => e = .returned (.bool r) ∧ Drawn0 w w' := by
 have HR0 := Aside0.mk hr0
 have HC0 := Aside0.mk hc0
 clear hr0 hc0
 have HR1 := Aside0.mk hr1
 have HC1 := Aside0.mk hc1
 clear hr1 hc1
 have H : (if (l0.length : Int) = (l1.length : Int) then (laws_eqByteS.l0 k l0 l1 0) else (some false)) = some r := h
 clear h
 by_cases c3 : (l0.length : Int) = (l1.length : Int)
 ·rw [if_pos c3] at H
  have c3b0 : ((l0.length : Int) == (l1.length : Int)) = true := beq_iff_eq.mpr c3
  have c3b1 : ((l0.length : Int) != (l1.length : Int)) = false := bne_eq_false_iff_eq.mpr c3
  have c3b2 : (l0.length == l1.length) = true := by first | simpa using c3 | (simp at c3 ⊢; omega)
  clear c3
  have H' := Aside0.mk H
  clear H
  go_enter Try.func9, Try.ntmps9
  go_wp2
  repeat (go_quiet (fail); try go_wp2)
  go_loopg [5] k (fun kq v5 w' => ∃ (x5_1 : Int), v5 = .int .i64 x5_1 ∧ Aside0 (laws_eqByteS.l0 kq l0 l1 x5_1 = some r) ∧ Aside0 (kq ≤ k) ∧ Drawn0 w w')
  case atStart => exact ⟨(0), rs_, H', ⟨Nat.le_refl _⟩, by repeat (first | exact Drawn0.refl _ | apply Drawn0.step)⟩
  case round =>
   clear H'
   try clear c1; try clear p2; try clear c3; try clear c3b0; try clear c3b1; try clear c3b2
   obtain ⟨x5_1, rfl, HA, HK1, ⟨m1, rfl⟩⟩ := hrel
   cases gk with
   | zero => exact absurd HA.out (by simp [laws_eqByteS.l0])
   | succ k1 =>
    have H := HA.out
    clear HA
    simp only [laws_eqByteS.l0] at H
    by_cases c4 : x5_1 < (l0.length : Int)
    ·rw [if_pos c4] at H
     have c4b0 : decide (x5_1 < (l0.length : Int)) = true := decide_eq_true c4
     clear c4
     by_cases c5 : 0 ≤ x5_1
     ·rw [if_pos c5] at H
      have c5b0 : decide (0 ≤ x5_1) = true := decide_eq_true c5
      clear c5
      by_cases c6 : x5_1 < (l1.length : Int)
      ·rw [if_pos c6] at H
       have c6b0 : decide (x5_1 < (l1.length : Int)) = true := decide_eq_true c6
       clear c6
       by_cases c7 : (rd l0 x5_1) = (rd l1 x5_1)
       ·rw [if_pos c7] at H
        have c7b0 : ((rd l0 x5_1) == (rd l1 x5_1)) = true := beq_iff_eq.mpr c7
        have c7b1 : ((rd l0 x5_1) != (rd l1 x5_1)) = false := bne_eq_false_iff_eq.mpr c7
        clear c7
        have H' := Aside0.mk H
        clear H
        have p456 : 0 ≤ (x5_1 : Int) := od
        have q456 : x5_1 < (l0.length : Int) := od
        obtain ⟨ad456, e456, hx456_0⟩ := Kd.at_int HR0.out x5_1 p456 q456
        cases e456
        replace p456 := eq_true p456
        replace q456 := eq_true q456
        have p457 : 0 ≤ (x5_1 : Int) := od
        have q457 : x5_1 < (l1.length : Int) := od
        obtain ⟨ad457, e457, hx457_0⟩ := Kd.at_int HR1.out x5_1 p457 q457
        cases e457
        replace p457 := eq_true p457
        replace q457 := eq_true q457
        go_wp2
        repeat (go_quiet (fail); try go_wp2)
        go_roundg k1
        case measure => have := HK1.out; omega
        case rel => exact ⟨(wrap64 (x5_1 + 1)), rs_, H', ⟨by have := HK1.out; omega⟩, by repeat (first | exact Drawn0.refl _ | apply Drawn0.step)⟩
       rw [if_neg c7] at H
       have c7b0 : ((rd l0 x5_1) == (rd l1 x5_1)) = false := beq_eq_false_iff_ne.mpr c7
       have c7b1 : ((rd l0 x5_1) != (rd l1 x5_1)) = true := bne_iff_ne.mpr c7
       obtain rfl := Option.some.inj H
       have p456 : 0 ≤ (x5_1 : Int) := od
       have q456 : x5_1 < (l0.length : Int) := od
       obtain ⟨ad456, e456, hx456_0⟩ := Kd.at_int HR0.out x5_1 p456 q456
       cases e456
       replace p456 := eq_true p456
       replace q456 := eq_true q456
       have p457 : 0 ≤ (x5_1 : Int) := od
       have q457 : x5_1 < (l1.length : Int) := od
       obtain ⟨ad457, e457, hx457_0⟩ := Kd.at_int HR1.out x5_1 p457 q457
       cases e457
       replace p457 := eq_true p457
       replace q457 := eq_true q457
       go_wp2
       repeat (go_quiet (fail); try go_wp2)
       go_ret
       exact ⟨by first | rfl | (simp; done) | (simp [*]; done), by repeat (first | exact Drawn0.refl _ | apply Drawn0.step)⟩
      rw [if_neg c6] at H
      exact absurd H (by simp)
     rw [if_neg c5] at H
     exact absurd H (by simp)
    rw [if_neg c4] at H
    have c4b0 : decide (x5_1 < (l0.length : Int)) = false := decide_eq_false c4
    clear c4
    obtain rfl := Option.some.inj H
    go_wp2
    repeat (go_quiet (fail); try go_wp2)
    go_ret
    exact ⟨by first | rfl | (simp; done) | (simp [*]; done), by repeat (first | exact Drawn0.refl _ | apply Drawn0.step)⟩
 rw [if_neg c3] at H
 have c3b0 : ((l0.length : Int) == (l1.length : Int)) = false := beq_eq_false_iff_ne.mpr c3
 have c3b1 : ((l0.length : Int) != (l1.length : Int)) = true := bne_iff_ne.mpr c3
 have c3b2 : (l0.length == l1.length) = false := by first | simpa using c3 | (simp at c3 ⊢; omega)
 obtain rfl := Option.some.inj H
 go_enter Try.func9, Try.ntmps9
 go_wp2
 repeat (go_quiet (fail); try go_wp2)
 go_ret
 exact ⟨by first | rfl | (simp; done) | (simp [*]; done), by repeat (first | exact Drawn0.refl _ | apply Drawn0.step)⟩

/-! ### laws_eqRow: function 71 -/
def laws_eqRow.f (k : Nat) (l0_0 : List Int) (l0_1 : List Int) (a0_2 : Int) (a0_3 : Int) (l1_0 : List Int) (l1_1 : List Int) (a1_2 : Int) (a1_3 : Int) : Option (Bool) := (laws_eqByteS.f k l0_0 l1_0).bind fun t460 => (if t460 = true then ((laws_eqByteS.f k l0_1 l1_1).bind fun t461 => (if t461 = true then (if a0_2 = a1_2 then (if a0_3 = a1_3 then (some true) else (some false)) else (some false)) else (some false))) else (some false))
set_option maxHeartbeats 8000000 in
set_option maxRecDepth 100000 in
theorem laws_eqRow.calls (k : Nat) (A0_0 : Option Addr) (c0_0 : Nat) (l0_0 : List Int) (A0_1 : Option Addr) (c0_1 : Nat) (l0_1 : List Int) (a0_2 : Int) (a0_3 : Int) (A1_0 : Option Addr) (c1_0 : Nat) (l1_0 : List Int) (A1_1 : Option Addr) (c1_1 : Nat) (l1_1 : List Int) (a1_2 : Int) (a1_3 : Int) (r : Bool) (w : World) (hr0_0 : Kd.C (Kd.int .u8) w A0_0 l0_0.length l0_0) (hc0_0 : l0_0.length ≤ c0_0) (hr0_1 : Kd.C (Kd.int .u8) w A0_1 l0_1.length l0_1) (hc0_1 : l0_1.length ≤ c0_1) (hr1_0 : Kd.C (Kd.int .u8) w A1_0 l1_0.length l1_0) (hc1_0 : l1_0.length ≤ c1_0) (hr1_1 : Kd.C (Kd.int .u8) w A1_1 l1_1.length l1_1) (hc1_1 : l1_1.length ≤ c1_1) (h : laws_eqRow.f k l0_0 l0_1 a0_2 a0_3 l1_0 l1_1 a1_2 a1_3 = some r) :
  Calls Try.prog 71 #[.agg #[.slice A0_0 l0_0.length c0_0, .slice A0_1 l0_1.length c0_1, .int .i64 a0_2, .int .i64 a0_3], .agg #[.slice A1_0 l1_0.length c1_0, .slice A1_1 l1_1.length c1_1, .int .i64 a1_2, .int .i64 a1_3]] w fun e w' => e = .returned (.bool r) ∧ Below w.heap.size w w' := by
 have hu70 := Try.underlying70
 have HR0_0 := Aside0.mk hr0_0
 have HC0_0 := Aside0.mk hc0_0
 clear hr0_0 hc0_0
 have HR0_1 := Aside0.mk hr0_1
 have HC0_1 := Aside0.mk hc0_1
 clear hr0_1 hc0_1
 have HR1_0 := Aside0.mk hr1_0
 have HC1_0 := Aside0.mk hc1_0
 clear hr1_0 hc1_0
 have HR1_1 := Aside0.mk hr1_1
 have HC1_1 := Aside0.mk hc1_1
 clear hr1_1 hc1_1
 have HB := Aside0.mk (Below.refl w.heap.size w)
 have H : ((laws_eqByteS.f k l0_0 l1_0).bind fun t460 => (if t460 = true then ((laws_eqByteS.f k l0_1 l1_1).bind fun t461 => (if t461 = true then (if a0_2 = a1_2 then (if a0_3 = a1_3 then (some true) else (some false)) else (some false)) else (some false))) else (some false))) = some r := h
 clear h
 replace H := Option.bind_eq_some_iff.mp H
 obtain ⟨t460, A30, H⟩ := H
 replace H : (if t460 = true then ((laws_eqByteS.f k l0_1 l1_1).bind fun t461 => (if t461 = true then (if a0_2 = a1_2 then (if a0_3 = a1_3 then (some true) else (some false)) else (some false)) else (some false))) else (some false)) = some r := H
 have A3 := Aside0.mk A30
 clear A30
 by_cases c4 : t460 = true
 ·subst c4
  have H1 : ((laws_eqByteS.f k l0_1 l1_1).bind fun t461 => (if t461 = true then (if a0_2 = a1_2 then (if a0_3 = a1_3 then (some true) else (some false)) else (some false)) else (some false))) = some r := by rw [if_pos rfl] at H; exact H
  clear H
  have H := H1
  clear H1
  replace H := Option.bind_eq_some_iff.mp H
  obtain ⟨t461, A50, H⟩ := H
  replace H : (if t461 = true then (if a0_2 = a1_2 then (if a0_3 = a1_3 then (some true) else (some false)) else (some false)) else (some false)) = some r := H
  have A5 := Aside0.mk A50
  clear A50
  by_cases c6 : t461 = true
  ·subst c6
   have H1 : (if a0_2 = a1_2 then (if a0_3 = a1_3 then (some true) else (some false)) else (some false)) = some r := by rw [if_pos rfl] at H; exact H
   clear H
   have H := H1
   clear H1
   by_cases c7 : a0_2 = a1_2
   ·rw [if_pos c7] at H
    have c7b0 : (a0_2 == a1_2) = true := beq_iff_eq.mpr c7
    have c7b1 : (a0_2 != a1_2) = false := bne_eq_false_iff_eq.mpr c7
    clear c7
    by_cases c8 : a0_3 = a1_3
    ·rw [if_pos c8] at H
     have c8b0 : (a0_3 == a1_3) = true := beq_iff_eq.mpr c8
     have c8b1 : (a0_3 != a1_3) = false := bne_eq_false_iff_eq.mpr c8
     clear c8
     obtain rfl := Option.some.inj H
     go_enter Try.func71, Try.ntmps71
     go_wp2_with (first | ((with_reducible refine gate_dst (N := 2) rfl ?_); refine bx_ 2 #[.slice A0_0 l0_0.length c0_0, .slice A0_1 l0_1.length c0_1, .int .i64 a0_2, .int .i64 a0_3] 70 (h := ?_); intro gb458 hg w9 hbox hb; have BK458 := Aside0.mk (hbox); have GW458 := Aside0.mk ((by rw [hg]; exact (below_size bel) : w.heap.size ≤ gb458)); have GE458 := GW458; replace HB := bst hb; clear hb hbox hg) | ((with_reducible refine gate_dst (N := 3) rfl ?_); refine bx_ 3 #[.slice A1_0 l1_0.length c1_0, .slice A1_1 l1_1.length c1_1, .int .i64 a1_2, .int .i64 a1_3] 70 (h := ?_); intro gb459 hg w10 hbox hb; have BK459 := Aside0.mk (hbox); have GW459 := Aside0.mk ((by rw [hg]; exact (below_size bel) : w.heap.size ≤ gb459)); have GE459 := GW459; have NB458_459 := Aside0.mk ((by rw [hg]; exact Nat.ne_of_lt (blt BK458) : gb458 ≠ gb459)); have NB459_458 := Aside0.mk NB458_459.out.symm; replace BK458 := Aside0.mk (blb BK458 hb); replace HB := bst hb; clear hb hbox hg; have hnb11 := NB458_459.out; have hnc11 := NB459_458.out; obtain ⟨C12_0, C12_1, C12_2, C12_3, -⟩ := cells_4 BK458.out trivial; obtain ⟨F12_0, F12_1, F12_2, F12_3, -⟩ := frz_4 BK458.out; obtain ⟨C13_0, C13_1, C13_2, C13_3, -⟩ := cells_4 BK459.out trivial; obtain ⟨F13_0, F13_1, F13_2, F13_3, -⟩ := frz_4 BK459.out) | ((with_reducible refine gate_callee (f := 9) rfl ?_); refine gl_ (some 9) Try.func9 #[.slice A0_0 l0_0.length c0_0, .slice A1_0 l1_0.length c1_0] (h := ?_); (with_reducible refine (laws_eqByteS.calls k _ _ l0_0 _ _ l1_0 true _ ?side1 ?side2 ?side3 ?side4 A3.out).mono ?_); (case side1 => exact kcb); (case side2 => exact HC0_0.out); (case side3 => exact kcb); (case side4 => exact HC1_0.out); rintro e w' ⟨rfl, ⟨nd, rfl⟩⟩; refine ⟨_, rfl, ?_⟩) | ((with_reducible refine gate_callee (f := 9) rfl ?_); refine gl_ (some 15) Try.func9 #[.slice A0_1 l0_1.length c0_1, .slice A1_1 l1_1.length c1_1] (h := ?_); (with_reducible refine (laws_eqByteS.calls k _ _ l0_1 _ _ l1_1 true _ ?side1 ?side2 ?side3 ?side4 A5.out).mono ?_); (case side1 => exact kcb); (case side2 => exact HC0_1.out); (case side3 => exact kcb); (case side4 => exact HC1_1.out); rintro e w' ⟨rfl, ⟨nd, rfl⟩⟩; refine ⟨_, rfl, ?_⟩))
     go_ret
     exact ⟨rz_, bel⟩
    rw [if_neg c8] at H
    have c8b0 : (a0_3 == a1_3) = false := beq_eq_false_iff_ne.mpr c8
    have c8b1 : (a0_3 != a1_3) = true := bne_iff_ne.mpr c8
    obtain rfl := Option.some.inj H
    go_enter Try.func71, Try.ntmps71
    go_wp2_with (first | ((with_reducible refine gate_dst (N := 2) rfl ?_); refine bx_ 2 #[.slice A0_0 l0_0.length c0_0, .slice A0_1 l0_1.length c0_1, .int .i64 a0_2, .int .i64 a0_3] 70 (h := ?_); intro gb458 hg w14 hbox hb; have BK458 := Aside0.mk (hbox); have GW458 := Aside0.mk ((by rw [hg]; exact (below_size bel) : w.heap.size ≤ gb458)); have GE458 := GW458; replace HB := bst hb; clear hb hbox hg) | ((with_reducible refine gate_dst (N := 3) rfl ?_); refine bx_ 3 #[.slice A1_0 l1_0.length c1_0, .slice A1_1 l1_1.length c1_1, .int .i64 a1_2, .int .i64 a1_3] 70 (h := ?_); intro gb459 hg w15 hbox hb; have BK459 := Aside0.mk (hbox); have GW459 := Aside0.mk ((by rw [hg]; exact (below_size bel) : w.heap.size ≤ gb459)); have GE459 := GW459; have NB458_459 := Aside0.mk ((by rw [hg]; exact Nat.ne_of_lt (blt BK458) : gb458 ≠ gb459)); have NB459_458 := Aside0.mk NB458_459.out.symm; replace BK458 := Aside0.mk (blb BK458 hb); replace HB := bst hb; clear hb hbox hg; have hnb16 := NB458_459.out; have hnc16 := NB459_458.out; obtain ⟨C17_0, C17_1, C17_2, C17_3, -⟩ := cells_4 BK458.out trivial; obtain ⟨F17_0, F17_1, F17_2, F17_3, -⟩ := frz_4 BK458.out; obtain ⟨C18_0, C18_1, C18_2, C18_3, -⟩ := cells_4 BK459.out trivial; obtain ⟨F18_0, F18_1, F18_2, F18_3, -⟩ := frz_4 BK459.out) | ((with_reducible refine gate_callee (f := 9) rfl ?_); refine gl_ (some 9) Try.func9 #[.slice A0_0 l0_0.length c0_0, .slice A1_0 l1_0.length c1_0] (h := ?_); (with_reducible refine (laws_eqByteS.calls k _ _ l0_0 _ _ l1_0 true _ ?side1 ?side2 ?side3 ?side4 A3.out).mono ?_); (case side1 => exact kcb); (case side2 => exact HC0_0.out); (case side3 => exact kcb); (case side4 => exact HC1_0.out); rintro e w' ⟨rfl, ⟨nd, rfl⟩⟩; refine ⟨_, rfl, ?_⟩) | ((with_reducible refine gate_callee (f := 9) rfl ?_); refine gl_ (some 15) Try.func9 #[.slice A0_1 l0_1.length c0_1, .slice A1_1 l1_1.length c1_1] (h := ?_); (with_reducible refine (laws_eqByteS.calls k _ _ l0_1 _ _ l1_1 true _ ?side1 ?side2 ?side3 ?side4 A5.out).mono ?_); (case side1 => exact kcb); (case side2 => exact HC0_1.out); (case side3 => exact kcb); (case side4 => exact HC1_1.out); rintro e w' ⟨rfl, ⟨nd, rfl⟩⟩; refine ⟨_, rfl, ?_⟩))
    go_ret
    exact ⟨rz_, bel⟩
   rw [if_neg c7] at H
   have c7b0 : (a0_2 == a1_2) = false := beq_eq_false_iff_ne.mpr c7
   have c7b1 : (a0_2 != a1_2) = true := bne_iff_ne.mpr c7
   obtain rfl := Option.some.inj H
   go_enter Try.func71, Try.ntmps71
   go_wp2_with (first | ((with_reducible refine gate_dst (N := 2) rfl ?_); refine bx_ 2 #[.slice A0_0 l0_0.length c0_0, .slice A0_1 l0_1.length c0_1, .int .i64 a0_2, .int .i64 a0_3] 70 (h := ?_); intro gb458 hg w19 hbox hb; have BK458 := Aside0.mk (hbox); have GW458 := Aside0.mk ((by rw [hg]; exact (below_size bel) : w.heap.size ≤ gb458)); have GE458 := GW458; replace HB := bst hb; clear hb hbox hg) | ((with_reducible refine gate_dst (N := 3) rfl ?_); refine bx_ 3 #[.slice A1_0 l1_0.length c1_0, .slice A1_1 l1_1.length c1_1, .int .i64 a1_2, .int .i64 a1_3] 70 (h := ?_); intro gb459 hg w20 hbox hb; have BK459 := Aside0.mk (hbox); have GW459 := Aside0.mk ((by rw [hg]; exact (below_size bel) : w.heap.size ≤ gb459)); have GE459 := GW459; have NB458_459 := Aside0.mk ((by rw [hg]; exact Nat.ne_of_lt (blt BK458) : gb458 ≠ gb459)); have NB459_458 := Aside0.mk NB458_459.out.symm; replace BK458 := Aside0.mk (blb BK458 hb); replace HB := bst hb; clear hb hbox hg; have hnb21 := NB458_459.out; have hnc21 := NB459_458.out; obtain ⟨C22_0, C22_1, C22_2, C22_3, -⟩ := cells_4 BK458.out trivial; obtain ⟨F22_0, F22_1, F22_2, F22_3, -⟩ := frz_4 BK458.out; obtain ⟨C23_0, C23_1, C23_2, C23_3, -⟩ := cells_4 BK459.out trivial; obtain ⟨F23_0, F23_1, F23_2, F23_3, -⟩ := frz_4 BK459.out) | ((with_reducible refine gate_callee (f := 9) rfl ?_); refine gl_ (some 9) Try.func9 #[.slice A0_0 l0_0.length c0_0, .slice A1_0 l1_0.length c1_0] (h := ?_); (with_reducible refine (laws_eqByteS.calls k _ _ l0_0 _ _ l1_0 true _ ?side1 ?side2 ?side3 ?side4 A3.out).mono ?_); (case side1 => exact kcb); (case side2 => exact HC0_0.out); (case side3 => exact kcb); (case side4 => exact HC1_0.out); rintro e w' ⟨rfl, ⟨nd, rfl⟩⟩; refine ⟨_, rfl, ?_⟩) | ((with_reducible refine gate_callee (f := 9) rfl ?_); refine gl_ (some 15) Try.func9 #[.slice A0_1 l0_1.length c0_1, .slice A1_1 l1_1.length c1_1] (h := ?_); (with_reducible refine (laws_eqByteS.calls k _ _ l0_1 _ _ l1_1 true _ ?side1 ?side2 ?side3 ?side4 A5.out).mono ?_); (case side1 => exact kcb); (case side2 => exact HC0_1.out); (case side3 => exact kcb); (case side4 => exact HC1_1.out); rintro e w' ⟨rfl, ⟨nd, rfl⟩⟩; refine ⟨_, rfl, ?_⟩))
   go_ret
   exact ⟨rz_, bel⟩
  replace c6 := Bool.eq_false_iff.mpr c6
  subst c6
  have H1 : (some false) = some r := by rw [if_neg (show ¬ (false = true) by decide)] at H; exact H
  clear H
  have H := H1
  clear H1
  obtain rfl := Option.some.inj H
  go_enter Try.func71, Try.ntmps71
  go_wp2_with (first | ((with_reducible refine gate_dst (N := 2) rfl ?_); refine bx_ 2 #[.slice A0_0 l0_0.length c0_0, .slice A0_1 l0_1.length c0_1, .int .i64 a0_2, .int .i64 a0_3] 70 (h := ?_); intro gb458 hg w24 hbox hb; have BK458 := Aside0.mk (hbox); have GW458 := Aside0.mk ((by rw [hg]; exact (below_size bel) : w.heap.size ≤ gb458)); have GE458 := GW458; replace HB := bst hb; clear hb hbox hg) | ((with_reducible refine gate_dst (N := 3) rfl ?_); refine bx_ 3 #[.slice A1_0 l1_0.length c1_0, .slice A1_1 l1_1.length c1_1, .int .i64 a1_2, .int .i64 a1_3] 70 (h := ?_); intro gb459 hg w25 hbox hb; have BK459 := Aside0.mk (hbox); have GW459 := Aside0.mk ((by rw [hg]; exact (below_size bel) : w.heap.size ≤ gb459)); have GE459 := GW459; have NB458_459 := Aside0.mk ((by rw [hg]; exact Nat.ne_of_lt (blt BK458) : gb458 ≠ gb459)); have NB459_458 := Aside0.mk NB458_459.out.symm; replace BK458 := Aside0.mk (blb BK458 hb); replace HB := bst hb; clear hb hbox hg; have hnb26 := NB458_459.out; have hnc26 := NB459_458.out; obtain ⟨C27_0, C27_1, C27_2, C27_3, -⟩ := cells_4 BK458.out trivial; obtain ⟨F27_0, F27_1, F27_2, F27_3, -⟩ := frz_4 BK458.out; obtain ⟨C28_0, C28_1, C28_2, C28_3, -⟩ := cells_4 BK459.out trivial; obtain ⟨F28_0, F28_1, F28_2, F28_3, -⟩ := frz_4 BK459.out) | ((with_reducible refine gate_callee (f := 9) rfl ?_); refine gl_ (some 9) Try.func9 #[.slice A0_0 l0_0.length c0_0, .slice A1_0 l1_0.length c1_0] (h := ?_); (with_reducible refine (laws_eqByteS.calls k _ _ l0_0 _ _ l1_0 true _ ?side1 ?side2 ?side3 ?side4 A3.out).mono ?_); (case side1 => exact kcb); (case side2 => exact HC0_0.out); (case side3 => exact kcb); (case side4 => exact HC1_0.out); rintro e w' ⟨rfl, ⟨nd, rfl⟩⟩; refine ⟨_, rfl, ?_⟩) | ((with_reducible refine gate_callee (f := 9) rfl ?_); refine gl_ (some 15) Try.func9 #[.slice A0_1 l0_1.length c0_1, .slice A1_1 l1_1.length c1_1] (h := ?_); (with_reducible refine (laws_eqByteS.calls k _ _ l0_1 _ _ l1_1 false _ ?side1 ?side2 ?side3 ?side4 A5.out).mono ?_); (case side1 => exact kcb); (case side2 => exact HC0_1.out); (case side3 => exact kcb); (case side4 => exact HC1_1.out); rintro e w' ⟨rfl, ⟨nd, rfl⟩⟩; refine ⟨_, rfl, ?_⟩))
  go_ret
  exact ⟨rz_, bel⟩
 replace c4 := Bool.eq_false_iff.mpr c4
 subst c4
 have H1 : (some false) = some r := by rw [if_neg (show ¬ (false = true) by decide)] at H; exact H
 clear H
 have H := H1
 clear H1
 obtain rfl := Option.some.inj H
 go_enter Try.func71, Try.ntmps71
 go_wp2_with (first | ((with_reducible refine gate_dst (N := 2) rfl ?_); refine bx_ 2 #[.slice A0_0 l0_0.length c0_0, .slice A0_1 l0_1.length c0_1, .int .i64 a0_2, .int .i64 a0_3] 70 (h := ?_); intro gb458 hg w29 hbox hb; have BK458 := Aside0.mk (hbox); have GW458 := Aside0.mk ((by rw [hg]; exact (below_size bel) : w.heap.size ≤ gb458)); have GE458 := GW458; replace HB := bst hb; clear hb hbox hg) | ((with_reducible refine gate_dst (N := 3) rfl ?_); refine bx_ 3 #[.slice A1_0 l1_0.length c1_0, .slice A1_1 l1_1.length c1_1, .int .i64 a1_2, .int .i64 a1_3] 70 (h := ?_); intro gb459 hg w30 hbox hb; have BK459 := Aside0.mk (hbox); have GW459 := Aside0.mk ((by rw [hg]; exact (below_size bel) : w.heap.size ≤ gb459)); have GE459 := GW459; have NB458_459 := Aside0.mk ((by rw [hg]; exact Nat.ne_of_lt (blt BK458) : gb458 ≠ gb459)); have NB459_458 := Aside0.mk NB458_459.out.symm; replace BK458 := Aside0.mk (blb BK458 hb); replace HB := bst hb; clear hb hbox hg; have hnb31 := NB458_459.out; have hnc31 := NB459_458.out; obtain ⟨C32_0, C32_1, C32_2, C32_3, -⟩ := cells_4 BK458.out trivial; obtain ⟨F32_0, F32_1, F32_2, F32_3, -⟩ := frz_4 BK458.out; obtain ⟨C33_0, C33_1, C33_2, C33_3, -⟩ := cells_4 BK459.out trivial; obtain ⟨F33_0, F33_1, F33_2, F33_3, -⟩ := frz_4 BK459.out) | ((with_reducible refine gate_callee (f := 9) rfl ?_); refine gl_ (some 9) Try.func9 #[.slice A0_0 l0_0.length c0_0, .slice A1_0 l1_0.length c1_0] (h := ?_); (with_reducible refine (laws_eqByteS.calls k _ _ l0_0 _ _ l1_0 false _ ?side1 ?side2 ?side3 ?side4 A3.out).mono ?_); (case side1 => exact kcb); (case side2 => exact HC0_0.out); (case side3 => exact kcb); (case side4 => exact HC1_0.out); rintro e w' ⟨rfl, ⟨nd, rfl⟩⟩; refine ⟨_, rfl, ?_⟩))
 go_ret
 exact ⟨rz_, bel⟩

/-! ### laws_eqRowS: function 31 -/
def laws_eqRowS.l0 : Nat → List (S70) → List (S70) → Int → Option (Bool)
 | 0, _, _, _ => none
 | k + 1, x0, x1, x5 => if x5 < (x0.length : Int) then (if 0 ≤ x5 then (if x5 < (x1.length : Int) then ((laws_eqRow.f k ((rd_T70 x0 x5).f0) ((rd_T70 x0 x5).f1) ((rd_T70 x0 x5).f2) ((rd_T70 x0 x5).f3) ((rd_T70 x1 x5).f0) ((rd_T70 x1 x5).f1) ((rd_T70 x1 x5).f2) ((rd_T70 x1 x5).f3)).bind fun t464 => (if t464 = true then (laws_eqRowS.l0 k x0 x1 (wrap64 (x5 + 1))) else (some false))) else (none)) else (none)) else (some true)
def laws_eqRowS.f (k : Nat) (l0 : List (S70)) (l1 : List (S70)) : Option (Bool) := if (l0.length : Int) = (l1.length : Int) then (laws_eqRowS.l0 k l0 l1 0) else (some false)
def laws_eqRowS.T6 : Bool × List (List Nat × List Nat) := (true, [([], []), ([], []), ([0, 1], [0, 1]), ([2], [2]), ([], []), ([], []), ([4, 5], [4, 5]), ([6], [6]), ([3, 7], [3, 7]), ([8], [8])])
def laws_eqRowS.B6 : List Nat := [0, 0, 3, 7, 0, 0, 48, 112, 255, 511]
theorem laws_eqRowS.tab6 : rtab .any (opsOf Try.f31 6) = laws_eqRowS.T6 := by kernel_rfl
theorem laws_eqRowS.bits6 : waitsOk laws_eqRowS.T6.2 laws_eqRowS.B6 = true := by kernel_rfl
set_option maxHeartbeats 8000000 in
set_option maxRecDepth 100000 in
theorem laws_eqRowS.calls (k : Nat) (A0 : Option Addr) (c0 : Nat) (l0 : List (S70)) (A1 : Option Addr) (c1 : Nat) (l1 : List (S70)) (r : Bool) (w : World) (hr0 : Kd.C k70 w A0 l0.length l0) (hc0 : l0.length ≤ c0) (hr1 : Kd.C k70 w A1 l1.length l1) (hc1 : l1.length ≤ c1) (h : laws_eqRowS.f k l0 l1 = some r) :
  Calls Try.prog 31 #[.slice A0 l0.length c0, .slice A1 l1.length c1] w fun e w' => e = .returned (.bool r) ∧ Below w.heap.size w w' := by
 have hu70 := Try.underlying70
 have HR0 := Aside0.mk hr0
 have HC0 := Aside0.mk hc0
 clear hr0 hc0
 have HR1 := Aside0.mk hr1
 have HC1 := Aside0.mk hc1
 clear hr1 hc1
 have HB := Aside0.mk (Below.refl w.heap.size w)
 have H : (if (l0.length : Int) = (l1.length : Int) then (laws_eqRowS.l0 k l0 l1 0) else (some false)) = some r := h
 clear h
 by_cases c3 : (l0.length : Int) = (l1.length : Int)
 ·rw [if_pos c3] at H
  have c3b0 : ((l0.length : Int) == (l1.length : Int)) = true := beq_iff_eq.mpr c3
  have c3b1 : ((l0.length : Int) != (l1.length : Int)) = false := bne_eq_false_iff_eq.mpr c3
  have c3b2 : (l0.length == l1.length) = true := by first | simpa using c3 | (simp at c3 ⊢; omega)
  clear c3
  have H' := Aside0.mk H
  clear H
  go_enter Try.func31, Try.ntmps31
  go_wp2
  go_loopg [5] k (fun kq v5 w' => ∃ (x5_1 : Int), v5 = .int .i64 x5_1 ∧ Aside0 (laws_eqRowS.l0 kq l0 l1 x5_1 = some r) ∧ Aside0 (kq ≤ k) ∧ Aside0 (Below w.heap.size w w'))
  case atStart => exact ⟨(0), rs_, H', ⟨Nat.le_refl _⟩, ⟨bel⟩⟩
  case round =>
   clear H'
   try clear c1; try clear p2; try clear c3; try clear c3b0; try clear c3b1; try clear c3b2
   obtain ⟨x5_1, rfl, HA, HK1, HB⟩ := hrel
   cases gk with
   | zero => exact absurd HA.out (by simp [laws_eqRowS.l0])
   | succ k1 =>
    have H := HA.out
    clear HA
    simp only [laws_eqRowS.l0] at H
    by_cases c4 : x5_1 < (l0.length : Int)
    ·rw [if_pos c4] at H
     have c4b0 : decide (x5_1 < (l0.length : Int)) = true := decide_eq_true c4
     clear c4
     by_cases c5 : 0 ≤ x5_1
     ·rw [if_pos c5] at H
      have c5b0 : decide (0 ≤ x5_1) = true := decide_eq_true c5
      clear c5
      by_cases c6 : x5_1 < (l1.length : Int)
      ·rw [if_pos c6] at H
       have c6b0 : decide (x5_1 < (l1.length : Int)) = true := decide_eq_true c6
       clear c6
       replace H := Option.bind_eq_some_iff.mp H
       obtain ⟨t464, A70, H⟩ := H
       replace H : (if t464 = true then (laws_eqRowS.l0 k1 l0 l1 (wrap64 (x5_1 + 1))) else (some false)) = some r := H
       have A7 := Aside0.mk A70
       clear A70
       by_cases c8 : t464 = true
       ·subst c8
        have H1 : (laws_eqRowS.l0 k1 l0 l1 (wrap64 (x5_1 + 1))) = some r := by rw [if_pos rfl] at H; exact H
        clear H
        have H := H1
        clear H1
        have H' := Aside0.mk H
        clear H
        try go_wp2
        replace HB := Aside0.mk (below_drew1 HB.out)
        have p462 : 0 ≤ (x5_1 : Int) := od
        have q462 : x5_1 < (l0.length : Int) := od
        obtain ⟨ad462, A462_0, c462_0, A462_1, c462_1, e462, hx462_0, hx462_1, hx462_2, hx462_3, hl462_0, hi462_0, hl462_1, hi462_1⟩ := at_T70 HR0.out x5_1 p462 q462
        have hw462_3 := hx462_3
        have hw462_2 := hx462_2
        have hw462_1 := hx462_1
        have hw462_0 := hx462_0
        cases e462
        replace hx462_0 := hxb HB hx462_0
        replace hx462_1 := hxb HB hx462_1
        replace hx462_2 := hxb HB hx462_2
        replace hx462_3 := hxb HB hx462_3
        have HR462_0 := Aside0.mk hi462_0
        have HC462_0 := Aside0.mk hl462_0
        clear hi462_0 hl462_0
        have HR462_1 := Aside0.mk hi462_1
        have HC462_1 := Aside0.mk hl462_1
        clear hi462_1 hl462_1
        replace p462 := eq_true p462
        replace q462 := eq_true q462
        have p463 : 0 ≤ (x5_1 : Int) := od
        have q463 : x5_1 < (l1.length : Int) := od
        obtain ⟨ad463, A463_0, c463_0, A463_1, c463_1, e463, hx463_0, hx463_1, hx463_2, hx463_3, hl463_0, hi463_0, hl463_1, hi463_1⟩ := at_T70 HR1.out x5_1 p463 q463
        have hw463_3 := hx463_3
        have hw463_2 := hx463_2
        have hw463_1 := hx463_1
        have hw463_0 := hx463_0
        cases e463
        replace hx463_0 := hxb HB hx463_0
        replace hx463_1 := hxb HB hx463_1
        replace hx463_2 := hxb HB hx463_2
        replace hx463_3 := hxb HB hx463_3
        have HR463_0 := Aside0.mk hi463_0
        have HC463_0 := Aside0.mk hl463_0
        clear hi463_0 hl463_0
        have HR463_1 := Aside0.mk hi463_1
        have HC463_1 := Aside0.mk hl463_1
        clear hi463_1 hl463_1
        replace p463 := eq_true p463
        replace q463 := eq_true q463
        refine start_ (n := 10) (S := fun w' => w'.cell? (ad462.add ((x5_1).toNat * 4)) = some (.slice A462_0 ((rd_T70 l0 x5_1).f0).length c462_0) ∧ w'.cell? ⟨(ad462.add ((x5_1).toNat * 4)).block, (ad462.add ((x5_1).toNat * 4)).off + 1, none⟩ = some (.slice A462_1 ((rd_T70 l0 x5_1).f1).length c462_1) ∧ w'.cell? ⟨(ad462.add ((x5_1).toNat * 4)).block, (ad462.add ((x5_1).toNat * 4)).off + 2, none⟩ = some (.int .i64 ((rd_T70 l0 x5_1).f2)) ∧ w'.cell? ⟨(ad462.add ((x5_1).toNat * 4)).block, (ad462.add ((x5_1).toNat * 4)).off + 3, none⟩ = some (.int .i64 ((rd_T70 l0 x5_1).f3)) ∧ w'.cell? (ad463.add ((x5_1).toNat * 4)) = some (.slice A463_0 ((rd_T70 l1 x5_1).f0).length c463_0) ∧ w'.cell? ⟨(ad463.add ((x5_1).toNat * 4)).block, (ad463.add ((x5_1).toNat * 4)).off + 1, none⟩ = some (.slice A463_1 ((rd_T70 l1 x5_1).f1).length c463_1) ∧ w'.cell? ⟨(ad463.add ((x5_1).toNat * 4)).block, (ad463.add ((x5_1).toNat * 4)).off + 2, none⟩ = some (.int .i64 ((rd_T70 l1 x5_1).f2)) ∧ w'.cell? ⟨(ad463.add ((x5_1).toNat * 4)).block, (ad463.add ((x5_1).toNat * 4)).off + 3, none⟩ = some (.int .i64 ((rd_T70 l1 x5_1).f3))) (ds := []) (tf 0 10) (by kernel_rfl) rfl rfl ⟨(hxb HB hw462_0 :), (hxb HB hw462_1 :), (hxb HB hw462_2 :), (hxb HB hw462_3 :), (hxb HB hw463_0 :), (hxb HB hw463_1 :), (hxb HB hw463_2 :), (hxb HB hw463_3 :)⟩ (fun hHeld => ?_); refine with_tabW laws_eqRowS.tab6 laws_eqRowS.bits6 (fun HT_ HW_ => ?_)
        generalize wr.drew = w9 at HB HR462_0 HR462_1 HR463_0 HR463_1 hx462_0 hx462_1 hx462_2 hx462_3 hx463_0 hx463_1 hx463_2 hx463_3 hHeld ⊢
        iterate 3 (refine pvn_ HT_ (h := ?_))
        refine pv_ HT_ 4 (some 21) (tb 10 23) (h := ?_)
        refine pv_ HT_ 5 (some 22) (tb 10 55) (h := ?_)
        refine pv_ HT_ 6 (some 23) (tb 10 119) (h := ?_)
        refine tv_ HT_ HW_ hHeld 3 (some 20) (tf 7 3) (h := ?_)
        refine tvn_ HT_ HW_ hHeld (h := ?_)
        refine one_ (i := 8) (N := some 25) (tf 9 1) rfl rfl (one_of HT_.out (by kernel_rfl)) (by decide) (fun K hK => ?_)
        refine gs_ Try.func71 #[.agg #[.slice A462_0 ((rd_T70 l0 x5_1).f0).length c462_0, .slice A462_1 ((rd_T70 l0 x5_1).f1).length c462_1, .int .i64 ((rd_T70 l0 x5_1).f2), .int .i64 ((rd_T70 l0 x5_1).f3)], .agg #[.slice A463_0 ((rd_T70 l1 x5_1).f0).length c463_0, .slice A463_1 ((rd_T70 l1 x5_1).f1).length c463_1, .int .i64 ((rd_T70 l1 x5_1).f2), .int .i64 ((rd_T70 l1 x5_1).f3)]] (h := ?_)
        with_reducible refine (laws_eqRow.calls k1 _ _ ((rd_T70 l0 x5_1).f0) _ _ ((rd_T70 l0 x5_1).f1) ((rd_T70 l0 x5_1).f2) ((rd_T70 l0 x5_1).f3) _ _ ((rd_T70 l1 x5_1).f0) _ _ ((rd_T70 l1 x5_1).f1) ((rd_T70 l1 x5_1).f2) ((rd_T70 l1 x5_1).f3) true _ ?side1 ?side2 ?side3 ?side4 ?side5 ?side6 ?side7 ?side8 A7.out).mono ?_
        (case side1 => exact kcb)
        (case side2 => exact HC462_0.out)
        (case side3 => exact kcb)
        (case side4 => exact HC462_1.out)
        (case side5 => exact kcb)
        (case side6 => exact HC463_0.out)
        (case side7 => exact kcb)
        (case side8 => exact HC463_1.out)
        rintro e w10 ⟨rfl, hb⟩
        refine ⟨_, rfl, ?_⟩
        replace HB := bst hb
        (try clear hb)
        (try clear hb2)
        (try clear hk)
        (try clear hi)
        refine hK.out _ _ ⟨(hxb HB hw462_0 :), (hxb HB hw462_1 :), (hxb HB hw462_2 :), (hxb HB hw462_3 :), (hxb HB hw463_0 :), (hxb HB hw463_1 :), (hxb HB hw463_2 :), (hxb HB hw463_3 :)⟩ (fun hHeld => ?_)
        clear hK K
        refine nrm_ (some 25) (h := ?_)
        refine pvn_ HT_ (h := ?_)
        refine done_ (done_of HT_.out (by kernel_rfl)) ?_
        try go_wp2
        go_roundg k1
        case measure => have := HK1.out; omega
        case rel => exact ⟨(wrap64 (x5_1 + 1)), rs_, H', ⟨by have := HK1.out; omega⟩, ⟨bel⟩⟩
       replace c8 := Bool.eq_false_iff.mpr c8
       subst c8
       have H1 : (some false) = some r := by rw [if_neg (show ¬ (false = true) by decide)] at H; exact H
       clear H
       have H := H1
       clear H1
       obtain rfl := Option.some.inj H
       try go_wp2
       replace HB := Aside0.mk (below_drew1 HB.out)
       have p462 : 0 ≤ (x5_1 : Int) := od
       have q462 : x5_1 < (l0.length : Int) := od
       obtain ⟨ad462, A462_0, c462_0, A462_1, c462_1, e462, hx462_0, hx462_1, hx462_2, hx462_3, hl462_0, hi462_0, hl462_1, hi462_1⟩ := at_T70 HR0.out x5_1 p462 q462
       have hw462_3 := hx462_3
       have hw462_2 := hx462_2
       have hw462_1 := hx462_1
       have hw462_0 := hx462_0
       cases e462
       replace hx462_0 := hxb HB hx462_0
       replace hx462_1 := hxb HB hx462_1
       replace hx462_2 := hxb HB hx462_2
       replace hx462_3 := hxb HB hx462_3
       have HR462_0 := Aside0.mk hi462_0
       have HC462_0 := Aside0.mk hl462_0
       clear hi462_0 hl462_0
       have HR462_1 := Aside0.mk hi462_1
       have HC462_1 := Aside0.mk hl462_1
       clear hi462_1 hl462_1
       replace p462 := eq_true p462
       replace q462 := eq_true q462
       have p463 : 0 ≤ (x5_1 : Int) := od
       have q463 : x5_1 < (l1.length : Int) := od
       obtain ⟨ad463, A463_0, c463_0, A463_1, c463_1, e463, hx463_0, hx463_1, hx463_2, hx463_3, hl463_0, hi463_0, hl463_1, hi463_1⟩ := at_T70 HR1.out x5_1 p463 q463
       have hw463_3 := hx463_3
       have hw463_2 := hx463_2
       have hw463_1 := hx463_1
       have hw463_0 := hx463_0
       cases e463
       replace hx463_0 := hxb HB hx463_0
       replace hx463_1 := hxb HB hx463_1
       replace hx463_2 := hxb HB hx463_2
       replace hx463_3 := hxb HB hx463_3
       have HR463_0 := Aside0.mk hi463_0
       have HC463_0 := Aside0.mk hl463_0
       clear hi463_0 hl463_0
       have HR463_1 := Aside0.mk hi463_1
       have HC463_1 := Aside0.mk hl463_1
       clear hi463_1 hl463_1
       replace p463 := eq_true p463
       replace q463 := eq_true q463
       refine start_ (n := 10) (S := fun w' => w'.cell? (ad462.add ((x5_1).toNat * 4)) = some (.slice A462_0 ((rd_T70 l0 x5_1).f0).length c462_0) ∧ w'.cell? ⟨(ad462.add ((x5_1).toNat * 4)).block, (ad462.add ((x5_1).toNat * 4)).off + 1, none⟩ = some (.slice A462_1 ((rd_T70 l0 x5_1).f1).length c462_1) ∧ w'.cell? ⟨(ad462.add ((x5_1).toNat * 4)).block, (ad462.add ((x5_1).toNat * 4)).off + 2, none⟩ = some (.int .i64 ((rd_T70 l0 x5_1).f2)) ∧ w'.cell? ⟨(ad462.add ((x5_1).toNat * 4)).block, (ad462.add ((x5_1).toNat * 4)).off + 3, none⟩ = some (.int .i64 ((rd_T70 l0 x5_1).f3)) ∧ w'.cell? (ad463.add ((x5_1).toNat * 4)) = some (.slice A463_0 ((rd_T70 l1 x5_1).f0).length c463_0) ∧ w'.cell? ⟨(ad463.add ((x5_1).toNat * 4)).block, (ad463.add ((x5_1).toNat * 4)).off + 1, none⟩ = some (.slice A463_1 ((rd_T70 l1 x5_1).f1).length c463_1) ∧ w'.cell? ⟨(ad463.add ((x5_1).toNat * 4)).block, (ad463.add ((x5_1).toNat * 4)).off + 2, none⟩ = some (.int .i64 ((rd_T70 l1 x5_1).f2)) ∧ w'.cell? ⟨(ad463.add ((x5_1).toNat * 4)).block, (ad463.add ((x5_1).toNat * 4)).off + 3, none⟩ = some (.int .i64 ((rd_T70 l1 x5_1).f3))) (ds := []) (tf 0 10) (by kernel_rfl) rfl rfl ⟨(hxb HB hw462_0 :), (hxb HB hw462_1 :), (hxb HB hw462_2 :), (hxb HB hw462_3 :), (hxb HB hw463_0 :), (hxb HB hw463_1 :), (hxb HB hw463_2 :), (hxb HB hw463_3 :)⟩ (fun hHeld => ?_); refine with_tabW laws_eqRowS.tab6 laws_eqRowS.bits6 (fun HT_ HW_ => ?_)
       generalize wr.drew = w11 at HB HR462_0 HR462_1 HR463_0 HR463_1 hx462_0 hx462_1 hx462_2 hx462_3 hx463_0 hx463_1 hx463_2 hx463_3 hHeld ⊢
       iterate 3 (refine pvn_ HT_ (h := ?_))
       refine pv_ HT_ 4 (some 21) (tb 10 23) (h := ?_)
       refine pv_ HT_ 5 (some 22) (tb 10 55) (h := ?_)
       refine pv_ HT_ 6 (some 23) (tb 10 119) (h := ?_)
       refine tv_ HT_ HW_ hHeld 3 (some 20) (tf 7 3) (h := ?_)
       refine tvn_ HT_ HW_ hHeld (h := ?_)
       refine one_ (i := 8) (N := some 25) (tf 9 1) rfl rfl (one_of HT_.out (by kernel_rfl)) (by decide) (fun K hK => ?_)
       refine gs_ Try.func71 #[.agg #[.slice A462_0 ((rd_T70 l0 x5_1).f0).length c462_0, .slice A462_1 ((rd_T70 l0 x5_1).f1).length c462_1, .int .i64 ((rd_T70 l0 x5_1).f2), .int .i64 ((rd_T70 l0 x5_1).f3)], .agg #[.slice A463_0 ((rd_T70 l1 x5_1).f0).length c463_0, .slice A463_1 ((rd_T70 l1 x5_1).f1).length c463_1, .int .i64 ((rd_T70 l1 x5_1).f2), .int .i64 ((rd_T70 l1 x5_1).f3)]] (h := ?_)
       with_reducible refine (laws_eqRow.calls k1 _ _ ((rd_T70 l0 x5_1).f0) _ _ ((rd_T70 l0 x5_1).f1) ((rd_T70 l0 x5_1).f2) ((rd_T70 l0 x5_1).f3) _ _ ((rd_T70 l1 x5_1).f0) _ _ ((rd_T70 l1 x5_1).f1) ((rd_T70 l1 x5_1).f2) ((rd_T70 l1 x5_1).f3) false _ ?side1 ?side2 ?side3 ?side4 ?side5 ?side6 ?side7 ?side8 A7.out).mono ?_
       (case side1 => exact kcb)
       (case side2 => exact HC462_0.out)
       (case side3 => exact kcb)
       (case side4 => exact HC462_1.out)
       (case side5 => exact kcb)
       (case side6 => exact HC463_0.out)
       (case side7 => exact kcb)
       (case side8 => exact HC463_1.out)
       rintro e w12 ⟨rfl, hb⟩
       refine ⟨_, rfl, ?_⟩
       replace HB := bst hb
       (try clear hb)
       (try clear hb2)
       (try clear hk)
       (try clear hi)
       refine hK.out _ _ ⟨(hxb HB hw462_0 :), (hxb HB hw462_1 :), (hxb HB hw462_2 :), (hxb HB hw462_3 :), (hxb HB hw463_0 :), (hxb HB hw463_1 :), (hxb HB hw463_2 :), (hxb HB hw463_3 :)⟩ (fun hHeld => ?_)
       clear hK K
       refine nrm_ (some 25) (h := ?_)
       refine pvn_ HT_ (h := ?_)
       refine done_ (done_of HT_.out (by kernel_rfl)) ?_
       try go_wp2
       go_ret
       exact ⟨rz_, bel⟩
      rw [if_neg c6] at H
      exact absurd H (by simp)
     rw [if_neg c5] at H
     exact absurd H (by simp)
    rw [if_neg c4] at H
    have c4b0 : decide (x5_1 < (l0.length : Int)) = false := decide_eq_false c4
    clear c4
    obtain rfl := Option.some.inj H
    go_wp2
    go_ret
    exact ⟨rz_, bel⟩
 rw [if_neg c3] at H
 have c3b0 : ((l0.length : Int) == (l1.length : Int)) = false := beq_eq_false_iff_ne.mpr c3
 have c3b1 : ((l0.length : Int) != (l1.length : Int)) = true := bne_iff_ne.mpr c3
 have c3b2 : (l0.length == l1.length) = false := by first | simpa using c3 | (simp at c3 ⊢; omega)
 obtain rfl := Option.some.inj H
 go_enter Try.func31, Try.ntmps31
 go_wp2
 go_ret
 exact ⟨rz_, bel⟩

/-! ### laws_eqTomb: function 72 -/
def laws_eqTomb.f (k : Nat) (l0_0 : List Int) (a0_1 : Int) (l1_0 : List Int) (a1_1 : Int) : Option (Bool) := (laws_eqByteS.f k l0_0 l1_0).bind fun t467 => (if t467 = true then (if a0_1 = a1_1 then (some true) else (some false)) else (some false))
set_option maxHeartbeats 8000000 in
set_option maxRecDepth 100000 in
theorem laws_eqTomb.calls (k : Nat) (A0_0 : Option Addr) (c0_0 : Nat) (l0_0 : List Int) (a0_1 : Int) (A1_0 : Option Addr) (c1_0 : Nat) (l1_0 : List Int) (a1_1 : Int) (r : Bool) (w : World) (hr0_0 : Kd.C (Kd.int .u8) w A0_0 l0_0.length l0_0) (hc0_0 : l0_0.length ≤ c0_0) (hr1_0 : Kd.C (Kd.int .u8) w A1_0 l1_0.length l1_0) (hc1_0 : l1_0.length ≤ c1_0) (h : laws_eqTomb.f k l0_0 a0_1 l1_0 a1_1 = some r) :
  Calls Try.prog 72 #[.agg #[.slice A0_0 l0_0.length c0_0, .int .i64 a0_1], .agg #[.slice A1_0 l1_0.length c1_0, .int .i64 a1_1]] w fun e w' => e = .returned (.bool r) ∧ Below w.heap.size w w' := by
 have hu85 := Try.underlying85
 have HR0_0 := Aside0.mk hr0_0
 have HC0_0 := Aside0.mk hc0_0
 clear hr0_0 hc0_0
 have HR1_0 := Aside0.mk hr1_0
 have HC1_0 := Aside0.mk hc1_0
 clear hr1_0 hc1_0
 have HB := Aside0.mk (Below.refl w.heap.size w)
 have H : ((laws_eqByteS.f k l0_0 l1_0).bind fun t467 => (if t467 = true then (if a0_1 = a1_1 then (some true) else (some false)) else (some false))) = some r := h
 clear h
 replace H := Option.bind_eq_some_iff.mp H
 obtain ⟨t467, A30, H⟩ := H
 replace H : (if t467 = true then (if a0_1 = a1_1 then (some true) else (some false)) else (some false)) = some r := H
 have A3 := Aside0.mk A30
 clear A30
 by_cases c4 : t467 = true
 ·subst c4
  have H1 : (if a0_1 = a1_1 then (some true) else (some false)) = some r := by rw [if_pos rfl] at H; exact H
  clear H
  have H := H1
  clear H1
  by_cases c5 : a0_1 = a1_1
  ·rw [if_pos c5] at H
   have c5b0 : (a0_1 == a1_1) = true := beq_iff_eq.mpr c5
   have c5b1 : (a0_1 != a1_1) = false := bne_eq_false_iff_eq.mpr c5
   clear c5
   obtain rfl := Option.some.inj H
   go_enter Try.func72, Try.ntmps72
   go_wp2_with (first | ((with_reducible refine gate_dst (N := 2) rfl ?_); refine bx_ 2 #[.slice A0_0 l0_0.length c0_0, .int .i64 a0_1] 85 (h := ?_); intro gb465 hg w6 hbox hb; have BK465 := Aside0.mk (hbox); have GW465 := Aside0.mk ((by rw [hg]; exact (below_size bel) : w.heap.size ≤ gb465)); have GE465 := GW465; replace HB := bst hb; clear hb hbox hg) | ((with_reducible refine gate_dst (N := 3) rfl ?_); refine bx_ 3 #[.slice A1_0 l1_0.length c1_0, .int .i64 a1_1] 85 (h := ?_); intro gb466 hg w7 hbox hb; have BK466 := Aside0.mk (hbox); have GW466 := Aside0.mk ((by rw [hg]; exact (below_size bel) : w.heap.size ≤ gb466)); have GE466 := GW466; have NB465_466 := Aside0.mk ((by rw [hg]; exact Nat.ne_of_lt (blt BK465) : gb465 ≠ gb466)); have NB466_465 := Aside0.mk NB465_466.out.symm; replace BK465 := Aside0.mk (blb BK465 hb); replace HB := bst hb; clear hb hbox hg; have hnb8 := NB465_466.out; have hnc8 := NB466_465.out; obtain ⟨C9_0, C9_1, -⟩ := cells_2 BK465.out trivial; obtain ⟨F9_0, F9_1, -⟩ := frz_2 BK465.out; obtain ⟨C10_0, C10_1, -⟩ := cells_2 BK466.out trivial; obtain ⟨F10_0, F10_1, -⟩ := frz_2 BK466.out) | ((with_reducible refine gate_callee (f := 9) rfl ?_); refine gl_ (some 9) Try.func9 #[.slice A0_0 l0_0.length c0_0, .slice A1_0 l1_0.length c1_0] (h := ?_); (with_reducible refine (laws_eqByteS.calls k _ _ l0_0 _ _ l1_0 true _ ?side1 ?side2 ?side3 ?side4 A3.out).mono ?_); (case side1 => exact kcb); (case side2 => exact HC0_0.out); (case side3 => exact kcb); (case side4 => exact HC1_0.out); rintro e w' ⟨rfl, ⟨nd, rfl⟩⟩; refine ⟨_, rfl, ?_⟩))
   go_ret
   exact ⟨rz_, bel⟩
  rw [if_neg c5] at H
  have c5b0 : (a0_1 == a1_1) = false := beq_eq_false_iff_ne.mpr c5
  have c5b1 : (a0_1 != a1_1) = true := bne_iff_ne.mpr c5
  obtain rfl := Option.some.inj H
  go_enter Try.func72, Try.ntmps72
  go_wp2_with (first | ((with_reducible refine gate_dst (N := 2) rfl ?_); refine bx_ 2 #[.slice A0_0 l0_0.length c0_0, .int .i64 a0_1] 85 (h := ?_); intro gb465 hg w11 hbox hb; have BK465 := Aside0.mk (hbox); have GW465 := Aside0.mk ((by rw [hg]; exact (below_size bel) : w.heap.size ≤ gb465)); have GE465 := GW465; replace HB := bst hb; clear hb hbox hg) | ((with_reducible refine gate_dst (N := 3) rfl ?_); refine bx_ 3 #[.slice A1_0 l1_0.length c1_0, .int .i64 a1_1] 85 (h := ?_); intro gb466 hg w12 hbox hb; have BK466 := Aside0.mk (hbox); have GW466 := Aside0.mk ((by rw [hg]; exact (below_size bel) : w.heap.size ≤ gb466)); have GE466 := GW466; have NB465_466 := Aside0.mk ((by rw [hg]; exact Nat.ne_of_lt (blt BK465) : gb465 ≠ gb466)); have NB466_465 := Aside0.mk NB465_466.out.symm; replace BK465 := Aside0.mk (blb BK465 hb); replace HB := bst hb; clear hb hbox hg; have hnb13 := NB465_466.out; have hnc13 := NB466_465.out; obtain ⟨C14_0, C14_1, -⟩ := cells_2 BK465.out trivial; obtain ⟨F14_0, F14_1, -⟩ := frz_2 BK465.out; obtain ⟨C15_0, C15_1, -⟩ := cells_2 BK466.out trivial; obtain ⟨F15_0, F15_1, -⟩ := frz_2 BK466.out) | ((with_reducible refine gate_callee (f := 9) rfl ?_); refine gl_ (some 9) Try.func9 #[.slice A0_0 l0_0.length c0_0, .slice A1_0 l1_0.length c1_0] (h := ?_); (with_reducible refine (laws_eqByteS.calls k _ _ l0_0 _ _ l1_0 true _ ?side1 ?side2 ?side3 ?side4 A3.out).mono ?_); (case side1 => exact kcb); (case side2 => exact HC0_0.out); (case side3 => exact kcb); (case side4 => exact HC1_0.out); rintro e w' ⟨rfl, ⟨nd, rfl⟩⟩; refine ⟨_, rfl, ?_⟩))
  go_ret
  exact ⟨rz_, bel⟩
 replace c4 := Bool.eq_false_iff.mpr c4
 subst c4
 have H1 : (some false) = some r := by rw [if_neg (show ¬ (false = true) by decide)] at H; exact H
 clear H
 have H := H1
 clear H1
 obtain rfl := Option.some.inj H
 go_enter Try.func72, Try.ntmps72
 go_wp2_with (first | ((with_reducible refine gate_dst (N := 2) rfl ?_); refine bx_ 2 #[.slice A0_0 l0_0.length c0_0, .int .i64 a0_1] 85 (h := ?_); intro gb465 hg w16 hbox hb; have BK465 := Aside0.mk (hbox); have GW465 := Aside0.mk ((by rw [hg]; exact (below_size bel) : w.heap.size ≤ gb465)); have GE465 := GW465; replace HB := bst hb; clear hb hbox hg) | ((with_reducible refine gate_dst (N := 3) rfl ?_); refine bx_ 3 #[.slice A1_0 l1_0.length c1_0, .int .i64 a1_1] 85 (h := ?_); intro gb466 hg w17 hbox hb; have BK466 := Aside0.mk (hbox); have GW466 := Aside0.mk ((by rw [hg]; exact (below_size bel) : w.heap.size ≤ gb466)); have GE466 := GW466; have NB465_466 := Aside0.mk ((by rw [hg]; exact Nat.ne_of_lt (blt BK465) : gb465 ≠ gb466)); have NB466_465 := Aside0.mk NB465_466.out.symm; replace BK465 := Aside0.mk (blb BK465 hb); replace HB := bst hb; clear hb hbox hg; have hnb18 := NB465_466.out; have hnc18 := NB466_465.out; obtain ⟨C19_0, C19_1, -⟩ := cells_2 BK465.out trivial; obtain ⟨F19_0, F19_1, -⟩ := frz_2 BK465.out; obtain ⟨C20_0, C20_1, -⟩ := cells_2 BK466.out trivial; obtain ⟨F20_0, F20_1, -⟩ := frz_2 BK466.out) | ((with_reducible refine gate_callee (f := 9) rfl ?_); refine gl_ (some 9) Try.func9 #[.slice A0_0 l0_0.length c0_0, .slice A1_0 l1_0.length c1_0] (h := ?_); (with_reducible refine (laws_eqByteS.calls k _ _ l0_0 _ _ l1_0 false _ ?side1 ?side2 ?side3 ?side4 A3.out).mono ?_); (case side1 => exact kcb); (case side2 => exact HC0_0.out); (case side3 => exact kcb); (case side4 => exact HC1_0.out); rintro e w' ⟨rfl, ⟨nd, rfl⟩⟩; refine ⟨_, rfl, ?_⟩))
 go_ret
 exact ⟨rz_, bel⟩

/-! ### laws_eqTombS: function 32 -/
def laws_eqTombS.l0 : Nat → List (S85) → List (S85) → Int → Option (Bool)
 | 0, _, _, _ => none
 | k + 1, x0, x1, x5 => if x5 < (x0.length : Int) then (if 0 ≤ x5 then (if x5 < (x1.length : Int) then ((laws_eqTomb.f k ((rd_T85 x0 x5).f0) ((rd_T85 x0 x5).f1) ((rd_T85 x1 x5).f0) ((rd_T85 x1 x5).f1)).bind fun t470 => (if t470 = true then (laws_eqTombS.l0 k x0 x1 (wrap64 (x5 + 1))) else (some false))) else (none)) else (none)) else (some true)
def laws_eqTombS.f (k : Nat) (l0 : List (S85)) (l1 : List (S85)) : Option (Bool) := if (l0.length : Int) = (l1.length : Int) then (laws_eqTombS.l0 k l0 l1 0) else (some false)
def laws_eqTombS.T6 : Bool × List (List Nat × List Nat) := (true, [([], []), ([], []), ([0, 1], [0, 1]), ([2], [2]), ([], []), ([], []), ([4, 5], [4, 5]), ([6], [6]), ([3, 7], [3, 7]), ([8], [8])])
def laws_eqTombS.B6 : List Nat := [0, 0, 3, 7, 0, 0, 48, 112, 255, 511]
theorem laws_eqTombS.tab6 : rtab .any (opsOf Try.f32 6) = laws_eqTombS.T6 := by kernel_rfl
theorem laws_eqTombS.bits6 : waitsOk laws_eqTombS.T6.2 laws_eqTombS.B6 = true := by kernel_rfl
set_option maxHeartbeats 8000000 in
set_option maxRecDepth 100000 in
theorem laws_eqTombS.calls (k : Nat) (A0 : Option Addr) (c0 : Nat) (l0 : List (S85)) (A1 : Option Addr) (c1 : Nat) (l1 : List (S85)) (r : Bool) (w : World) (hr0 : Kd.C k85 w A0 l0.length l0) (hc0 : l0.length ≤ c0) (hr1 : Kd.C k85 w A1 l1.length l1) (hc1 : l1.length ≤ c1) (h : laws_eqTombS.f k l0 l1 = some r) :
  Calls Try.prog 32 #[.slice A0 l0.length c0, .slice A1 l1.length c1] w fun e w' => e = .returned (.bool r) ∧ Below w.heap.size w w' := by
 have hu85 := Try.underlying85
 have HR0 := Aside0.mk hr0
 have HC0 := Aside0.mk hc0
 clear hr0 hc0
 have HR1 := Aside0.mk hr1
 have HC1 := Aside0.mk hc1
 clear hr1 hc1
 have HB := Aside0.mk (Below.refl w.heap.size w)
 have H : (if (l0.length : Int) = (l1.length : Int) then (laws_eqTombS.l0 k l0 l1 0) else (some false)) = some r := h
 clear h
 by_cases c3 : (l0.length : Int) = (l1.length : Int)
 ·rw [if_pos c3] at H
  have c3b0 : ((l0.length : Int) == (l1.length : Int)) = true := beq_iff_eq.mpr c3
  have c3b1 : ((l0.length : Int) != (l1.length : Int)) = false := bne_eq_false_iff_eq.mpr c3
  have c3b2 : (l0.length == l1.length) = true := by first | simpa using c3 | (simp at c3 ⊢; omega)
  clear c3
  have H' := Aside0.mk H
  clear H
  go_enter Try.func32, Try.ntmps32
  go_wp2
  go_loopg [5] k (fun kq v5 w' => ∃ (x5_1 : Int), v5 = .int .i64 x5_1 ∧ Aside0 (laws_eqTombS.l0 kq l0 l1 x5_1 = some r) ∧ Aside0 (kq ≤ k) ∧ Aside0 (Below w.heap.size w w'))
  case atStart => exact ⟨(0), rs_, H', ⟨Nat.le_refl _⟩, ⟨bel⟩⟩
  case round =>
   clear H'
   try clear c1; try clear p2; try clear c3; try clear c3b0; try clear c3b1; try clear c3b2
   obtain ⟨x5_1, rfl, HA, HK1, HB⟩ := hrel
   cases gk with
   | zero => exact absurd HA.out (by simp [laws_eqTombS.l0])
   | succ k1 =>
    have H := HA.out
    clear HA
    simp only [laws_eqTombS.l0] at H
    by_cases c4 : x5_1 < (l0.length : Int)
    ·rw [if_pos c4] at H
     have c4b0 : decide (x5_1 < (l0.length : Int)) = true := decide_eq_true c4
     clear c4
     by_cases c5 : 0 ≤ x5_1
     ·rw [if_pos c5] at H
      have c5b0 : decide (0 ≤ x5_1) = true := decide_eq_true c5
      clear c5
      by_cases c6 : x5_1 < (l1.length : Int)
      ·rw [if_pos c6] at H
       have c6b0 : decide (x5_1 < (l1.length : Int)) = true := decide_eq_true c6
       clear c6
       replace H := Option.bind_eq_some_iff.mp H
       obtain ⟨t470, A70, H⟩ := H
       replace H : (if t470 = true then (laws_eqTombS.l0 k1 l0 l1 (wrap64 (x5_1 + 1))) else (some false)) = some r := H
       have A7 := Aside0.mk A70
       clear A70
       by_cases c8 : t470 = true
       ·subst c8
        have H1 : (laws_eqTombS.l0 k1 l0 l1 (wrap64 (x5_1 + 1))) = some r := by rw [if_pos rfl] at H; exact H
        clear H
        have H := H1
        clear H1
        have H' := Aside0.mk H
        clear H
        try go_wp2
        replace HB := Aside0.mk (below_drew1 HB.out)
        have p468 : 0 ≤ (x5_1 : Int) := od
        have q468 : x5_1 < (l0.length : Int) := od
        obtain ⟨ad468, A468_0, c468_0, e468, hx468_0, hx468_1, hl468_0, hi468_0⟩ := at_T85 HR0.out x5_1 p468 q468
        have hw468_1 := hx468_1
        have hw468_0 := hx468_0
        cases e468
        replace hx468_0 := hxb HB hx468_0
        replace hx468_1 := hxb HB hx468_1
        have HR468_0 := Aside0.mk hi468_0
        have HC468_0 := Aside0.mk hl468_0
        clear hi468_0 hl468_0
        replace p468 := eq_true p468
        replace q468 := eq_true q468
        have p469 : 0 ≤ (x5_1 : Int) := od
        have q469 : x5_1 < (l1.length : Int) := od
        obtain ⟨ad469, A469_0, c469_0, e469, hx469_0, hx469_1, hl469_0, hi469_0⟩ := at_T85 HR1.out x5_1 p469 q469
        have hw469_1 := hx469_1
        have hw469_0 := hx469_0
        cases e469
        replace hx469_0 := hxb HB hx469_0
        replace hx469_1 := hxb HB hx469_1
        have HR469_0 := Aside0.mk hi469_0
        have HC469_0 := Aside0.mk hl469_0
        clear hi469_0 hl469_0
        replace p469 := eq_true p469
        replace q469 := eq_true q469
        refine start_ (n := 10) (S := fun w' => w'.cell? (ad468.add ((x5_1).toNat * 2)) = some (.slice A468_0 ((rd_T85 l0 x5_1).f0).length c468_0) ∧ w'.cell? ⟨(ad468.add ((x5_1).toNat * 2)).block, (ad468.add ((x5_1).toNat * 2)).off + 1, none⟩ = some (.int .i64 ((rd_T85 l0 x5_1).f1)) ∧ w'.cell? (ad469.add ((x5_1).toNat * 2)) = some (.slice A469_0 ((rd_T85 l1 x5_1).f0).length c469_0) ∧ w'.cell? ⟨(ad469.add ((x5_1).toNat * 2)).block, (ad469.add ((x5_1).toNat * 2)).off + 1, none⟩ = some (.int .i64 ((rd_T85 l1 x5_1).f1))) (ds := []) (tf 0 10) (by kernel_rfl) rfl rfl ⟨(hxb HB hw468_0 :), (hxb HB hw468_1 :), (hxb HB hw469_0 :), (hxb HB hw469_1 :)⟩ (fun hHeld => ?_); refine with_tabW laws_eqTombS.tab6 laws_eqTombS.bits6 (fun HT_ HW_ => ?_)
        generalize wr.drew = w9 at HB HR468_0 HR469_0 hx468_0 hx468_1 hx469_0 hx469_1 hHeld ⊢
        iterate 3 (refine pvn_ HT_ (h := ?_))
        refine pv_ HT_ 4 (some 21) (tb 10 23) (h := ?_)
        refine pv_ HT_ 5 (some 22) (tb 10 55) (h := ?_)
        refine pv_ HT_ 6 (some 23) (tb 10 119) (h := ?_)
        refine tv_ HT_ HW_ hHeld 3 (some 20) (tf 7 3) (h := ?_)
        refine tvn_ HT_ HW_ hHeld (h := ?_)
        refine one_ (i := 8) (N := some 25) (tf 9 1) rfl rfl (one_of HT_.out (by kernel_rfl)) (by decide) (fun K hK => ?_)
        refine gs_ Try.func72 #[.agg #[.slice A468_0 ((rd_T85 l0 x5_1).f0).length c468_0, .int .i64 ((rd_T85 l0 x5_1).f1)], .agg #[.slice A469_0 ((rd_T85 l1 x5_1).f0).length c469_0, .int .i64 ((rd_T85 l1 x5_1).f1)]] (h := ?_)
        with_reducible refine (laws_eqTomb.calls k1 _ _ ((rd_T85 l0 x5_1).f0) ((rd_T85 l0 x5_1).f1) _ _ ((rd_T85 l1 x5_1).f0) ((rd_T85 l1 x5_1).f1) true _ ?side1 ?side2 ?side3 ?side4 A7.out).mono ?_
        (case side1 => exact kcb)
        (case side2 => exact HC468_0.out)
        (case side3 => exact kcb)
        (case side4 => exact HC469_0.out)
        rintro e w10 ⟨rfl, hb⟩
        refine ⟨_, rfl, ?_⟩
        replace HB := bst hb
        (try clear hb)
        (try clear hb2)
        (try clear hk)
        (try clear hi)
        refine hK.out _ _ ⟨(hxb HB hw468_0 :), (hxb HB hw468_1 :), (hxb HB hw469_0 :), (hxb HB hw469_1 :)⟩ (fun hHeld => ?_)
        clear hK K
        refine nrm_ (some 25) (h := ?_)
        refine pvn_ HT_ (h := ?_)
        refine done_ (done_of HT_.out (by kernel_rfl)) ?_
        try go_wp2
        go_roundg k1
        case measure => have := HK1.out; omega
        case rel => exact ⟨(wrap64 (x5_1 + 1)), rs_, H', ⟨by have := HK1.out; omega⟩, ⟨bel⟩⟩
       replace c8 := Bool.eq_false_iff.mpr c8
       subst c8
       have H1 : (some false) = some r := by rw [if_neg (show ¬ (false = true) by decide)] at H; exact H
       clear H
       have H := H1
       clear H1
       obtain rfl := Option.some.inj H
       try go_wp2
       replace HB := Aside0.mk (below_drew1 HB.out)
       have p468 : 0 ≤ (x5_1 : Int) := od
       have q468 : x5_1 < (l0.length : Int) := od
       obtain ⟨ad468, A468_0, c468_0, e468, hx468_0, hx468_1, hl468_0, hi468_0⟩ := at_T85 HR0.out x5_1 p468 q468
       have hw468_1 := hx468_1
       have hw468_0 := hx468_0
       cases e468
       replace hx468_0 := hxb HB hx468_0
       replace hx468_1 := hxb HB hx468_1
       have HR468_0 := Aside0.mk hi468_0
       have HC468_0 := Aside0.mk hl468_0
       clear hi468_0 hl468_0
       replace p468 := eq_true p468
       replace q468 := eq_true q468
       have p469 : 0 ≤ (x5_1 : Int) := od
       have q469 : x5_1 < (l1.length : Int) := od
       obtain ⟨ad469, A469_0, c469_0, e469, hx469_0, hx469_1, hl469_0, hi469_0⟩ := at_T85 HR1.out x5_1 p469 q469
       have hw469_1 := hx469_1
       have hw469_0 := hx469_0
       cases e469
       replace hx469_0 := hxb HB hx469_0
       replace hx469_1 := hxb HB hx469_1
       have HR469_0 := Aside0.mk hi469_0
       have HC469_0 := Aside0.mk hl469_0
       clear hi469_0 hl469_0
       replace p469 := eq_true p469
       replace q469 := eq_true q469
       refine start_ (n := 10) (S := fun w' => w'.cell? (ad468.add ((x5_1).toNat * 2)) = some (.slice A468_0 ((rd_T85 l0 x5_1).f0).length c468_0) ∧ w'.cell? ⟨(ad468.add ((x5_1).toNat * 2)).block, (ad468.add ((x5_1).toNat * 2)).off + 1, none⟩ = some (.int .i64 ((rd_T85 l0 x5_1).f1)) ∧ w'.cell? (ad469.add ((x5_1).toNat * 2)) = some (.slice A469_0 ((rd_T85 l1 x5_1).f0).length c469_0) ∧ w'.cell? ⟨(ad469.add ((x5_1).toNat * 2)).block, (ad469.add ((x5_1).toNat * 2)).off + 1, none⟩ = some (.int .i64 ((rd_T85 l1 x5_1).f1))) (ds := []) (tf 0 10) (by kernel_rfl) rfl rfl ⟨(hxb HB hw468_0 :), (hxb HB hw468_1 :), (hxb HB hw469_0 :), (hxb HB hw469_1 :)⟩ (fun hHeld => ?_); refine with_tabW laws_eqTombS.tab6 laws_eqTombS.bits6 (fun HT_ HW_ => ?_)
       generalize wr.drew = w11 at HB HR468_0 HR469_0 hx468_0 hx468_1 hx469_0 hx469_1 hHeld ⊢
       iterate 3 (refine pvn_ HT_ (h := ?_))
       refine pv_ HT_ 4 (some 21) (tb 10 23) (h := ?_)
       refine pv_ HT_ 5 (some 22) (tb 10 55) (h := ?_)
       refine pv_ HT_ 6 (some 23) (tb 10 119) (h := ?_)
       refine tv_ HT_ HW_ hHeld 3 (some 20) (tf 7 3) (h := ?_)
       refine tvn_ HT_ HW_ hHeld (h := ?_)
       refine one_ (i := 8) (N := some 25) (tf 9 1) rfl rfl (one_of HT_.out (by kernel_rfl)) (by decide) (fun K hK => ?_)
       refine gs_ Try.func72 #[.agg #[.slice A468_0 ((rd_T85 l0 x5_1).f0).length c468_0, .int .i64 ((rd_T85 l0 x5_1).f1)], .agg #[.slice A469_0 ((rd_T85 l1 x5_1).f0).length c469_0, .int .i64 ((rd_T85 l1 x5_1).f1)]] (h := ?_)
       with_reducible refine (laws_eqTomb.calls k1 _ _ ((rd_T85 l0 x5_1).f0) ((rd_T85 l0 x5_1).f1) _ _ ((rd_T85 l1 x5_1).f0) ((rd_T85 l1 x5_1).f1) false _ ?side1 ?side2 ?side3 ?side4 A7.out).mono ?_
       (case side1 => exact kcb)
       (case side2 => exact HC468_0.out)
       (case side3 => exact kcb)
       (case side4 => exact HC469_0.out)
       rintro e w12 ⟨rfl, hb⟩
       refine ⟨_, rfl, ?_⟩
       replace HB := bst hb
       (try clear hb)
       (try clear hb2)
       (try clear hk)
       (try clear hi)
       refine hK.out _ _ ⟨(hxb HB hw468_0 :), (hxb HB hw468_1 :), (hxb HB hw469_0 :), (hxb HB hw469_1 :)⟩ (fun hHeld => ?_)
       clear hK K
       refine nrm_ (some 25) (h := ?_)
       refine pvn_ HT_ (h := ?_)
       refine done_ (done_of HT_.out (by kernel_rfl)) ?_
       try go_wp2
       go_ret
       exact ⟨rz_, bel⟩
      rw [if_neg c6] at H
      exact absurd H (by simp)
     rw [if_neg c5] at H
     exact absurd H (by simp)
    rw [if_neg c4] at H
    have c4b0 : decide (x5_1 < (l0.length : Int)) = false := decide_eq_false c4
    clear c4
    obtain rfl := Option.some.inj H
    go_wp2
    go_ret
    exact ⟨rz_, bel⟩
 rw [if_neg c3] at H
 have c3b0 : ((l0.length : Int) == (l1.length : Int)) = false := beq_eq_false_iff_ne.mpr c3
 have c3b1 : ((l0.length : Int) != (l1.length : Int)) = true := bne_iff_ne.mpr c3
 have c3b2 : (l0.length == l1.length) = false := by first | simpa using c3 | (simp at c3 ⊢; omega)
 obtain rfl := Option.some.inj H
 go_enter Try.func32, Try.ntmps32
 go_wp2
 go_ret
 exact ⟨rz_, bel⟩

end Go.Proofs.Ytmfedjoofnlncaa.PB
