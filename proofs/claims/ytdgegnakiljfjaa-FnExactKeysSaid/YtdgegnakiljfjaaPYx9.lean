-- Written for this claim by the session's program pp.py, out of the kit's print and the seat's translation.
import Derived.Test.YtdgegnakiljfjaaPYx0
namespace Go.Proofs.Ytdgegnakiljfjaa.PY
open Go.RowKit Go.Proofs.YtdgegnakiljfjaaW.PrintWords Go.Proofs.YtdgegnakiljfjaaW.PrintLast Go.Proofs.YtdgegnakiljfjaaW.PrintMore
attribute [local go_sem] max2_int min2_int max_two min_two max_three min_three max_four min_four   -- for this text's walks alone
set_option linter.unusedVariables false
set_option linter.unusedSimpArgs false

/-! ### spec_l2key: function 72 -/
mutual
def spec_l2key.j0 : Nat → List Int → Bool → Option (Bool)
 | 0, _, _ => none
 | k + 1, x0, x11 => if x11 = true then (some false) else (spec_l2key.l0 k x0 0)
def spec_l2key.l0 : Nat → List Int → Int → Option (Bool)
 | 0, _, _ => none
 | k + 1, x0, x3 => if x3 < (x0.length : Int) then (if 0 ≤ x3 then (if (rd x0 x3) < 97 then (if (rd x0 x3) = 47 then (spec_l2key.l0 k x0 (wrap64 (x3 + 1))) else (some false)) else (if (rd x0 x3) > 122 then (if (rd x0 x3) = 47 then (spec_l2key.l0 k x0 (wrap64 (x3 + 1))) else (some false)) else (spec_l2key.l0 k x0 (wrap64 (x3 + 1))))) else (none)) else (some true)
end
def spec_l2key.f (k : Nat) (l0 : List Int) : Option (Bool) := if (l0.length : Int) < 1 then (spec_l2key.j0 k l0 true) else (spec_l2key.j0 k l0 (decide ((l0.length : Int) > 20)))
set_option maxHeartbeats 8000000 in
set_option maxRecDepth 100000 in
theorem spec_l2key.calls (k : Nat) (A0 : Option Addr) (c0 : Nat) (l0 : List Int) (r : Bool) (w : World) (hr0 : Kd.C (Kd.int .u8) w A0 l0.length l0) (hc0 : l0.length ≤ c0) (h : spec_l2key.f k l0 = some r) :
  Calls Try.prog 72 #[.slice A0 l0.length c0] w fun e w' => e = .returned (.bool r) ∧ Drawn0 w w' := by
 have HR0 := Aside0.mk hr0
 have HC0 := Aside0.mk hc0
 clear hr0 hc0
 have H : (if (l0.length : Int) < 1 then (spec_l2key.j0 k l0 true) else (spec_l2key.j0 k l0 (decide ((l0.length : Int) > 20)))) = some r := h
 clear h
 have HC2 := Aside0.mk H
 clear H
 go_enter Try.func72, Try.ntmps72
 go_upto_region 1 with (fail)
 go_cut [11] (fun v11 wc => ∃ (kq : Nat) (x11_1 : Bool), v11 = .bool x11_1 ∧ Aside0 (spec_l2key.j0 kq l0 x11_1 = some r) ∧ Aside0 (kq ≤ k) ∧ Drawn0 w wc)
 case first =>
  have H := HC2.out
  clear HC2
  by_cases c3 : (l0.length : Int) < 1
  ·rw [if_pos c3] at H
   have c3b0 : decide ((l0.length : Int) < 1) = true := decide_eq_true c3
   have c3b1 : decide (l0.length < 1) = true := decide_eq_true (by omega)
   clear c3
   (first | rw [c3b0] | (simp only [i64_w, i32_w]; rw [c3b0]) | skip)
   have H' := Aside0.mk H
   clear H
   go_wp2
   go_meet
   case rel => exact ⟨_, (true), rs_, H', ⟨by first | omega | exact Nat.le_refl _⟩, by repeat (first | exact Drawn0.refl _ | apply Drawn0.step)⟩
  rw [if_neg c3] at H
  have c3b0 : decide ((l0.length : Int) < 1) = false := decide_eq_false c3
  have c3b1 : decide (l0.length < 1) = false := decide_eq_false (by omega)
  clear c3
  (first | rw [c3b0] | (simp only [i64_w, i32_w]; rw [c3b0]) | skip)
  have H' := Aside0.mk H
  clear H
  go_wp2
  go_meet
  case rel => exact ⟨_, (decide ((l0.length : Int) > 20)), rs_, H', ⟨by first | omega | exact Nat.le_refl _⟩, by repeat (first | exact Drawn0.refl _ | apply Drawn0.step)⟩
 case rest =>
  clear HC2
  try clear p2; try clear c3; try clear c3b0; try clear c3b1
  obtain ⟨kq, x11_1, rfl, HA, HJ1, ⟨mc1, rfl⟩⟩ := hcut
  cases kq with
  | zero => exact absurd HA.out (by simp [spec_l2key.j0])
  | succ kj1 =>
   have H := HA.out
   clear HA
   simp only [spec_l2key.j0] at H
   by_cases c4 : x11_1 = true
   ·subst c4
    have H1 : (some false) = some r := by rw [if_pos rfl] at H; exact H
    clear H
    have H := H1
    clear H1
    obtain rfl := Option.some.inj H
    go_wp2
    go_ret
    exact ⟨by first | rfl | (simp; done) | (simp [*]; done), by repeat (first | exact Drawn0.refl _ | apply Drawn0.step)⟩
   replace c4 := Bool.eq_false_iff.mpr c4
   subst c4
   have H1 : (spec_l2key.l0 kj1 l0 0) = some r := by rw [if_neg (show ¬ (false = true) by decide)] at H; exact H
   clear H
   have H := H1
   clear H1
   have H' := Aside0.mk H
   clear H
   go_wp2
   go_loopg [3] kj1 (fun kq v3 w' => ∃ (x3_2 : Int), v3 = .int .i64 x3_2 ∧ Aside0 (spec_l2key.l0 kq l0 x3_2 = some r) ∧ Aside0 (kq ≤ kj1) ∧ Drawn0 w w')
   case atStart => exact ⟨(0), rs_, H', ⟨Nat.le_refl _⟩, by repeat (first | exact Drawn0.refl _ | apply Drawn0.step)⟩
   case round =>
    clear H'
    try clear c1; try clear p2; try clear c3; try clear c3b0; try clear c3b1; try clear c4; try clear p2
    obtain ⟨x3_2, rfl, HA, HK2, ⟨m2, rfl⟩⟩ := hrel
    cases gk with
    | zero => exact absurd HA.out (by simp [spec_l2key.l0])
    | succ k2 =>
     have H := HA.out
     clear HA
     simp only [spec_l2key.l0] at H
     by_cases c5 : x3_2 < (l0.length : Int)
     ·rw [if_pos c5] at H
      have c5b0 : decide (x3_2 < (l0.length : Int)) = true := decide_eq_true c5
      clear c5
      by_cases c6 : 0 ≤ x3_2
      ·rw [if_pos c6] at H
       have c6b0 : decide (0 ≤ x3_2) = true := decide_eq_true c6
       clear c6
       by_cases c7 : (rd l0 x3_2) < 97
       ·rw [if_pos c7] at H
        have c7b0 : decide ((rd l0 x3_2) < 97) = true := decide_eq_true c7
        clear c7
        by_cases c8 : (rd l0 x3_2) = 47
        ·rw [if_pos c8] at H
         have c8b0 : ((rd l0 x3_2) == 47) = true := beq_iff_eq.mpr c8
         have c8b1 : ((rd l0 x3_2) != 47) = false := bne_eq_false_iff_eq.mpr c8
         clear c8
         have H' := Aside0.mk H
         clear H
         have p301 : 0 ≤ (x3_2 : Int) := od
         have q301 : x3_2 < (l0.length : Int) := od
         obtain ⟨ad301, e301, hx301_0⟩ := Kd.at_int HR0.out x3_2 p301 q301
         cases e301
         replace p301 := eq_true p301
         replace q301 := eq_true q301
         have p302 : 0 ≤ (x3_2 : Int) := od
         have q302 : x3_2 < (l0.length : Int) := od
         obtain ⟨ad302, e302, hx302_0⟩ := Kd.at_int HR0.out x3_2 p302 q302
         obtain rfl : ad301 = ad302 := (by injection e302)
         replace p302 := eq_true p302
         replace q302 := eq_true q302
         go_wp2
         go_roundg k2
         case measure => have := HJ1.out; have := HK2.out; omega
         case rel => exact ⟨(wrap64 (x3_2 + 1)), rs_, H', ⟨by have := HJ1.out; have := HK2.out; omega⟩, by repeat (first | exact Drawn0.refl _ | apply Drawn0.step)⟩
        rw [if_neg c8] at H
        have c8b0 : ((rd l0 x3_2) == 47) = false := beq_eq_false_iff_ne.mpr c8
        have c8b1 : ((rd l0 x3_2) != 47) = true := bne_iff_ne.mpr c8
        obtain rfl := Option.some.inj H
        have p301 : 0 ≤ (x3_2 : Int) := od
        have q301 : x3_2 < (l0.length : Int) := od
        obtain ⟨ad301, e301, hx301_0⟩ := Kd.at_int HR0.out x3_2 p301 q301
        cases e301
        replace p301 := eq_true p301
        replace q301 := eq_true q301
        have p302 : 0 ≤ (x3_2 : Int) := od
        have q302 : x3_2 < (l0.length : Int) := od
        obtain ⟨ad302, e302, hx302_0⟩ := Kd.at_int HR0.out x3_2 p302 q302
        obtain rfl : ad301 = ad302 := (by injection e302)
        replace p302 := eq_true p302
        replace q302 := eq_true q302
        go_wp2
        go_ret
        exact ⟨by first | rfl | (simp; done) | (simp [*]; done), by repeat (first | exact Drawn0.refl _ | apply Drawn0.step)⟩
       rw [if_neg c7] at H
       have c7b0 : decide ((rd l0 x3_2) < 97) = false := decide_eq_false c7
       clear c7
       by_cases c9 : (rd l0 x3_2) > 122
       ·rw [if_pos c9] at H
        have c9b0 : decide (122 < (rd l0 x3_2)) = true := decide_eq_true c9
        clear c9
        by_cases c10 : (rd l0 x3_2) = 47
        ·rw [if_pos c10] at H
         have c10b0 : ((rd l0 x3_2) == 47) = true := beq_iff_eq.mpr c10
         have c10b1 : ((rd l0 x3_2) != 47) = false := bne_eq_false_iff_eq.mpr c10
         clear c10
         have H' := Aside0.mk H
         clear H
         have p301 : 0 ≤ (x3_2 : Int) := od
         have q301 : x3_2 < (l0.length : Int) := od
         obtain ⟨ad301, e301, hx301_0⟩ := Kd.at_int HR0.out x3_2 p301 q301
         cases e301
         replace p301 := eq_true p301
         replace q301 := eq_true q301
         have p303 : 0 ≤ (x3_2 : Int) := od
         have q303 : x3_2 < (l0.length : Int) := od
         obtain ⟨ad303, e303, hx303_0⟩ := Kd.at_int HR0.out x3_2 p303 q303
         obtain rfl : ad301 = ad303 := (by injection e303)
         replace p303 := eq_true p303
         replace q303 := eq_true q303
         have p304 : 0 ≤ (x3_2 : Int) := od
         have q304 : x3_2 < (l0.length : Int) := od
         obtain ⟨ad304, e304, hx304_0⟩ := Kd.at_int HR0.out x3_2 p304 q304
         obtain rfl : ad301 = ad304 := (by injection e304)
         replace p304 := eq_true p304
         replace q304 := eq_true q304
         go_wp2
         go_roundg k2
         case measure => have := HJ1.out; have := HK2.out; omega
         case rel => exact ⟨(wrap64 (x3_2 + 1)), rs_, H', ⟨by have := HJ1.out; have := HK2.out; omega⟩, by repeat (first | exact Drawn0.refl _ | apply Drawn0.step)⟩
        rw [if_neg c10] at H
        have c10b0 : ((rd l0 x3_2) == 47) = false := beq_eq_false_iff_ne.mpr c10
        have c10b1 : ((rd l0 x3_2) != 47) = true := bne_iff_ne.mpr c10
        obtain rfl := Option.some.inj H
        have p301 : 0 ≤ (x3_2 : Int) := od
        have q301 : x3_2 < (l0.length : Int) := od
        obtain ⟨ad301, e301, hx301_0⟩ := Kd.at_int HR0.out x3_2 p301 q301
        cases e301
        replace p301 := eq_true p301
        replace q301 := eq_true q301
        have p303 : 0 ≤ (x3_2 : Int) := od
        have q303 : x3_2 < (l0.length : Int) := od
        obtain ⟨ad303, e303, hx303_0⟩ := Kd.at_int HR0.out x3_2 p303 q303
        obtain rfl : ad301 = ad303 := (by injection e303)
        replace p303 := eq_true p303
        replace q303 := eq_true q303
        have p304 : 0 ≤ (x3_2 : Int) := od
        have q304 : x3_2 < (l0.length : Int) := od
        obtain ⟨ad304, e304, hx304_0⟩ := Kd.at_int HR0.out x3_2 p304 q304
        obtain rfl : ad301 = ad304 := (by injection e304)
        replace p304 := eq_true p304
        replace q304 := eq_true q304
        go_wp2
        go_ret
        exact ⟨by first | rfl | (simp; done) | (simp [*]; done), by repeat (first | exact Drawn0.refl _ | apply Drawn0.step)⟩
       rw [if_neg c9] at H
       have c9b0 : decide (122 < (rd l0 x3_2)) = false := decide_eq_false c9
       clear c9
       have H' := Aside0.mk H
       clear H
       have p301 : 0 ≤ (x3_2 : Int) := od
       have q301 : x3_2 < (l0.length : Int) := od
       obtain ⟨ad301, e301, hx301_0⟩ := Kd.at_int HR0.out x3_2 p301 q301
       cases e301
       replace p301 := eq_true p301
       replace q301 := eq_true q301
       have p303 : 0 ≤ (x3_2 : Int) := od
       have q303 : x3_2 < (l0.length : Int) := od
       obtain ⟨ad303, e303, hx303_0⟩ := Kd.at_int HR0.out x3_2 p303 q303
       obtain rfl : ad301 = ad303 := (by injection e303)
       replace p303 := eq_true p303
       replace q303 := eq_true q303
       go_wp2
       go_roundg k2
       case measure => have := HJ1.out; have := HK2.out; omega
       case rel => exact ⟨(wrap64 (x3_2 + 1)), rs_, H', ⟨by have := HJ1.out; have := HK2.out; omega⟩, by repeat (first | exact Drawn0.refl _ | apply Drawn0.step)⟩
      rw [if_neg c6] at H
      exact absurd H (by simp)
     rw [if_neg c5] at H
     have c5b0 : decide (x3_2 < (l0.length : Int)) = false := decide_eq_false c5
     clear c5
     obtain rfl := Option.some.inj H
     go_wp2
     go_ret
     exact ⟨by first | rfl | (simp; done) | (simp [*]; done), by repeat (first | exact Drawn0.refl _ | apply Drawn0.step)⟩

/-! ### spec_l2val: function 73 -/
def spec_l2val.f (l0 : List Int) : Option (Bool) := some (decide ((l0.length : Int) ≤ 20))
set_option maxHeartbeats 8000000 in
set_option maxRecDepth 100000 in
theorem spec_l2val.calls (A0 : Option Addr) (c0 : Nat) (l0 : List Int) (r : Bool) (w : World) (hr0 : Kd.C (Kd.int .u8) w A0 l0.length l0) (hc0 : l0.length ≤ c0) (h : spec_l2val.f l0 = some r) :
  Calls Try.prog 73 #[.slice A0 l0.length c0] w fun e w' => e = .returned (.bool r) ∧ Drawn0 w w' := by
 have HR0 := Aside0.mk hr0
 have HC0 := Aside0.mk hc0
 clear hr0 hc0
 have H : (some (decide ((l0.length : Int) ≤ 20))) = some r := h
 clear h
 obtain rfl := Option.some.inj H
 go_enter Try.func73, Try.ntmps73
 go_wp2
 go_ret
 exact ⟨by first | rfl | (simp; done) | (simp [*]; done), by repeat (first | exact Drawn0.refl _ | apply Drawn0.step)⟩

/-! ### spec_l2sess: function 74 -/
def spec_l2sess.l0 : Nat → Int → Int → Int → List (S92) → List (S94) → Int → List (S109) → List (S75) → Option (Int)
 | 0, _, _, _, _, _, _, _, _ => none
 | k + 1, x1, x5, x306000, x306001, x306002, x306003, x306004, x306005 => if x5 < (x306004.length : Int) then (if 0 ≤ x5 then (if ((rd_T109 x306004 x5).f0) = x1 then (some x5) else (spec_l2sess.l0 k x1 (wrap64 (x5 + 1)) x306000 x306001 x306002 x306003 x306004 x306005)) else (none)) else (some (-1))
def spec_l2sess.f (k : Nat) (a0_0 : Int) (l0_1 : List (S92)) (l0_2 : List (S94)) (a0_3 : Int) (l0_4 : List (S109)) (l0_5 : List (S75)) (a1 : Int) : Option (Int) := spec_l2sess.l0 k a1 0 a0_0 l0_1 l0_2 a0_3 l0_4 l0_5
set_option maxHeartbeats 8000000 in
set_option maxRecDepth 100000 in
theorem spec_l2sess.calls (k : Nat) (a0_0 : Int) (A0_1 : Option Addr) (c0_1 : Nat) (l0_1 : List (S92)) (A0_2 : Option Addr) (c0_2 : Nat) (l0_2 : List (S94)) (a0_3 : Int) (A0_4 : Option Addr) (c0_4 : Nat) (l0_4 : List (S109)) (A0_5 : Option Addr) (c0_5 : Nat) (l0_5 : List (S75)) (a1 : Int) (r : Int) (w : World) (hr0_1 : Kd.C k92 w A0_1 l0_1.length l0_1) (hc0_1 : l0_1.length ≤ c0_1) (hr0_2 : Kd.C k94 w A0_2 l0_2.length l0_2) (hc0_2 : l0_2.length ≤ c0_2) (hr0_4 : Kd.C k109 w A0_4 l0_4.length l0_4) (hc0_4 : l0_4.length ≤ c0_4) (hr0_5 : Kd.C k75 w A0_5 l0_5.length l0_5) (hc0_5 : l0_5.length ≤ c0_5) (h : spec_l2sess.f k a0_0 l0_1 l0_2 a0_3 l0_4 l0_5 a1 = some r) :
  Calls Try.prog 74 #[.agg #[.int .i64 a0_0, .slice A0_1 l0_1.length c0_1, .slice A0_2 l0_2.length c0_2, .int .i64 a0_3, .slice A0_4 l0_4.length c0_4, .slice A0_5 l0_5.length c0_5], .int .i64 a1] w fun e w' => e = .returned (.int .i64 r) ∧ Below w.heap.size w w' := by
 have hu35 := Try.underlying35
 have HR0_1 := Aside0.mk hr0_1
 have HC0_1 := Aside0.mk hc0_1
 clear hr0_1 hc0_1
 have HR0_2 := Aside0.mk hr0_2
 have HC0_2 := Aside0.mk hc0_2
 clear hr0_2 hc0_2
 have HR0_4 := Aside0.mk hr0_4
 have HC0_4 := Aside0.mk hc0_4
 clear hr0_4 hc0_4
 have HR0_5 := Aside0.mk hr0_5
 have HC0_5 := Aside0.mk hc0_5
 clear hr0_5 hc0_5
 have HB := Aside0.mk (Below.refl w.heap.size w)
 have H : (spec_l2sess.l0 k a1 0 a0_0 l0_1 l0_2 a0_3 l0_4 l0_5) = some r := h
 clear h
 have H' := Aside0.mk H
 clear H
 go_enter Try.func74, Try.ntmps74
 go_wp2_with (first | ((with_reducible refine gate_dst (N := 2) rfl ?_); refine bx_ 2 #[.int .i64 a0_0, .slice A0_1 l0_1.length c0_1, .slice A0_2 l0_2.length c0_2, .int .i64 a0_3, .slice A0_4 l0_4.length c0_4, .slice A0_5 l0_5.length c0_5] 35 (h := ?_); intro gb305 hg w3 hbox hb; have BK305 := Aside0.mk (hbox); have GW305 := Aside0.mk ((by rw [hg]; exact (below_size bel) : w.heap.size ≤ gb305)); have GE305 := GW305; replace HB := bst hb; clear hb hbox hg))
 go_loopg [5] k (fun kq v5 w' => ∃ (x5_1 : Int), v5 = .int .i64 x5_1 ∧ Aside0 (spec_l2sess.l0 kq a1 x5_1 a0_0 l0_1 l0_2 a0_3 l0_4 l0_5 = some r) ∧ Aside0 (kq ≤ k) ∧ Aside0 (w'.heap[gb305]? = some (.cells #[.int .i64 a0_0, (.slice A0_1 l0_1.length c0_1), (.slice A0_2 l0_2.length c0_2), .int .i64 a0_3, (.slice A0_4 l0_4.length c0_4), (.slice A0_5 l0_5.length c0_5)] 35 (0, 0))) ∧ Aside0 (Below w.heap.size w w'))
 case atStart => exact ⟨(0), rs_, H', ⟨Nat.le_refl _⟩, ⟨bkp BK305⟩, ⟨bel⟩⟩
 case round =>
  clear H'
  try clear p2
  obtain ⟨x5_1, rfl, HA, HK1, BK305, HB⟩ := hrel
  cases gk with
  | zero => exact absurd HA.out (by simp [spec_l2sess.l0])
  | succ k1 =>
   have H := HA.out
   clear HA
   simp only [spec_l2sess.l0] at H
   by_cases c4 : x5_1 < (l0_4.length : Int)
   ·rw [if_pos c4] at H
    have c4b0 : decide (x5_1 < (l0_4.length : Int)) = true := decide_eq_true c4
    clear c4
    by_cases c5 : 0 ≤ x5_1
    ·rw [if_pos c5] at H
     have c5b0 : decide (0 ≤ x5_1) = true := decide_eq_true c5
     clear c5
     by_cases c6 : ((rd_T109 l0_4 x5_1).f0) = a1
     ·rw [if_pos c6] at H
      have c6b0 : (((rd_T109 l0_4 x5_1).f0) == a1) = true := beq_iff_eq.mpr c6
      have c6b1 : (((rd_T109 l0_4 x5_1).f0) != a1) = false := bne_eq_false_iff_eq.mpr c6
      clear c6
      obtain rfl := Option.some.inj H
      obtain ⟨C7_0, C7_1, C7_2, C7_3, C7_4, C7_5, -⟩ := cells_6 BK305.out trivial
      obtain ⟨F7_0, F7_1, F7_2, F7_3, F7_4, F7_5, -⟩ := frz_6 BK305.out
      have p306 : 0 ≤ (x5_1 : Int) := od
      have q306 : x5_1 < (l0_4.length : Int) := od
      obtain ⟨ad306, e306, hx306_0, hx306_1⟩ := at_T109 HR0_4.out x5_1 p306 q306
      cases e306
      replace hx306_0 := hxb HB hx306_0
      replace hx306_1 := hxb HB hx306_1
      replace p306 := eq_true p306
      replace q306 := eq_true q306
      go_wp2
      go_ret
      exact ⟨rz_, bel⟩
     rw [if_neg c6] at H
     have c6b0 : (((rd_T109 l0_4 x5_1).f0) == a1) = false := beq_eq_false_iff_ne.mpr c6
     have c6b1 : (((rd_T109 l0_4 x5_1).f0) != a1) = true := bne_iff_ne.mpr c6
     have H' := Aside0.mk H
     clear H
     obtain ⟨C8_0, C8_1, C8_2, C8_3, C8_4, C8_5, -⟩ := cells_6 BK305.out trivial
     obtain ⟨F8_0, F8_1, F8_2, F8_3, F8_4, F8_5, -⟩ := frz_6 BK305.out
     have p306 : 0 ≤ (x5_1 : Int) := od
     have q306 : x5_1 < (l0_4.length : Int) := od
     obtain ⟨ad306, e306, hx306_0, hx306_1⟩ := at_T109 HR0_4.out x5_1 p306 q306
     cases e306
     replace hx306_0 := hxb HB hx306_0
     replace hx306_1 := hxb HB hx306_1
     replace p306 := eq_true p306
     replace q306 := eq_true q306
     go_wp2
     go_roundg k1
     case measure => have := HK1.out; omega
     case rel => exact ⟨(wrap64 (x5_1 + 1)), rs_, H', ⟨by have := HK1.out; omega⟩, ⟨bkp BK305⟩, ⟨bel⟩⟩
    rw [if_neg c5] at H
    exact absurd H (by simp)
   rw [if_neg c4] at H
   have c4b0 : decide (x5_1 < (l0_4.length : Int)) = false := decide_eq_false c4
   clear c4
   obtain rfl := Option.some.inj H
   obtain ⟨C9_0, C9_1, C9_2, C9_3, C9_4, C9_5, -⟩ := cells_6 BK305.out trivial
   obtain ⟨F9_0, F9_1, F9_2, F9_3, F9_4, F9_5, -⟩ := frz_6 BK305.out
   go_wp2
   go_ret
   exact ⟨rz_, bel⟩

/-! ### spec_l2row: function 75 -/
def spec_l2row.l0 : Nat → List Int → Int → Int → List (S92) → List (S94) → Int → List (S109) → List (S75) → Option (Int)
 | 0, _, _, _, _, _, _, _, _ => none
 | k + 1, x1, x5, x308000, x308001, x308002, x308003, x308004, x308005 => if x5 < (x308001.length : Int) then (if 0 ≤ x5 then (if (strOfNums ((rd_T92 x308001 x5).f0)).toList = (strOfNums x1).toList then (some x5) else (spec_l2row.l0 k x1 (wrap64 (x5 + 1)) x308000 x308001 x308002 x308003 x308004 x308005)) else (none)) else (some (-1))
def spec_l2row.f (k : Nat) (a0_0 : Int) (l0_1 : List (S92)) (l0_2 : List (S94)) (a0_3 : Int) (l0_4 : List (S109)) (l0_5 : List (S75)) (l1 : List Int) : Option (Int) := spec_l2row.l0 k l1 0 a0_0 l0_1 l0_2 a0_3 l0_4 l0_5
set_option maxHeartbeats 8000000 in
set_option maxRecDepth 100000 in
theorem spec_l2row.calls (k : Nat) (a0_0 : Int) (A0_1 : Option Addr) (c0_1 : Nat) (l0_1 : List (S92)) (A0_2 : Option Addr) (c0_2 : Nat) (l0_2 : List (S94)) (a0_3 : Int) (A0_4 : Option Addr) (c0_4 : Nat) (l0_4 : List (S109)) (A0_5 : Option Addr) (c0_5 : Nat) (l0_5 : List (S75)) (A1 : Option Addr) (c1 : Nat) (l1 : List Int) (r : Int) (w : World) (hr0_1 : Kd.C k92 w A0_1 l0_1.length l0_1) (hc0_1 : l0_1.length ≤ c0_1) (hr0_2 : Kd.C k94 w A0_2 l0_2.length l0_2) (hc0_2 : l0_2.length ≤ c0_2) (hr0_4 : Kd.C k109 w A0_4 l0_4.length l0_4) (hc0_4 : l0_4.length ≤ c0_4) (hr0_5 : Kd.C k75 w A0_5 l0_5.length l0_5) (hc0_5 : l0_5.length ≤ c0_5) (hr1 : Kd.C (Kd.int .u8) w A1 l1.length l1) (hc1 : l1.length ≤ c1) (h : spec_l2row.f k a0_0 l0_1 l0_2 a0_3 l0_4 l0_5 l1 = some r) :
  Calls Try.prog 75 #[.agg #[.int .i64 a0_0, .slice A0_1 l0_1.length c0_1, .slice A0_2 l0_2.length c0_2, .int .i64 a0_3, .slice A0_4 l0_4.length c0_4, .slice A0_5 l0_5.length c0_5], .slice A1 l1.length c1] w fun e w' => e = .returned (.int .i64 r) ∧ Below w.heap.size w w' := by
 have hu35 := Try.underlying35
 have HR0_1 := Aside0.mk hr0_1
 have HC0_1 := Aside0.mk hc0_1
 clear hr0_1 hc0_1
 have HR0_2 := Aside0.mk hr0_2
 have HC0_2 := Aside0.mk hc0_2
 clear hr0_2 hc0_2
 have HR0_4 := Aside0.mk hr0_4
 have HC0_4 := Aside0.mk hc0_4
 clear hr0_4 hc0_4
 have HR0_5 := Aside0.mk hr0_5
 have HC0_5 := Aside0.mk hc0_5
 clear hr0_5 hc0_5
 have HR1 := Aside0.mk hr1
 have HC1 := Aside0.mk hc1
 clear hr1 hc1
 have HB := Aside0.mk (Below.refl w.heap.size w)
 have H : (spec_l2row.l0 k l1 0 a0_0 l0_1 l0_2 a0_3 l0_4 l0_5) = some r := h
 clear h
 have H' := Aside0.mk H
 clear H
 go_enter Try.func75, Try.ntmps75
 go_wp2_with (first | ((with_reducible refine gate_dst (N := 2) rfl ?_); refine bx_ 2 #[.int .i64 a0_0, .slice A0_1 l0_1.length c0_1, .slice A0_2 l0_2.length c0_2, .int .i64 a0_3, .slice A0_4 l0_4.length c0_4, .slice A0_5 l0_5.length c0_5] 35 (h := ?_); intro gb307 hg w3 hbox hb; have BK307 := Aside0.mk (hbox); have GW307 := Aside0.mk ((by rw [hg]; exact (below_size bel) : w.heap.size ≤ gb307)); have GE307 := GW307; replace HB := bst hb; clear hb hbox hg))
 repeat (go_quiet (first | ((with_reducible refine gate_dst (N := 2) rfl ?_); refine bx_ 2 #[.int .i64 a0_0, .slice A0_1 l0_1.length c0_1, .slice A0_2 l0_2.length c0_2, .int .i64 a0_3, .slice A0_4 l0_4.length c0_4, .slice A0_5 l0_5.length c0_5] 35 (h := ?_); intro gb307 hg w3 hbox hb; have BK307 := Aside0.mk (hbox); have GW307 := Aside0.mk ((by rw [hg]; exact (below_size bel) : w.heap.size ≤ gb307)); have GE307 := GW307; replace HB := bst hb; clear hb hbox hg)); try go_wp2_with (first | ((with_reducible refine gate_dst (N := 2) rfl ?_); refine bx_ 2 #[.int .i64 a0_0, .slice A0_1 l0_1.length c0_1, .slice A0_2 l0_2.length c0_2, .int .i64 a0_3, .slice A0_4 l0_4.length c0_4, .slice A0_5 l0_5.length c0_5] 35 (h := ?_); intro gb307 hg w3 hbox hb; have BK307 := Aside0.mk (hbox); have GW307 := Aside0.mk ((by rw [hg]; exact (below_size bel) : w.heap.size ≤ gb307)); have GE307 := GW307; replace HB := bst hb; clear hb hbox hg)))
 go_loopg [5] k (fun kq v5 w' => ∃ (x5_1 : Int), v5 = .int .i64 x5_1 ∧ Aside0 (spec_l2row.l0 kq l1 x5_1 a0_0 l0_1 l0_2 a0_3 l0_4 l0_5 = some r) ∧ Aside0 (kq ≤ k) ∧ Aside0 (w'.heap[gb307]? = some (.cells #[.int .i64 a0_0, (.slice A0_1 l0_1.length c0_1), (.slice A0_2 l0_2.length c0_2), .int .i64 a0_3, (.slice A0_4 l0_4.length c0_4), (.slice A0_5 l0_5.length c0_5)] 35 (0, 0))) ∧ Aside0 (Below w.heap.size w w'))
 case atStart => exact ⟨(0), rs_, H', ⟨Nat.le_refl _⟩, ⟨bkp BK307⟩, ⟨bel⟩⟩
 case round =>
  clear H'
  try clear c1; try clear p2
  obtain ⟨x5_1, rfl, HA, HK1, BK307, HB⟩ := hrel
  cases gk with
  | zero => exact absurd HA.out (by simp [spec_l2row.l0])
  | succ k1 =>
   have H := HA.out
   clear HA
   simp only [spec_l2row.l0] at H
   by_cases c4 : x5_1 < (l0_1.length : Int)
   ·rw [if_pos c4] at H
    have c4b0 : decide (x5_1 < (l0_1.length : Int)) = true := decide_eq_true c4
    clear c4
    by_cases c5 : 0 ≤ x5_1
    ·rw [if_pos c5] at H
     have c5b0 : decide (0 ≤ x5_1) = true := decide_eq_true c5
     clear c5
     by_cases c6 : (strOfNums ((rd_T92 l0_1 x5_1).f0)).toList = (strOfNums l1).toList
     ·rw [if_pos c6] at H
      have c6b0 : ((strOfNums ((rd_T92 l0_1 x5_1).f0)).toList == (strOfNums l1).toList) = true := beq_iff_eq.mpr c6
      have c6b1 : ((strOfNums ((rd_T92 l0_1 x5_1).f0)).toList != (strOfNums l1).toList) = false := bne_eq_false_iff_eq.mpr c6
      clear c6
      obtain rfl := Option.some.inj H
      obtain ⟨C7_0, C7_1, C7_2, C7_3, C7_4, C7_5, -⟩ := cells_6 BK307.out trivial
      obtain ⟨F7_0, F7_1, F7_2, F7_3, F7_4, F7_5, -⟩ := frz_6 BK307.out
      have p308 : 0 ≤ (x5_1 : Int) := od
      have q308 : x5_1 < (l0_1.length : Int) := od
      obtain ⟨ad308, A308_0, c308_0, A308_1, c308_1, e308, hx308_0, hx308_1, hx308_2, hx308_3, hl308_0, hi308_0, hl308_1, hi308_1⟩ := at_T92 HR0_1.out x5_1 p308 q308
      cases e308
      replace hx308_0 := hxb HB hx308_0
      replace hx308_1 := hxb HB hx308_1
      replace hx308_2 := hxb HB hx308_2
      replace hx308_3 := hxb HB hx308_3
      have HR308_0 := Aside0.mk hi308_0
      have HC308_0 := Aside0.mk hl308_0
      clear hi308_0 hl308_0
      have HR308_1 := Aside0.mk hi308_1
      have HC308_1 := Aside0.mk hl308_1
      clear hi308_1 hl308_1
      replace p308 := eq_true p308
      replace q308 := eq_true q308
      have hcv8 := Kd.C_string (P := Try.prog) (A := A308_0) (c := c308_0) Try.underlying52 Try.underlying5 Try.underlying9 (Kd.C_below HR308_0.out HB.out)
      have hcw8 := fun nq_ : Nat => Kd.C_string (P := Try.prog) (A := A308_0) (c := c308_0) Try.underlying52 Try.underlying5 Try.underlying9 (Kd.C_drewN (Kd.C_below HR308_0.out HB.out) nq_)
      have hcv9 := Kd.C_string (P := Try.prog) (A := A1) (c := c1) Try.underlying52 Try.underlying5 Try.underlying9 (Kd.C_below HR1.out HB.out)
      have hcw9 := fun nq_ : Nat => Kd.C_string (P := Try.prog) (A := A1) (c := c1) Try.underlying52 Try.underlying5 Try.underlying9 (Kd.C_drewN (Kd.C_below HR1.out HB.out) nq_)
      go_wp2
      repeat (go_quiet (fail); try go_wp2)
      go_ret
      exact ⟨rz_, bel⟩
     rw [if_neg c6] at H
     have c6b0 : ((strOfNums ((rd_T92 l0_1 x5_1).f0)).toList == (strOfNums l1).toList) = false := beq_eq_false_iff_ne.mpr c6
     have c6b1 : ((strOfNums ((rd_T92 l0_1 x5_1).f0)).toList != (strOfNums l1).toList) = true := bne_iff_ne.mpr c6
     have H' := Aside0.mk H
     clear H
     obtain ⟨C10_0, C10_1, C10_2, C10_3, C10_4, C10_5, -⟩ := cells_6 BK307.out trivial
     obtain ⟨F10_0, F10_1, F10_2, F10_3, F10_4, F10_5, -⟩ := frz_6 BK307.out
     have p308 : 0 ≤ (x5_1 : Int) := od
     have q308 : x5_1 < (l0_1.length : Int) := od
     obtain ⟨ad308, A308_0, c308_0, A308_1, c308_1, e308, hx308_0, hx308_1, hx308_2, hx308_3, hl308_0, hi308_0, hl308_1, hi308_1⟩ := at_T92 HR0_1.out x5_1 p308 q308
     cases e308
     replace hx308_0 := hxb HB hx308_0
     replace hx308_1 := hxb HB hx308_1
     replace hx308_2 := hxb HB hx308_2
     replace hx308_3 := hxb HB hx308_3
     have HR308_0 := Aside0.mk hi308_0
     have HC308_0 := Aside0.mk hl308_0
     clear hi308_0 hl308_0
     have HR308_1 := Aside0.mk hi308_1
     have HC308_1 := Aside0.mk hl308_1
     clear hi308_1 hl308_1
     replace p308 := eq_true p308
     replace q308 := eq_true q308
     have hcv11 := Kd.C_string (P := Try.prog) (A := A308_0) (c := c308_0) Try.underlying52 Try.underlying5 Try.underlying9 (Kd.C_below HR308_0.out HB.out)
     have hcw11 := fun nq_ : Nat => Kd.C_string (P := Try.prog) (A := A308_0) (c := c308_0) Try.underlying52 Try.underlying5 Try.underlying9 (Kd.C_drewN (Kd.C_below HR308_0.out HB.out) nq_)
     have hcv12 := Kd.C_string (P := Try.prog) (A := A1) (c := c1) Try.underlying52 Try.underlying5 Try.underlying9 (Kd.C_below HR1.out HB.out)
     have hcw12 := fun nq_ : Nat => Kd.C_string (P := Try.prog) (A := A1) (c := c1) Try.underlying52 Try.underlying5 Try.underlying9 (Kd.C_drewN (Kd.C_below HR1.out HB.out) nq_)
     go_wp2
     repeat (go_quiet (fail); try go_wp2)
     go_roundg k1
     case measure => have := HK1.out; omega
     case rel => exact ⟨(wrap64 (x5_1 + 1)), rs_, H', ⟨by have := HK1.out; omega⟩, ⟨bkp BK307⟩, ⟨bel⟩⟩
    rw [if_neg c5] at H
    exact absurd H (by simp)
   rw [if_neg c4] at H
   have c4b0 : decide (x5_1 < (l0_1.length : Int)) = false := decide_eq_false c4
   clear c4
   obtain rfl := Option.some.inj H
   obtain ⟨C13_0, C13_1, C13_2, C13_3, C13_4, C13_5, -⟩ := cells_6 BK307.out trivial
   obtain ⟨F13_0, F13_1, F13_2, F13_3, F13_4, F13_5, -⟩ := frz_6 BK307.out
   go_wp2
   repeat (go_quiet (fail); try go_wp2)
   go_ret
   exact ⟨rz_, bel⟩

/-! ### spec_l2tomb: function 76 -/
def spec_l2tomb.l0 : Nat → List Int → Int → Int → List (S92) → List (S94) → Int → List (S109) → List (S75) → Option (Int)
 | 0, _, _, _, _, _, _, _, _ => none
 | k + 1, x1, x5, x310000, x310001, x310002, x310003, x310004, x310005 => if x5 < (x310002.length : Int) then (if 0 ≤ x5 then (if (strOfNums ((rd_T94 x310002 x5).f0)).toList = (strOfNums x1).toList then (some x5) else (spec_l2tomb.l0 k x1 (wrap64 (x5 + 1)) x310000 x310001 x310002 x310003 x310004 x310005)) else (none)) else (some (-1))
def spec_l2tomb.f (k : Nat) (a0_0 : Int) (l0_1 : List (S92)) (l0_2 : List (S94)) (a0_3 : Int) (l0_4 : List (S109)) (l0_5 : List (S75)) (l1 : List Int) : Option (Int) := spec_l2tomb.l0 k l1 0 a0_0 l0_1 l0_2 a0_3 l0_4 l0_5
set_option maxHeartbeats 8000000 in
set_option maxRecDepth 100000 in
theorem spec_l2tomb.calls (k : Nat) (a0_0 : Int) (A0_1 : Option Addr) (c0_1 : Nat) (l0_1 : List (S92)) (A0_2 : Option Addr) (c0_2 : Nat) (l0_2 : List (S94)) (a0_3 : Int) (A0_4 : Option Addr) (c0_4 : Nat) (l0_4 : List (S109)) (A0_5 : Option Addr) (c0_5 : Nat) (l0_5 : List (S75)) (A1 : Option Addr) (c1 : Nat) (l1 : List Int) (r : Int) (w : World) (hr0_1 : Kd.C k92 w A0_1 l0_1.length l0_1) (hc0_1 : l0_1.length ≤ c0_1) (hr0_2 : Kd.C k94 w A0_2 l0_2.length l0_2) (hc0_2 : l0_2.length ≤ c0_2) (hr0_4 : Kd.C k109 w A0_4 l0_4.length l0_4) (hc0_4 : l0_4.length ≤ c0_4) (hr0_5 : Kd.C k75 w A0_5 l0_5.length l0_5) (hc0_5 : l0_5.length ≤ c0_5) (hr1 : Kd.C (Kd.int .u8) w A1 l1.length l1) (hc1 : l1.length ≤ c1) (h : spec_l2tomb.f k a0_0 l0_1 l0_2 a0_3 l0_4 l0_5 l1 = some r) :
  Calls Try.prog 76 #[.agg #[.int .i64 a0_0, .slice A0_1 l0_1.length c0_1, .slice A0_2 l0_2.length c0_2, .int .i64 a0_3, .slice A0_4 l0_4.length c0_4, .slice A0_5 l0_5.length c0_5], .slice A1 l1.length c1] w fun e w' => e = .returned (.int .i64 r) ∧ Below w.heap.size w w' := by
 have hu35 := Try.underlying35
 have HR0_1 := Aside0.mk hr0_1
 have HC0_1 := Aside0.mk hc0_1
 clear hr0_1 hc0_1
 have HR0_2 := Aside0.mk hr0_2
 have HC0_2 := Aside0.mk hc0_2
 clear hr0_2 hc0_2
 have HR0_4 := Aside0.mk hr0_4
 have HC0_4 := Aside0.mk hc0_4
 clear hr0_4 hc0_4
 have HR0_5 := Aside0.mk hr0_5
 have HC0_5 := Aside0.mk hc0_5
 clear hr0_5 hc0_5
 have HR1 := Aside0.mk hr1
 have HC1 := Aside0.mk hc1
 clear hr1 hc1
 have HB := Aside0.mk (Below.refl w.heap.size w)
 have H : (spec_l2tomb.l0 k l1 0 a0_0 l0_1 l0_2 a0_3 l0_4 l0_5) = some r := h
 clear h
 have H' := Aside0.mk H
 clear H
 go_enter Try.func76, Try.ntmps76
 go_wp2_with (first | ((with_reducible refine gate_dst (N := 2) rfl ?_); refine bx_ 2 #[.int .i64 a0_0, .slice A0_1 l0_1.length c0_1, .slice A0_2 l0_2.length c0_2, .int .i64 a0_3, .slice A0_4 l0_4.length c0_4, .slice A0_5 l0_5.length c0_5] 35 (h := ?_); intro gb309 hg w3 hbox hb; have BK309 := Aside0.mk (hbox); have GW309 := Aside0.mk ((by rw [hg]; exact (below_size bel) : w.heap.size ≤ gb309)); have GE309 := GW309; replace HB := bst hb; clear hb hbox hg))
 repeat (go_quiet (first | ((with_reducible refine gate_dst (N := 2) rfl ?_); refine bx_ 2 #[.int .i64 a0_0, .slice A0_1 l0_1.length c0_1, .slice A0_2 l0_2.length c0_2, .int .i64 a0_3, .slice A0_4 l0_4.length c0_4, .slice A0_5 l0_5.length c0_5] 35 (h := ?_); intro gb309 hg w3 hbox hb; have BK309 := Aside0.mk (hbox); have GW309 := Aside0.mk ((by rw [hg]; exact (below_size bel) : w.heap.size ≤ gb309)); have GE309 := GW309; replace HB := bst hb; clear hb hbox hg)); try go_wp2_with (first | ((with_reducible refine gate_dst (N := 2) rfl ?_); refine bx_ 2 #[.int .i64 a0_0, .slice A0_1 l0_1.length c0_1, .slice A0_2 l0_2.length c0_2, .int .i64 a0_3, .slice A0_4 l0_4.length c0_4, .slice A0_5 l0_5.length c0_5] 35 (h := ?_); intro gb309 hg w3 hbox hb; have BK309 := Aside0.mk (hbox); have GW309 := Aside0.mk ((by rw [hg]; exact (below_size bel) : w.heap.size ≤ gb309)); have GE309 := GW309; replace HB := bst hb; clear hb hbox hg)))
 go_loopg [5] k (fun kq v5 w' => ∃ (x5_1 : Int), v5 = .int .i64 x5_1 ∧ Aside0 (spec_l2tomb.l0 kq l1 x5_1 a0_0 l0_1 l0_2 a0_3 l0_4 l0_5 = some r) ∧ Aside0 (kq ≤ k) ∧ Aside0 (w'.heap[gb309]? = some (.cells #[.int .i64 a0_0, (.slice A0_1 l0_1.length c0_1), (.slice A0_2 l0_2.length c0_2), .int .i64 a0_3, (.slice A0_4 l0_4.length c0_4), (.slice A0_5 l0_5.length c0_5)] 35 (0, 0))) ∧ Aside0 (Below w.heap.size w w'))
 case atStart => exact ⟨(0), rs_, H', ⟨Nat.le_refl _⟩, ⟨bkp BK309⟩, ⟨bel⟩⟩
 case round =>
  clear H'
  try clear c1; try clear p2
  obtain ⟨x5_1, rfl, HA, HK1, BK309, HB⟩ := hrel
  cases gk with
  | zero => exact absurd HA.out (by simp [spec_l2tomb.l0])
  | succ k1 =>
   have H := HA.out
   clear HA
   simp only [spec_l2tomb.l0] at H
   by_cases c4 : x5_1 < (l0_2.length : Int)
   ·rw [if_pos c4] at H
    have c4b0 : decide (x5_1 < (l0_2.length : Int)) = true := decide_eq_true c4
    clear c4
    by_cases c5 : 0 ≤ x5_1
    ·rw [if_pos c5] at H
     have c5b0 : decide (0 ≤ x5_1) = true := decide_eq_true c5
     clear c5
     by_cases c6 : (strOfNums ((rd_T94 l0_2 x5_1).f0)).toList = (strOfNums l1).toList
     ·rw [if_pos c6] at H
      have c6b0 : ((strOfNums ((rd_T94 l0_2 x5_1).f0)).toList == (strOfNums l1).toList) = true := beq_iff_eq.mpr c6
      have c6b1 : ((strOfNums ((rd_T94 l0_2 x5_1).f0)).toList != (strOfNums l1).toList) = false := bne_eq_false_iff_eq.mpr c6
      clear c6
      obtain rfl := Option.some.inj H
      obtain ⟨C7_0, C7_1, C7_2, C7_3, C7_4, C7_5, -⟩ := cells_6 BK309.out trivial
      obtain ⟨F7_0, F7_1, F7_2, F7_3, F7_4, F7_5, -⟩ := frz_6 BK309.out
      have p310 : 0 ≤ (x5_1 : Int) := od
      have q310 : x5_1 < (l0_2.length : Int) := od
      obtain ⟨ad310, A310_0, c310_0, e310, hx310_0, hx310_1, hl310_0, hi310_0⟩ := at_T94 HR0_2.out x5_1 p310 q310
      cases e310
      replace hx310_0 := hxb HB hx310_0
      replace hx310_1 := hxb HB hx310_1
      have HR310_0 := Aside0.mk hi310_0
      have HC310_0 := Aside0.mk hl310_0
      clear hi310_0 hl310_0
      replace p310 := eq_true p310
      replace q310 := eq_true q310
      have hcv8 := Kd.C_string (P := Try.prog) (A := A310_0) (c := c310_0) Try.underlying52 Try.underlying5 Try.underlying9 (Kd.C_below HR310_0.out HB.out)
      have hcw8 := fun nq_ : Nat => Kd.C_string (P := Try.prog) (A := A310_0) (c := c310_0) Try.underlying52 Try.underlying5 Try.underlying9 (Kd.C_drewN (Kd.C_below HR310_0.out HB.out) nq_)
      have hcv9 := Kd.C_string (P := Try.prog) (A := A1) (c := c1) Try.underlying52 Try.underlying5 Try.underlying9 (Kd.C_below HR1.out HB.out)
      have hcw9 := fun nq_ : Nat => Kd.C_string (P := Try.prog) (A := A1) (c := c1) Try.underlying52 Try.underlying5 Try.underlying9 (Kd.C_drewN (Kd.C_below HR1.out HB.out) nq_)
      go_wp2
      repeat (go_quiet (fail); try go_wp2)
      go_ret
      exact ⟨rz_, bel⟩
     rw [if_neg c6] at H
     have c6b0 : ((strOfNums ((rd_T94 l0_2 x5_1).f0)).toList == (strOfNums l1).toList) = false := beq_eq_false_iff_ne.mpr c6
     have c6b1 : ((strOfNums ((rd_T94 l0_2 x5_1).f0)).toList != (strOfNums l1).toList) = true := bne_iff_ne.mpr c6
     have H' := Aside0.mk H
     clear H
     obtain ⟨C10_0, C10_1, C10_2, C10_3, C10_4, C10_5, -⟩ := cells_6 BK309.out trivial
     obtain ⟨F10_0, F10_1, F10_2, F10_3, F10_4, F10_5, -⟩ := frz_6 BK309.out
     have p310 : 0 ≤ (x5_1 : Int) := od
     have q310 : x5_1 < (l0_2.length : Int) := od
     obtain ⟨ad310, A310_0, c310_0, e310, hx310_0, hx310_1, hl310_0, hi310_0⟩ := at_T94 HR0_2.out x5_1 p310 q310
     cases e310
     replace hx310_0 := hxb HB hx310_0
     replace hx310_1 := hxb HB hx310_1
     have HR310_0 := Aside0.mk hi310_0
     have HC310_0 := Aside0.mk hl310_0
     clear hi310_0 hl310_0
     replace p310 := eq_true p310
     replace q310 := eq_true q310
     have hcv11 := Kd.C_string (P := Try.prog) (A := A310_0) (c := c310_0) Try.underlying52 Try.underlying5 Try.underlying9 (Kd.C_below HR310_0.out HB.out)
     have hcw11 := fun nq_ : Nat => Kd.C_string (P := Try.prog) (A := A310_0) (c := c310_0) Try.underlying52 Try.underlying5 Try.underlying9 (Kd.C_drewN (Kd.C_below HR310_0.out HB.out) nq_)
     have hcv12 := Kd.C_string (P := Try.prog) (A := A1) (c := c1) Try.underlying52 Try.underlying5 Try.underlying9 (Kd.C_below HR1.out HB.out)
     have hcw12 := fun nq_ : Nat => Kd.C_string (P := Try.prog) (A := A1) (c := c1) Try.underlying52 Try.underlying5 Try.underlying9 (Kd.C_drewN (Kd.C_below HR1.out HB.out) nq_)
     go_wp2
     repeat (go_quiet (fail); try go_wp2)
     go_roundg k1
     case measure => have := HK1.out; omega
     case rel => exact ⟨(wrap64 (x5_1 + 1)), rs_, H', ⟨by have := HK1.out; omega⟩, ⟨bkp BK309⟩, ⟨bel⟩⟩
    rw [if_neg c5] at H
    exact absurd H (by simp)
   rw [if_neg c4] at H
   have c4b0 : decide (x5_1 < (l0_2.length : Int)) = false := decide_eq_false c4
   clear c4
   obtain rfl := Option.some.inj H
   obtain ⟨C13_0, C13_1, C13_2, C13_3, C13_4, C13_5, -⟩ := cells_6 BK309.out trivial
   obtain ⟨F13_0, F13_1, F13_2, F13_3, F13_4, F13_5, -⟩ := frz_6 BK309.out
   go_wp2
   repeat (go_quiet (fail); try go_wp2)
   go_ret
   exact ⟨rz_, bel⟩

end Go.Proofs.Ytdgegnakiljfjaa.PY
