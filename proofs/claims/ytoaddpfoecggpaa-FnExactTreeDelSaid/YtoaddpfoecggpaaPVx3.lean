-- Written for this claim by the session's program pp.py, out of the kit's print and the seat's translation.
import Derived.Test.YtoaddpfoecggpaaPVx0
import Derived.Test.YtoaddpfoecggpaaPVx2
namespace Go.Proofs.Ytoaddpfoecggpaa.PV
open Go.RowKit Go.Proofs.YtoaddpfoecggpaaW.PrintWords Go.Proofs.YtoaddpfoecggpaaW.PrintLast Go.Proofs.YtoaddpfoecggpaaW.PrintMore
attribute [local go_sem] max2_int min2_int max_two min_two max_three min_three max_four min_four   -- for this text's walks alone
set_option linter.unusedVariables false
set_option linter.unusedSimpArgs false

/-! ### laws_heldByteS: function 35 -/
def laws_heldByteS.l0 : Nat → List Int → Int → Int → Option (Int)
 | 0, _, _, _ => none
 | k + 1, x0, x1, x5 => if x5 < (x0.length : Int) then (if 0 ≤ x5 then (if (rd x0 x5) = ((x1) % 256) then (laws_heldByteS.l0 k x0 (wrap64 (x1 + 1)) (wrap64 (x5 + 1))) else (some (-1))) else (none)) else (some x1)
def laws_heldByteS.f (k : Nat) (l0 : List Int) (a1 : Int) : Option (Int) := laws_heldByteS.l0 k l0 a1 0
set_option maxHeartbeats 8000000 in
set_option maxRecDepth 100000 in
theorem laws_heldByteS.calls (k : Nat) (A0 : Option Addr) (c0 : Nat) (l0 : List Int) (a1 : Int) (r : Int) (w : World) (hr0 : Kd.C (Kd.int .u8) w A0 l0.length l0) (hc0 : l0.length ≤ c0) (h : laws_heldByteS.f k l0 a1 = some r) :
  Calls Try.prog 35 #[.slice A0 l0.length c0, .int .i64 a1] w fun e w' => e = .returned (.int .i64 r) ∧ Drawn0 w w' := by
 have HR0 := Aside0.mk hr0; have HC0 := Aside0.mk hc0; clear hr0 hc0; have H : (laws_heldByteS.l0 k l0 a1 0) = some r := h; clear h; have H' := Aside0.mk H; clear H; go_enter Try.func35, Try.ntmps35; go_wp2; go_loopg [1, 5] k (fun kq v1 v5 w' => ∃ (x1_1 : Int) (x5_1 : Int), v1 = .int .i64 x1_1 ∧ v5 = .int .i64 x5_1 ∧ Aside0 (laws_heldByteS.l0 kq l0 x1_1 x5_1 = some r) ∧ Aside0 (kq ≤ k) ∧ Drawn0 w w')
 case atStart => exact ⟨(a1), (0), rs_, rs_, H', ⟨Nat.le_refl _⟩, by repeat (first | exact Drawn0.refl _ | apply Drawn0.step)⟩
 case round =>
  clear H'; try clear p2
  obtain ⟨x1_1, x5_1, rfl, rfl, HA, HK1, ⟨m1, rfl⟩⟩ := hrel; cases gk with
  | zero => exact absurd HA.out (by simp [laws_heldByteS.l0])
  | succ k1 =>
   have H := HA.out; clear HA; simp only [laws_heldByteS.l0] at H; by_cases c3 : x5_1 < (l0.length : Int)
   ·rw [if_pos c3] at H
    have c3b0 : decide (x5_1 < (l0.length : Int)) = true := decide_eq_true c3; clear c3; by_cases c4 : 0 ≤ x5_1
    ·rw [if_pos c4] at H
     have c4b0 : decide (0 ≤ x5_1) = true := decide_eq_true c4; clear c4; by_cases c5 : (rd l0 x5_1) = ((x1_1) % 256)
     ·rw [if_pos c5] at H
      have c5b0 : ((rd l0 x5_1) == ((x1_1) % 256)) = true := beq_iff_eq.mpr c5; have c5b1 : ((rd l0 x5_1) != ((x1_1) % 256)) = false := bne_eq_false_iff_eq.mpr c5; clear c5; have H' := Aside0.mk H; clear H; have p143 : 0 ≤ (x5_1 : Int) := od; have q143 : x5_1 < (l0.length : Int) := od; obtain ⟨ad143, e143, hx143_0⟩ := Kd.at_int HR0.out x5_1 p143 q143; cases e143; replace p143 := eq_true p143; replace q143 := eq_true q143; go_wp2; go_roundg k1
      case measure => have := HK1.out; omega
      case rel => exact ⟨(wrap64 (x1_1 + 1)), (wrap64 (x5_1 + 1)), rs_, rs_, H', ⟨by have := HK1.out; omega⟩, by repeat (first | exact Drawn0.refl _ | apply Drawn0.step)⟩
     rw [if_neg c5] at H; have c5b0 : ((rd l0 x5_1) == ((x1_1) % 256)) = false := beq_eq_false_iff_ne.mpr c5; have c5b1 : ((rd l0 x5_1) != ((x1_1) % 256)) = true := bne_iff_ne.mpr c5; obtain rfl := Option.some.inj H; have p143 : 0 ≤ (x5_1 : Int) := od; have q143 : x5_1 < (l0.length : Int) := od; obtain ⟨ad143, e143, hx143_0⟩ := Kd.at_int HR0.out x5_1 p143 q143; cases e143; replace p143 := eq_true p143; replace q143 := eq_true q143; go_wp2; go_ret; exact ⟨by first | rfl | (simp; done) | (simp [*]; done), by repeat (first | exact Drawn0.refl _ | apply Drawn0.step)⟩
    rw [if_neg c4] at H; exact absurd H (by simp)
   rw [if_neg c3] at H; have c3b0 : decide (x5_1 < (l0.length : Int)) = false := decide_eq_false c3; clear c3; obtain rfl := Option.some.inj H; go_wp2; go_ret; exact ⟨by first | rfl | (simp; done) | (simp [*]; done), by repeat (first | exact Drawn0.refl _ | apply Drawn0.step)⟩

/-! ### laws_heldTreeS: function 82 -/
mutual
def laws_heldTreeS.l0 : Nat → List (S30) → Int → Int → Option (Int)
 | 0, _, _, _ => none
 | k + 1, x0, x1, x5 => if x5 < (x0.length : Int) then (if 0 ≤ x5 then ((laws_heldByteS.f k ((rd_T30 x0 x5).f0) x1).bind fun t145 => (if t145 < 0 then (some (-1)) else (if (((rd_T30 x0 x5).f1) != ((Int.tmod t145 3) == 0)) = true then (some (-1)) else (if ((rd_T30 x0 x5).f2) = (wrap64 (t145 + 1)) then ((laws_heldTreeS.f k ((rd_T30 x0 x5).f3) (wrap64 ((wrap64 (t145 + 1)) + 1))).bind fun t149 => (if t149 < 0 then (some (-1)) else (laws_heldTreeS.l0 k x0 t149 (wrap64 (x5 + 1))))) else (some (-1)))))) else (none)) else (some x1)
def laws_heldTreeS.f : Nat → List (S30) → Int → Option (Int)
 | 0, _, _ => none
 | k + 1, l0, a1 => laws_heldTreeS.l0 k l0 a1 0
end
set_option maxHeartbeats 8000000 in
set_option maxRecDepth 100000 in
theorem laws_heldTreeS.calls (k : Nat) : ∀ (A0 : Option Addr) (c0 : Nat) (l0 : List (S30)) (a1 : Int) (r : Int) (w : World) (hr0 : Kd.C k30 w A0 l0.length l0) (hc0 : l0.length ≤ c0) (h : laws_heldTreeS.f k l0 a1 = some r),
  Calls Try.prog 82 #[.slice A0 l0.length c0, .int .i64 a1] w fun e w' => e = .returned (.int .i64 r) ∧ Drawn0 w w' := by
 induction k using Nat.strongRecOn with
 | _ k ih =>
 intro A0 c0 l0 a1 r w hr0 hc0 h; cases k with
 | zero => exact absurd h (by simp [laws_heldTreeS.f])
 | succ k =>
 simp only [laws_heldTreeS.f] at h; have HR0 := Aside0.mk hr0; have HC0 := Aside0.mk hc0; clear hr0 hc0; have H : (laws_heldTreeS.l0 k l0 a1 0) = some r := h; clear h; have H' := Aside0.mk H; clear H; go_enter Try.func82, Try.ntmps82; go_wp2; go_loopg [1, 5] k (fun kq v1 v5 w' => ∃ (x1_1 : Int) (x5_1 : Int), v1 = .int .i64 x1_1 ∧ v5 = .int .i64 x5_1 ∧ Aside0 (laws_heldTreeS.l0 kq l0 x1_1 x5_1 = some r) ∧ Aside0 (kq ≤ k) ∧ Drawn0 w w')
 case atStart => exact ⟨(a1), (0), rs_, rs_, H', ⟨Nat.le_refl _⟩, by repeat (first | exact Drawn0.refl _ | apply Drawn0.step)⟩
 case round =>
  clear H'; try clear p2
  obtain ⟨x1_1, x5_1, rfl, rfl, HA, HK1, ⟨m1, rfl⟩⟩ := hrel; cases gk with
  | zero => exact absurd HA.out (by simp [laws_heldTreeS.l0])
  | succ k1 =>
   have H := HA.out; clear HA; simp only [laws_heldTreeS.l0] at H; by_cases c3 : x5_1 < (l0.length : Int)
   ·rw [if_pos c3] at H
    have c3b0 : decide (x5_1 < (l0.length : Int)) = true := decide_eq_true c3; clear c3; by_cases c4 : 0 ≤ x5_1
    ·rw [if_pos c4] at H
     have c4b0 : decide (0 ≤ x5_1) = true := decide_eq_true c4; clear c4; replace H := Option.bind_eq_some_iff.mp H; obtain ⟨t145, A50, H⟩ := H; replace H : (if t145 < 0 then (some (-1)) else (if (((rd_T30 l0 x5_1).f1) != ((Int.tmod t145 3) == 0)) = true then (some (-1)) else (if ((rd_T30 l0 x5_1).f2) = (wrap64 (t145 + 1)) then ((laws_heldTreeS.f k1 ((rd_T30 l0 x5_1).f3) (wrap64 ((wrap64 (t145 + 1)) + 1))).bind fun t149 => (if t149 < 0 then (some (-1)) else (laws_heldTreeS.l0 k1 l0 t149 (wrap64 (x5_1 + 1))))) else (some (-1))))) = some r := H; have A5 := Aside0.mk A50; clear A50
     by_cases c6 : t145 < 0
     ·rw [if_pos c6] at H
      have c6b0 : decide (t145 < 0) = true := decide_eq_true c6; clear c6; obtain rfl := Option.some.inj H; have p144 : 0 ≤ (x5_1 : Int) := od; have q144 : x5_1 < (l0.length : Int) := od; obtain ⟨ad144, A144_0, c144_0, A144_3, c144_3, e144, hx144_0, hx144_1, hx144_2, hx144_3, hl144_0, hi144_0, hl144_3, hi144_3⟩ := at_T30 HR0.out x5_1 p144 q144; cases e144; have HR144_0 := Aside0.mk hi144_0; have HC144_0 := Aside0.mk hl144_0; clear hi144_0 hl144_0; have HR144_3 := Aside0.mk hi144_3; have HC144_3 := Aside0.mk hl144_3; clear hi144_3 hl144_3; replace p144 := eq_true p144
      replace q144 := eq_true q144
      go_wp2_with (first | ((with_reducible refine gate_callee (f := 35) rfl ?_); refine gl_ (some 18) Try.func35 #[.slice A144_0 ((rd_T30 l0 x5_1).f0).length c144_0, .int .i64 x1_1] (h := ?_); (with_reducible refine (laws_heldByteS.calls k1 _ _ ((rd_T30 l0 x5_1).f0) x1_1 t145 _ ?side1 ?side2 A5.out).mono ?_); (case side1 => repeat (first | exact HR144_0.out | (with_reducible refine Kd.C_alloc ?_ _) | (with_reducible refine Kd.C_drewN ?_ _) | (with_reducible refine Kd.C_drew ?_))); (case side2 => exact HC144_0.out); rintro e w' ⟨rfl, ⟨nd, rfl⟩⟩; refine ⟨_, rfl, ?_⟩))
      go_ret; exact ⟨by first | rfl | (simp; done) | (simp [*]; done), by repeat (first | exact Drawn0.refl _ | apply Drawn0.step)⟩
     rw [if_neg c6] at H; have c6b0 : decide (t145 < 0) = false := decide_eq_false c6; clear c6; by_cases c7 : (((rd_T30 l0 x5_1).f1) != ((Int.tmod t145 3) == 0)) = true
     ·rw [if_pos c7] at H
      have c7b0 : (((rd_T30 l0 x5_1).f1) != ((Int.tmod t145 3) == 0)) = true := c7; (try (have c7b1 : decide (((rd_T30 l0 x5_1).f1) = ((Int.tmod t145 3) == 0)) = false := by simpa using c7)); (try (have c7b2 : (((rd_T30 l0 x5_1).f1) == ((Int.tmod t145 3) == 0)) = false := by simpa using c7)); (try (have c7b3 : ¬ (((rd_T30 l0 x5_1).f1) = ((Int.tmod t145 3) == 0)) := by simpa using c7)); clear c7; obtain rfl := Option.some.inj H; have p144 : 0 ≤ (x5_1 : Int) := od; have q144 : x5_1 < (l0.length : Int) := od
      obtain ⟨ad144, A144_0, c144_0, A144_3, c144_3, e144, hx144_0, hx144_1, hx144_2, hx144_3, hl144_0, hi144_0, hl144_3, hi144_3⟩ := at_T30 HR0.out x5_1 p144 q144; cases e144; have HR144_0 := Aside0.mk hi144_0; have HC144_0 := Aside0.mk hl144_0; clear hi144_0 hl144_0; have HR144_3 := Aside0.mk hi144_3; have HC144_3 := Aside0.mk hl144_3; clear hi144_3 hl144_3; replace p144 := eq_true p144; replace q144 := eq_true q144
      go_wp2_with (first | ((with_reducible refine gate_callee (f := 35) rfl ?_); refine gl_ (some 18) Try.func35 #[.slice A144_0 ((rd_T30 l0 x5_1).f0).length c144_0, .int .i64 x1_1] (h := ?_); (with_reducible refine (laws_heldByteS.calls k1 _ _ ((rd_T30 l0 x5_1).f0) x1_1 t145 _ ?side1 ?side2 A5.out).mono ?_); (case side1 => repeat (first | exact HR144_0.out | (with_reducible refine Kd.C_alloc ?_ _) | (with_reducible refine Kd.C_drewN ?_ _) | (with_reducible refine Kd.C_drew ?_))); (case side2 => exact HC144_0.out); rintro e w' ⟨rfl, ⟨nd, rfl⟩⟩; refine ⟨_, rfl, ?_⟩; have p146 : 0 ≤ (x5_1 : Int) := od; have q146 : x5_1 < (l0.length : Int) := od; obtain ⟨ad146, A146_0, c146_0, A146_3, c146_3, e146, hx146_0, hx146_1, hx146_2, hx146_3, hl146_0, hi146_0, hl146_3, hi146_3⟩ := at_T30 HR0.out x5_1 p146 q146; obtain rfl : ad144 = ad146 := (by injection e146); have HR146_0 := Aside0.mk hi146_0; have HC146_0 := Aside0.mk hl146_0; clear hi146_0 hl146_0; have HR146_3 := Aside0.mk hi146_3; have HC146_3 := Aside0.mk hl146_3; clear hi146_3 hl146_3; replace p146 := eq_true p146; replace q146 := eq_true q146; have ea_ := Option.some.inj (hx144_0.symm.trans hx146_0); injection ea_ with ea_ en_ ec_; subst ea_; subst ec_; clear en_; have ea_ := Option.some.inj (hx144_3.symm.trans hx146_3); injection ea_ with ea_ en_ ec_; subst ea_; subst ec_; clear en_))
      go_ret; exact ⟨by first | rfl | (simp; done) | (simp [*]; done), by repeat (first | exact Drawn0.refl _ | apply Drawn0.step)⟩
     rw [if_neg c7] at H; have c7b0 : (((rd_T30 l0 x5_1).f1) != ((Int.tmod t145 3) == 0)) = false := by simpa using c7
     (try (have c7b1 : decide (((rd_T30 l0 x5_1).f1) = ((Int.tmod t145 3) == 0)) = true := by simpa using c7)); (try (have c7b2 : (((rd_T30 l0 x5_1).f1) == ((Int.tmod t145 3) == 0)) = true := by simpa using c7)); clear c7; by_cases c8 : ((rd_T30 l0 x5_1).f2) = (wrap64 (t145 + 1))
     ·rw [if_pos c8] at H
      have c8b0 : (((rd_T30 l0 x5_1).f2) == (wrap64 (t145 + 1))) = true := beq_iff_eq.mpr c8; have c8b1 : (((rd_T30 l0 x5_1).f2) != (wrap64 (t145 + 1))) = false := bne_eq_false_iff_eq.mpr c8; clear c8; replace H := Option.bind_eq_some_iff.mp H; obtain ⟨t149, A90, H⟩ := H; replace H : (if t149 < 0 then (some (-1)) else (laws_heldTreeS.l0 k1 l0 t149 (wrap64 (x5_1 + 1)))) = some r := H; have A9 := Aside0.mk A90; clear A90; by_cases c10 : t149 < 0
      ·rw [if_pos c10] at H
       have c10b0 : decide (t149 < 0) = true := decide_eq_true c10; clear c10; obtain rfl := Option.some.inj H; have p144 : 0 ≤ (x5_1 : Int) := od; have q144 : x5_1 < (l0.length : Int) := od; obtain ⟨ad144, A144_0, c144_0, A144_3, c144_3, e144, hx144_0, hx144_1, hx144_2, hx144_3, hl144_0, hi144_0, hl144_3, hi144_3⟩ := at_T30 HR0.out x5_1 p144 q144; cases e144; have HR144_0 := Aside0.mk hi144_0; have HC144_0 := Aside0.mk hl144_0; clear hi144_0 hl144_0; have HR144_3 := Aside0.mk hi144_3; have HC144_3 := Aside0.mk hl144_3; clear hi144_3 hl144_3; replace p144 := eq_true p144
       replace q144 := eq_true q144
       go_wp2_with (first | ((with_reducible refine gate_callee (f := 35) rfl ?_); refine gl_ (some 18) Try.func35 #[.slice A144_0 ((rd_T30 l0 x5_1).f0).length c144_0, .int .i64 x1_1] (h := ?_); (with_reducible refine (laws_heldByteS.calls k1 _ _ ((rd_T30 l0 x5_1).f0) x1_1 t145 _ ?side1 ?side2 A5.out).mono ?_); (case side1 => repeat (first | exact HR144_0.out | (with_reducible refine Kd.C_alloc ?_ _) | (with_reducible refine Kd.C_drewN ?_ _) | (with_reducible refine Kd.C_drew ?_))); (case side2 => exact HC144_0.out); rintro e w' ⟨rfl, ⟨nd, rfl⟩⟩; refine ⟨_, rfl, ?_⟩; have p146 : 0 ≤ (x5_1 : Int) := od; have q146 : x5_1 < (l0.length : Int) := od; obtain ⟨ad146, A146_0, c146_0, A146_3, c146_3, e146, hx146_0, hx146_1, hx146_2, hx146_3, hl146_0, hi146_0, hl146_3, hi146_3⟩ := at_T30 HR0.out x5_1 p146 q146; obtain rfl : ad144 = ad146 := (by injection e146); have HR146_0 := Aside0.mk hi146_0; have HC146_0 := Aside0.mk hl146_0; clear hi146_0 hl146_0; have HR146_3 := Aside0.mk hi146_3; have HC146_3 := Aside0.mk hl146_3; clear hi146_3 hl146_3; replace p146 := eq_true p146; replace q146 := eq_true q146; have ea_ := Option.some.inj (hx144_0.symm.trans hx146_0); injection ea_ with ea_ en_ ec_; subst ea_; subst ec_; clear en_; have ea_ := Option.some.inj (hx144_3.symm.trans hx146_3); injection ea_ with ea_ en_ ec_; subst ea_; subst ec_; clear en_; have p147 : 0 ≤ (x5_1 : Int) := od; have q147 : x5_1 < (l0.length : Int) := od; obtain ⟨ad147, A147_0, c147_0, A147_3, c147_3, e147, hx147_0, hx147_1, hx147_2, hx147_3, hl147_0, hi147_0, hl147_3, hi147_3⟩ := at_T30 HR0.out x5_1 p147 q147; obtain rfl : ad144 = ad147 := (by injection e147); have HR147_0 := Aside0.mk hi147_0; have HC147_0 := Aside0.mk hl147_0; clear hi147_0 hl147_0; have HR147_3 := Aside0.mk hi147_3; have HC147_3 := Aside0.mk hl147_3; clear hi147_3 hl147_3; replace p147 := eq_true p147; replace q147 := eq_true q147; have ea_ := Option.some.inj (hx144_0.symm.trans hx147_0); injection ea_ with ea_ en_ ec_; subst ea_; subst ec_; clear en_; have ea_ := Option.some.inj (hx144_3.symm.trans hx147_3); injection ea_ with ea_ en_ ec_; subst ea_; subst ec_; clear en_; have p148 : 0 ≤ (x5_1 : Int) := od; have q148 : x5_1 < (l0.length : Int) := od; obtain ⟨ad148, A148_0, c148_0, A148_3, c148_3, e148, hx148_0, hx148_1, hx148_2, hx148_3, hl148_0, hi148_0, hl148_3, hi148_3⟩ := at_T30 HR0.out x5_1 p148 q148; obtain rfl : ad144 = ad148 := (by injection e148); have HR148_0 := Aside0.mk hi148_0; have HC148_0 := Aside0.mk hl148_0; clear hi148_0 hl148_0; have HR148_3 := Aside0.mk hi148_3; have HC148_3 := Aside0.mk hl148_3; clear hi148_3 hl148_3; replace p148 := eq_true p148; replace q148 := eq_true q148; have ea_ := Option.some.inj (hx144_0.symm.trans hx148_0); injection ea_ with ea_ en_ ec_; subst ea_; subst ec_; clear en_; have ea_ := Option.some.inj (hx144_3.symm.trans hx148_3); injection ea_ with ea_ en_ ec_; subst ea_; subst ec_; clear en_) | ((with_reducible refine gate_callee (f := 82) rfl ?_); refine gl_ (some 47) Try.func82 #[.slice A144_3 ((rd_T30 l0 x5_1).f3).length c144_3, .int .i64 (wrap64 ((wrap64 (t145 + 1)) + 1))] (h := ?_); (with_reducible refine (ih k1 (by have := HK1.out; omega) _ _ ((rd_T30 l0 x5_1).f3) (wrap64 ((wrap64 (t145 + 1)) + 1)) t149 _ ?side1 ?side2 A9.out).mono ?_); (case side1 => repeat (first | exact HR148_3.out | (with_reducible refine Kd.C_alloc ?_ _) | (with_reducible refine Kd.C_drewN ?_ _) | (with_reducible refine Kd.C_drew ?_))); (case side2 => exact HC148_3.out); rintro e w' ⟨rfl, ⟨nd, rfl⟩⟩; refine ⟨_, rfl, ?_⟩))
       go_ret; exact ⟨by first | rfl | (simp; done) | (simp [*]; done), by repeat (first | exact Drawn0.refl _ | apply Drawn0.step)⟩
      rw [if_neg c10] at H; have c10b0 : decide (t149 < 0) = false := decide_eq_false c10; clear c10; have H' := Aside0.mk H; clear H; have p144 : 0 ≤ (x5_1 : Int) := od; have q144 : x5_1 < (l0.length : Int) := od; obtain ⟨ad144, A144_0, c144_0, A144_3, c144_3, e144, hx144_0, hx144_1, hx144_2, hx144_3, hl144_0, hi144_0, hl144_3, hi144_3⟩ := at_T30 HR0.out x5_1 p144 q144; cases e144; have HR144_0 := Aside0.mk hi144_0; have HC144_0 := Aside0.mk hl144_0; clear hi144_0 hl144_0; have HR144_3 := Aside0.mk hi144_3; have HC144_3 := Aside0.mk hl144_3; clear hi144_3 hl144_3; replace p144 := eq_true p144
      replace q144 := eq_true q144
      go_wp2_with (first | ((with_reducible refine gate_callee (f := 35) rfl ?_); refine gl_ (some 18) Try.func35 #[.slice A144_0 ((rd_T30 l0 x5_1).f0).length c144_0, .int .i64 x1_1] (h := ?_); (with_reducible refine (laws_heldByteS.calls k1 _ _ ((rd_T30 l0 x5_1).f0) x1_1 t145 _ ?side1 ?side2 A5.out).mono ?_); (case side1 => repeat (first | exact HR144_0.out | (with_reducible refine Kd.C_alloc ?_ _) | (with_reducible refine Kd.C_drewN ?_ _) | (with_reducible refine Kd.C_drew ?_))); (case side2 => exact HC144_0.out); rintro e w' ⟨rfl, ⟨nd, rfl⟩⟩; refine ⟨_, rfl, ?_⟩; have p146 : 0 ≤ (x5_1 : Int) := od; have q146 : x5_1 < (l0.length : Int) := od; obtain ⟨ad146, A146_0, c146_0, A146_3, c146_3, e146, hx146_0, hx146_1, hx146_2, hx146_3, hl146_0, hi146_0, hl146_3, hi146_3⟩ := at_T30 HR0.out x5_1 p146 q146; obtain rfl : ad144 = ad146 := (by injection e146); have HR146_0 := Aside0.mk hi146_0; have HC146_0 := Aside0.mk hl146_0; clear hi146_0 hl146_0; have HR146_3 := Aside0.mk hi146_3; have HC146_3 := Aside0.mk hl146_3; clear hi146_3 hl146_3; replace p146 := eq_true p146; replace q146 := eq_true q146; have ea_ := Option.some.inj (hx144_0.symm.trans hx146_0); injection ea_ with ea_ en_ ec_; subst ea_; subst ec_; clear en_; have ea_ := Option.some.inj (hx144_3.symm.trans hx146_3); injection ea_ with ea_ en_ ec_; subst ea_; subst ec_; clear en_; have p147 : 0 ≤ (x5_1 : Int) := od; have q147 : x5_1 < (l0.length : Int) := od; obtain ⟨ad147, A147_0, c147_0, A147_3, c147_3, e147, hx147_0, hx147_1, hx147_2, hx147_3, hl147_0, hi147_0, hl147_3, hi147_3⟩ := at_T30 HR0.out x5_1 p147 q147; obtain rfl : ad144 = ad147 := (by injection e147); have HR147_0 := Aside0.mk hi147_0; have HC147_0 := Aside0.mk hl147_0; clear hi147_0 hl147_0; have HR147_3 := Aside0.mk hi147_3; have HC147_3 := Aside0.mk hl147_3; clear hi147_3 hl147_3; replace p147 := eq_true p147; replace q147 := eq_true q147; have ea_ := Option.some.inj (hx144_0.symm.trans hx147_0); injection ea_ with ea_ en_ ec_; subst ea_; subst ec_; clear en_; have ea_ := Option.some.inj (hx144_3.symm.trans hx147_3); injection ea_ with ea_ en_ ec_; subst ea_; subst ec_; clear en_; have p148 : 0 ≤ (x5_1 : Int) := od; have q148 : x5_1 < (l0.length : Int) := od; obtain ⟨ad148, A148_0, c148_0, A148_3, c148_3, e148, hx148_0, hx148_1, hx148_2, hx148_3, hl148_0, hi148_0, hl148_3, hi148_3⟩ := at_T30 HR0.out x5_1 p148 q148; obtain rfl : ad144 = ad148 := (by injection e148); have HR148_0 := Aside0.mk hi148_0; have HC148_0 := Aside0.mk hl148_0; clear hi148_0 hl148_0; have HR148_3 := Aside0.mk hi148_3; have HC148_3 := Aside0.mk hl148_3; clear hi148_3 hl148_3; replace p148 := eq_true p148; replace q148 := eq_true q148; have ea_ := Option.some.inj (hx144_0.symm.trans hx148_0); injection ea_ with ea_ en_ ec_; subst ea_; subst ec_; clear en_; have ea_ := Option.some.inj (hx144_3.symm.trans hx148_3); injection ea_ with ea_ en_ ec_; subst ea_; subst ec_; clear en_) | ((with_reducible refine gate_callee (f := 82) rfl ?_); refine gl_ (some 47) Try.func82 #[.slice A144_3 ((rd_T30 l0 x5_1).f3).length c144_3, .int .i64 (wrap64 ((wrap64 (t145 + 1)) + 1))] (h := ?_); (with_reducible refine (ih k1 (by have := HK1.out; omega) _ _ ((rd_T30 l0 x5_1).f3) (wrap64 ((wrap64 (t145 + 1)) + 1)) t149 _ ?side1 ?side2 A9.out).mono ?_); (case side1 => repeat (first | exact HR148_3.out | (with_reducible refine Kd.C_alloc ?_ _) | (with_reducible refine Kd.C_drewN ?_ _) | (with_reducible refine Kd.C_drew ?_))); (case side2 => exact HC148_3.out); rintro e w' ⟨rfl, ⟨nd, rfl⟩⟩; refine ⟨_, rfl, ?_⟩))
      go_roundg k1
      case measure => have := HK1.out; omega
      case rel => exact ⟨(t149), (wrap64 (x5_1 + 1)), rs_, rs_, H', ⟨by have := HK1.out; omega⟩, by repeat (first | exact Drawn0.refl _ | apply Drawn0.step)⟩
     rw [if_neg c8] at H; have c8b0 : (((rd_T30 l0 x5_1).f2) == (wrap64 (t145 + 1))) = false := beq_eq_false_iff_ne.mpr c8; have c8b1 : (((rd_T30 l0 x5_1).f2) != (wrap64 (t145 + 1))) = true := bne_iff_ne.mpr c8; obtain rfl := Option.some.inj H; have p144 : 0 ≤ (x5_1 : Int) := od; have q144 : x5_1 < (l0.length : Int) := od; obtain ⟨ad144, A144_0, c144_0, A144_3, c144_3, e144, hx144_0, hx144_1, hx144_2, hx144_3, hl144_0, hi144_0, hl144_3, hi144_3⟩ := at_T30 HR0.out x5_1 p144 q144; cases e144; have HR144_0 := Aside0.mk hi144_0; have HC144_0 := Aside0.mk hl144_0; clear hi144_0 hl144_0
     have HR144_3 := Aside0.mk hi144_3; have HC144_3 := Aside0.mk hl144_3; clear hi144_3 hl144_3; replace p144 := eq_true p144; replace q144 := eq_true q144
     go_wp2_with (first | ((with_reducible refine gate_callee (f := 35) rfl ?_); refine gl_ (some 18) Try.func35 #[.slice A144_0 ((rd_T30 l0 x5_1).f0).length c144_0, .int .i64 x1_1] (h := ?_); (with_reducible refine (laws_heldByteS.calls k1 _ _ ((rd_T30 l0 x5_1).f0) x1_1 t145 _ ?side1 ?side2 A5.out).mono ?_); (case side1 => repeat (first | exact HR144_0.out | (with_reducible refine Kd.C_alloc ?_ _) | (with_reducible refine Kd.C_drewN ?_ _) | (with_reducible refine Kd.C_drew ?_))); (case side2 => exact HC144_0.out); rintro e w' ⟨rfl, ⟨nd, rfl⟩⟩; refine ⟨_, rfl, ?_⟩; have p146 : 0 ≤ (x5_1 : Int) := od; have q146 : x5_1 < (l0.length : Int) := od; obtain ⟨ad146, A146_0, c146_0, A146_3, c146_3, e146, hx146_0, hx146_1, hx146_2, hx146_3, hl146_0, hi146_0, hl146_3, hi146_3⟩ := at_T30 HR0.out x5_1 p146 q146; obtain rfl : ad144 = ad146 := (by injection e146); have HR146_0 := Aside0.mk hi146_0; have HC146_0 := Aside0.mk hl146_0; clear hi146_0 hl146_0; have HR146_3 := Aside0.mk hi146_3; have HC146_3 := Aside0.mk hl146_3; clear hi146_3 hl146_3; replace p146 := eq_true p146; replace q146 := eq_true q146; have ea_ := Option.some.inj (hx144_0.symm.trans hx146_0); injection ea_ with ea_ en_ ec_; subst ea_; subst ec_; clear en_; have ea_ := Option.some.inj (hx144_3.symm.trans hx146_3); injection ea_ with ea_ en_ ec_; subst ea_; subst ec_; clear en_; have p147 : 0 ≤ (x5_1 : Int) := od; have q147 : x5_1 < (l0.length : Int) := od; obtain ⟨ad147, A147_0, c147_0, A147_3, c147_3, e147, hx147_0, hx147_1, hx147_2, hx147_3, hl147_0, hi147_0, hl147_3, hi147_3⟩ := at_T30 HR0.out x5_1 p147 q147; obtain rfl : ad144 = ad147 := (by injection e147); have HR147_0 := Aside0.mk hi147_0; have HC147_0 := Aside0.mk hl147_0; clear hi147_0 hl147_0; have HR147_3 := Aside0.mk hi147_3; have HC147_3 := Aside0.mk hl147_3; clear hi147_3 hl147_3; replace p147 := eq_true p147; replace q147 := eq_true q147; have ea_ := Option.some.inj (hx144_0.symm.trans hx147_0); injection ea_ with ea_ en_ ec_; subst ea_; subst ec_; clear en_; have ea_ := Option.some.inj (hx144_3.symm.trans hx147_3); injection ea_ with ea_ en_ ec_; subst ea_; subst ec_; clear en_))
     go_ret; exact ⟨by first | rfl | (simp; done) | (simp [*]; done), by repeat (first | exact Drawn0.refl _ | apply Drawn0.step)⟩
    rw [if_neg c4] at H; exact absurd H (by simp)
   rw [if_neg c3] at H; have c3b0 : decide (x5_1 < (l0.length : Int)) = false := decide_eq_false c3; clear c3; obtain rfl := Option.some.inj H; go_wp2; go_ret; exact ⟨by first | rfl | (simp; done) | (simp [*]; done), by repeat (first | exact Drawn0.refl _ | apply Drawn0.step)⟩

/-! ### laws_heldTree: function 43 -/
def laws_heldTree.f (k : Nat) (l0_0 : List Int) (a0_1 : Bool) (a0_2 : Int) (l0_3 : List (S30)) (a1 : Int) : Option (Int) := (laws_heldByteS.f k l0_0 a1).bind fun t151 => (if t151 < 0 then (some (-1)) else ((laws_heldTreeS.f k l0_3 t151).bind fun t152 => (if t152 < 0 then (some (-1)) else (some t152))))
set_option maxHeartbeats 8000000 in
set_option maxRecDepth 100000 in
theorem laws_heldTree.calls (k : Nat) (A0_0 : Option Addr) (c0_0 : Nat) (l0_0 : List Int) (a0_1 : Bool) (a0_2 : Int) (A0_3 : Option Addr) (c0_3 : Nat) (l0_3 : List (S30)) (a1 : Int) (r : Int) (w : World) (hr0_0 : Kd.C (Kd.int .u8) w A0_0 l0_0.length l0_0) (hc0_0 : l0_0.length ≤ c0_0) (hr0_3 : Kd.C k30 w A0_3 l0_3.length l0_3) (hc0_3 : l0_3.length ≤ c0_3) (h : laws_heldTree.f k l0_0 a0_1 a0_2 l0_3 a1 = some r) :
  Calls Try.prog 43 #[.agg #[.slice A0_0 l0_0.length c0_0, .bool a0_1, .int .i64 a0_2, .slice A0_3 l0_3.length c0_3], .int .i64 a1] w fun e w' => e = .returned (.int .i64 r) ∧ Below w.heap.size w w' := by
 have hu30 := Try.underlying30; have HR0_0 := Aside0.mk hr0_0; have HC0_0 := Aside0.mk hc0_0; clear hr0_0 hc0_0; have HR0_3 := Aside0.mk hr0_3; have HC0_3 := Aside0.mk hc0_3; clear hr0_3 hc0_3; have HB := Aside0.mk (Below.refl w.heap.size w); have H : ((laws_heldByteS.f k l0_0 a1).bind fun t151 => (if t151 < 0 then (some (-1)) else ((laws_heldTreeS.f k l0_3 t151).bind fun t152 => (if t152 < 0 then (some (-1)) else (some t152))))) = some r := h; clear h; replace H := Option.bind_eq_some_iff.mp H; obtain ⟨t151, A30, H⟩ := H
 replace H : (if t151 < 0 then (some (-1)) else ((laws_heldTreeS.f k l0_3 t151).bind fun t152 => (if t152 < 0 then (some (-1)) else (some t152)))) = some r := H; have A3 := Aside0.mk A30; clear A30; by_cases c4 : t151 < 0
 ·rw [if_pos c4] at H
  have c4b0 : decide (t151 < 0) = true := decide_eq_true c4; clear c4; obtain rfl := Option.some.inj H; go_enter Try.func43, Try.ntmps43
  go_wp2_with (first | ((with_reducible refine gate_dst (N := 2) rfl ?_); refine bx_ 2 #[.slice A0_0 l0_0.length c0_0, .bool a0_1, .int .i64 a0_2, .slice A0_3 l0_3.length c0_3] 30 (h := ?_); intro gb150 hg w5 hbox hb; have BK150 := Aside0.mk (hbox); have GW150 := Aside0.mk ((by rw [hg]; exact (below_size bel) : w.heap.size ≤ gb150)); have GE150 := GW150; replace HB := bst hb; clear hb hbox hg; obtain ⟨C6_0, C6_1, C6_2, C6_3, -⟩ := cells_4 BK150.out trivial; obtain ⟨F6_0, F6_1, F6_2, F6_3, -⟩ := frz_4 BK150.out) | ((with_reducible refine gate_callee (f := 35) rfl ?_); refine gl_ (some 8) Try.func35 #[.slice A0_0 l0_0.length c0_0, .int .i64 a1] (h := ?_); (with_reducible refine (laws_heldByteS.calls k _ _ l0_0 a1 t151 _ ?side1 ?side2 A3.out).mono ?_); (case side1 => exact kcb); (case side2 => exact HC0_0.out); rintro e w' ⟨rfl, ⟨nd, rfl⟩⟩; refine ⟨_, rfl, ?_⟩))
  go_ret; exact ⟨rz_, bel⟩
 rw [if_neg c4] at H; have c4b0 : decide (t151 < 0) = false := decide_eq_false c4; clear c4; replace H := Option.bind_eq_some_iff.mp H; obtain ⟨t152, A70, H⟩ := H; replace H : (if t152 < 0 then (some (-1)) else (some t152)) = some r := H; have A7 := Aside0.mk A70; clear A70; by_cases c8 : t152 < 0
 ·rw [if_pos c8] at H
  have c8b0 : decide (t152 < 0) = true := decide_eq_true c8; clear c8; obtain rfl := Option.some.inj H; go_enter Try.func43, Try.ntmps43
  go_wp2_with (first | ((with_reducible refine gate_dst (N := 2) rfl ?_); refine bx_ 2 #[.slice A0_0 l0_0.length c0_0, .bool a0_1, .int .i64 a0_2, .slice A0_3 l0_3.length c0_3] 30 (h := ?_); intro gb150 hg w9 hbox hb; have BK150 := Aside0.mk (hbox); have GW150 := Aside0.mk ((by rw [hg]; exact (below_size bel) : w.heap.size ≤ gb150)); have GE150 := GW150; replace HB := bst hb; clear hb hbox hg; obtain ⟨C10_0, C10_1, C10_2, C10_3, -⟩ := cells_4 BK150.out trivial; obtain ⟨F10_0, F10_1, F10_2, F10_3, -⟩ := frz_4 BK150.out) | ((with_reducible refine gate_callee (f := 35) rfl ?_); refine gl_ (some 8) Try.func35 #[.slice A0_0 l0_0.length c0_0, .int .i64 a1] (h := ?_); (with_reducible refine (laws_heldByteS.calls k _ _ l0_0 a1 t151 _ ?side1 ?side2 A3.out).mono ?_); (case side1 => exact kcb); (case side2 => exact HC0_0.out); rintro e w' ⟨rfl, ⟨nd, rfl⟩⟩; refine ⟨_, rfl, ?_⟩) | ((with_reducible refine gate_callee (f := 82) rfl ?_); refine gl_ (some 14) Try.func82 #[.slice A0_3 l0_3.length c0_3, .int .i64 t151] (h := ?_); (with_reducible refine (laws_heldTreeS.calls k _ _ l0_3 t151 t152 _ ?side1 ?side2 A7.out).mono ?_); (case side1 => exact kcb); (case side2 => exact HC0_3.out); rintro e w' ⟨rfl, ⟨nd, rfl⟩⟩; refine ⟨_, rfl, ?_⟩))
  go_ret; exact ⟨rz_, bel⟩
 rw [if_neg c8] at H; have c8b0 : decide (t152 < 0) = false := decide_eq_false c8; clear c8; obtain rfl := Option.some.inj H; go_enter Try.func43, Try.ntmps43
 go_wp2_with (first | ((with_reducible refine gate_dst (N := 2) rfl ?_); refine bx_ 2 #[.slice A0_0 l0_0.length c0_0, .bool a0_1, .int .i64 a0_2, .slice A0_3 l0_3.length c0_3] 30 (h := ?_); intro gb150 hg w11 hbox hb; have BK150 := Aside0.mk (hbox); have GW150 := Aside0.mk ((by rw [hg]; exact (below_size bel) : w.heap.size ≤ gb150)); have GE150 := GW150; replace HB := bst hb; clear hb hbox hg; obtain ⟨C12_0, C12_1, C12_2, C12_3, -⟩ := cells_4 BK150.out trivial; obtain ⟨F12_0, F12_1, F12_2, F12_3, -⟩ := frz_4 BK150.out) | ((with_reducible refine gate_callee (f := 35) rfl ?_); refine gl_ (some 8) Try.func35 #[.slice A0_0 l0_0.length c0_0, .int .i64 a1] (h := ?_); (with_reducible refine (laws_heldByteS.calls k _ _ l0_0 a1 t151 _ ?side1 ?side2 A3.out).mono ?_); (case side1 => exact kcb); (case side2 => exact HC0_0.out); rintro e w' ⟨rfl, ⟨nd, rfl⟩⟩; refine ⟨_, rfl, ?_⟩) | ((with_reducible refine gate_callee (f := 82) rfl ?_); refine gl_ (some 14) Try.func82 #[.slice A0_3 l0_3.length c0_3, .int .i64 t151] (h := ?_); (with_reducible refine (laws_heldTreeS.calls k _ _ l0_3 t151 t152 _ ?side1 ?side2 A7.out).mono ?_); (case side1 => exact kcb); (case side2 => exact HC0_3.out); rintro e w' ⟨rfl, ⟨nd, rfl⟩⟩; refine ⟨_, rfl, ?_⟩))
 go_ret; exact ⟨rz_, bel⟩

/-! ### marks of trees, with what the rows hold then -/
theorem H_frz30 {W : World} {base g n cap : Nat} {ok oki : Nat → Prop} {xs : List S30} {i : Int} {c : List Value} (h : Kd.H kD30 30 W base ok (.slice (some ⟨g, 0, none⟩) n cap) xs i oki c) (h0 : 0 ≤ i) (h1 : i < n) : (∀ j u, c[j]? = some u → W.cell? ⟨g, i.toNat * 4 + j, none⟩ = some u) ∧ ∀ j, W.frozen? ⟨g, i.toNat * 4 + j, none⟩ = false := by
  obtain ⟨rows, _, hraw, _, _, hcc, _⟩ := Kd.H_raw h h0 h1; obtain ⟨_, _, _, _, hfr⟩ := Kd.R_elem hraw [] i h0 h1; exact ⟨hcc, hfr⟩
def laws_markTreeV.row (a : Int) (n : Nat) : List Int := (List.range n).map (fun (i : Nat) => (a + (i : Int)) % 256)
def laws_markTreeV.list (g : List Int → Int → Option (Int × List Int)) (rec : List S30 → Int → Option (Int × List S30)) : List S30 → Int → Option (Int × List S30)
  | [], a => some (a, [])
  | x :: xs, a => (g x.f0 a).bind fun b => if (0 ≤ b.1 ∧ b.1 ≤ 1000000000) ∧ b.1 = a + (x.f0.length : Int) ∧ b.2 = laws_markTreeV.row a x.f0.length then (rec x.f3 (b.1 + 1 + 1)).bind fun c => (laws_markTreeV.list g rec xs c.1).bind fun d => some (d.1, ⟨b.2, Int.tmod b.1 3 == 0, b.1 + 1, c.2⟩ :: d.2) else none
def laws_markTreeV.rows (kb : Nat) : Nat → List S30 → Int → Option (Int × List S30)
  | 0 => fun _ _ => none
  | k + 1 => laws_markTreeV.list (laws_markByteS.f kb) (laws_markTreeV.rows kb k)
/-- The count, and the two rows then. -/
def laws_markTreeV.g (k : Nat) (l0 : List Int) (l3 : List S30) (a : Int) : Option (Int × List Int × List S30) :=
  (laws_markByteS.f k l0 a).bind fun b => if b.1 = a + (l0.length : Int) ∧ b.2 = laws_markTreeV.row a l0.length then (laws_markTreeV.rows k k l3 b.1).bind fun c => some (c.1, b.2, c.2) else none
def laws_markTreeV.f (k : Nat) (l0 : List Int) (_a1 : Bool) (_a2 : Int) (l3 : List S30) (a : Int) : Option Int := (laws_markTreeV.g k l0 l3 a).bind fun m => some m.1
/-- What is found of marks that began at one. -/
def laws_heldTreem.f (k : Nat) (l0 : List Int) (a1 : Bool) (a2 : Int) (l3 : List S30) (a : Int) : Option Int := (laws_markTreeV.g k l0 l3 1).bind fun m => laws_heldTree.f k m.2.1 a1 a2 m.2.2 a
set_option maxHeartbeats 16000000 in
set_option maxRecDepth 100000 in
theorem laws_markTreeV.deep (kb k : Nat) : ∀ (P0_ : Nat → Prop) (v : Value) (l : List S30) (a r : Int) (m : List S30) (w0 w : World) (hB : Below w0.heap.size w0 w) (ho : Kd.S kD30 30 w w0.heap.size P0_ v l) (h : laws_markTreeV.rows kb k l a = some (r, m)),
    Calls Try.prog 74 #[v, .int .i64 a] w fun e w' => e = .returned (.int .i64 r) ∧ Kd.S kD30 30 w' w0.heap.size P0_ v m ∧ Below w0.heap.size w0 w' ∧ Kept w w' P0_ := by
  induction k with
  | zero => intro _ _ _ _ _ _ _ _ _ _ h; exact absurd h (by simp [laws_markTreeV.rows])
  | succ k ih =>
  intro P0_ v l a r m w0 w hB ho h; obtain ⟨A, c, rfl⟩ := Kd.S_slice ho; simp only [laws_markTreeV.rows] at h; have HS0 := Aside0.mk ho; have HB := Aside0.mk hB; have H0 := Aside0.mk h; have IH := Aside0.mk ih; clear ho hB h ih; go_enter Try.func74, Try.ntmps74; go_wp2
  go_loopg [1, 5] l.length (fun gg v1 v5 wr => ∃ (x N1 : Int) (cur : List S30), v1 = .int .i64 N1 ∧ v5 = .int .i64 x ∧ 0 ≤ x ∧ x ≤ (l.length : Int) ∧ l.length - x.toNat ≤ gg ∧ Aside0 (cur.length = l.length ∧ cur.drop x.toNat = l.drop x.toNat) ∧ Aside0 (∃ m', laws_markTreeV.list (laws_markByteS.f kb) (laws_markTreeV.rows kb k) (l.drop x.toNat) N1 = some (r, m') ∧ m = cur.take x.toNat ++ m') ∧ Aside0 (Kd.S kD30 30 wr w0.heap.size P0_ (.slice A l.length c) cur) ∧ Aside0 (Below w0.heap.size w0 wr) ∧ Aside0 (Kept w wr P0_))
  case atStart => exact ⟨0, a, l, rfl, rfl, by omega, by omega, by omega, ⟨rfl, rfl⟩, ⟨m, H0.out, by simp⟩, HS0, HB, ⟨Kept.refl _ _⟩⟩
  case round =>
    obtain ⟨x, N1, cur, rfl, rfl, hx0, hx1, hg, HL, HF, HS, HBr, HK⟩ := hrel; by_cases hlt : x < (l.length : Int)
    · have hn : x.toNat < l.length := by omega
      have hn' : x.toNat < cur.length := by rw [HL.out.1]; exact hn
      obtain ⟨g, cap, e, hbg, hgl, cells, hcell⟩ := Kd.S_form HS.out (by omega); injection e with ea en ec; subst ea; obtain ⟨oki, cs, hcl, hM, _, _, hoki, hH⟩ := Kd.S_elem HS.out z30 x hx0 (by omega); obtain ⟨oka, v0, v3, rfl, hv0, hv3⟩ := kD30_openM hM
      have hrow : cur.getD x.toNat z30 = l[x.toNat] := by
        have h1 := HL.out.2; rw [List.drop_eq_getElem_cons hn, List.drop_eq_getElem_cons hn'] at h1; rw [List.getD_eq_getElem?_getD, List.getElem?_eq_getElem hn', Option.getD_some]; exact (List.cons.inj h1).1
      have htail : cur.drop (x.toNat + 1) = l.drop (x.toNat + 1) := by
        have h1 := HL.out.2; rw [List.drop_eq_getElem_cons hn, List.drop_eq_getElem_cons hn'] at h1; exact (List.cons.inj h1).2
      rw [hrow] at hv0 hv3 hH; obtain ⟨m', hf, hm⟩ := HF.out; rw [List.drop_eq_getElem_cons hn, laws_markTreeV.list] at hf; generalize l[x.toNat] = y at hv0 hv3 hH hf; obtain ⟨⟨b1, b2⟩, hb, hf⟩ := Option.bind_eq_some_iff.mp hf; simp only at hf; split at hf
      case isFalse => cases hf
      case isTrue hbb0 =>
      have hbb := hbb0.1; clear hbb0; obtain ⟨⟨c1, c2⟩, hc, hf⟩ := Option.bind_eq_some_iff.mp hf; obtain ⟨⟨d1, d2⟩, hd, hf⟩ := Option.bind_eq_some_iff.mp hf; simp only [Option.some.injEq, Prod.mk.injEq] at hf hc hd; obtain ⟨rfl, rfl⟩ := hf; obtain ⟨A0, c0, rfl⟩ := Kd.R_slice hv0; obtain ⟨A3, c3, rfl⟩ := Kd.S_slice hv3; have hcc := (H_frz30 hH hx0 (by omega)).1; have hx_0 : wr.cell? ⟨g, x.toNat * 4, none⟩ = some (.slice A0 y.f0.length c0) := hcc 0 _ rfl; have hw1 : wrap64 (b1 + 1) = b1 + 1 := by unfold wrap64; omega
      have hw2 : wrap64 (b1 + 1 + 1) = b1 + 1 + 1 := by unfold wrap64; omega
      have hwx : wrap64 (x + 1) = x + 1 := by have := (Kd.S_reads' HS.out).2.2.2.1; unfold wrap64; omega
      have HNG := Aside0.mk (show ∀ k, oki k → k ≠ g from fun k hk => (hoki k hk).2); have HLT := Aside0.mk (show x < (l.length : Int) from hlt); have HGB := Aside0.mk hbg; have HV0 := Aside0.mk hv0; have HV3 := Aside0.mk hv3; have HH := Aside0.mk hH; have HOK := Aside0.mk hoki; have HBB := Aside0.mk hb; have HCC := Aside0.mk hc; have HDD := Aside0.mk hd; have HMM := Aside0.mk hm; have HN2 := Aside0.mk hn'; have HTL := Aside0.mk htail; have HG := Aside0.mk hg; have HX0 := Aside0.mk hx0; have HWX := Aside0.mk hwx
      clear hv0 hv3 hH hoki hb hc hd hm hrow htail hcc hcl hcell hgl hbg en ec hg hM hbb hlt hn hn' hx1; have e1 : decide (x < (l.length : Int)) = true := decide_eq_true HLT.out; have p5 : (0 ≤ x) = True := eq_true hx0; have q5 : (x < (l.length : Int)) = True := eq_true HLT.out
      go_wp2_with (first
        | ((with_reducible refine gate_callee (f := 34) rfl ?_); refine gl_ (some 18) Try.func34 #[.slice A0 y.f0.length c0, .int .i64 N1] (h := ?_); refine (laws_markByteS.calls kb (fun k_ => oki k_ ∧ oka k_) (.slice A0 y.f0.length c0) y.f0 N1 b1 b2 w0 wr HBr.out HV0.out HBB.out).mono ?_; rintro e w8 ⟨rfl, ho, hb8, hk8⟩; refine ⟨_, rfl, ?_⟩; have HO8 := Aside0.mk (Kd.R_mono (Kd.R_tight rfl ho) (fun k e_ => HV0.out.1 k e_.symm)); have HB8 := Aside0.mk hb8; have HK8 := Aside0.mk hk8; have HH8 := Aside0.mk (Kd.H_kept HH.out hk8 (fun k _ hno hs => hno hs.1)); have HV8 := Aside0.mk (Kd.S_kept HV3.out hk8 (fun k hk hs => hk.2 hs.2)); clear ho hb8 hk8; obtain ⟨hcc8, hfr8⟩ := H_frz30 HH8.out HX0.out HLT.out; have hy_1 : w8.cell? ⟨g, x.toNat * 4 + 1, none⟩ = some (.bool y.f1) := hcc8 1 _ rfl; have hy_2 : w8.cell? ⟨g, x.toNat * 4 + 2, none⟩ = some (.int .i64 y.f2) := hcc8 2 _ rfl; have hy_3 : w8.cell? ⟨g, x.toNat * 4 + 3, none⟩ = some (.slice A3 y.f3.length c3) := hcc8 3 _ rfl; have hz_1 := hfr8 1; have hz_2 := hfr8 2; clear hcc8 hfr8)
        | (go_at_call 74; refine (IH.out (fun k_ => oki k_ ∧ ¬ oka k_) (.slice A3 y.f3.length c3) y.f3 (b1 + 1 + 1) c1 c2 w0 _ ?hB ?hS HCC.out).mono ?_; (case hB => exact (HB8.out.setCell HGB.out _).setCell HGB.out _); (case hS => exact Kd.S_far (p := ⟨g, x.toNat * 4 + 2, none⟩) (Kd.S_far (p := ⟨g, x.toNat * 4 + 1, none⟩) HV8.out (fun k hk => HNG.out k hk.1) _) (fun k hk => HNG.out k hk.1) _); rintro e w11 ⟨rfl, ho3, hb11, hk11⟩; have HO11 := Aside0.mk ho3; have HB11 := Aside0.mk hb11; have HK11 := Aside0.mk hk11; clear ho3 hb11 hk11))
      go_roundg (l.length - (x.toNat + 1))
      case measure => have := HG.out; have := HLT.out; omega
      case rel =>
        have hx0 := HX0.out; have ex : (x + 1).toNat = x.toNat + 1 := by omega
        have hn' := HN2.out; have hs10 := (Kd.H_seg HH8.out HX0.out HLT.out (seg := [.bool (Int.tmod b1 3 == 0), .int .i64 (b1 + 1)]) (j := 1) (by show 1 + 2 ≤ 4; omega) (by intro q hq; simp at hq; rcases hq with rfl | rfl <;> rfl)).1; have hs11 := Kd.H_kept hs10 HK11.out (fun k _ hno hs => hno hs.1); have hr0 := Kd.R_kept (Kd.R_far (p := ⟨g, x.toNat * 4 + 2, none⟩) (Kd.R_far (p := ⟨g, x.toNat * 4 + 1, none⟩) HO8.out (fun k hk => HNG.out k hk.1) (.bool (Int.tmod b1 3 == 0))) (fun k hk => HNG.out k hk.1) (.int .i64 (b1 + 1))) HK11.out (fun k hk hs => hs.2 hk.2)
        have hs1 := Kd.H_back hs11 (x' := ⟨b2, Int.tmod b1 3 == 0, b1 + 1, c2⟩) (okp := oki) (kD30_mkA _ _ oki oka ⟨b2, Int.tmod b1 3 == 0, b1 + 1, c2⟩ hr0 HO11.out) (fun k hk => hk); refine ⟨x + 1, c1, cur.set x.toNat ⟨b2, Int.tmod b1 3 == 0, b1 + 1, c2⟩, by first | rfl | simp, by first | rw [HWX.out] | simp [HWX.out], by omega, by have := HLT.out; omega, by have := HG.out; omega, ⟨?_, ?_⟩, ⟨d2, ?_, ?_⟩, ⟨hs1⟩, HB11, ⟨?_⟩⟩
        · rw [List.length_set]; exact HL.out.1
        · rw [ex, List.drop_set_of_lt (by omega)]; exact HTL.out
        · rw [ex]; exact HDD.out
        · rw [ex, HMM.out, List.take_add_one, List.take_set_of_le (by omega), List.getElem?_set_self hn', Option.toList_some, List.append_assoc]
          rfl
        · refine HK.out.then_ ((HK8.out.mono (S' := fun k => oki k ∨ k = g) (fun k hk => .inl hk.1)).then_ (S2 := fun k => oki k ∨ k = g) ((((Kept.refl w8 (fun k => oki k ∨ k = g)).setCell (p := ⟨g, x.toNat * 4 + 1, none⟩) (.inl (.inr rfl)) (.bool (Int.tmod b1 3 == 0))).setCell (p := ⟨g, x.toNat * 4 + 2, none⟩) (.inl (.inr rfl)) (.int .i64 (b1 + 1))).then_ HK11.out (fun k hk => .inl (.inl hk.1))) (fun k hk => .inl hk)) (fun k hk => .inl ?_)
          rcases hk with hk | rfl
          · exact (HOK.out k hk).1
          · exact HS.out.elim (fun _ h_ => h_.1 _ rfl)
    · have hx : x.toNat = l.length := by omega
      obtain ⟨m', hf, hm⟩ := HF.out; rw [hx, List.drop_length, laws_markTreeV.list] at hf; simp only [Option.some.injEq, Prod.mk.injEq] at hf; obtain ⟨rfl, rfl⟩ := hf; rw [hx, List.append_nil, List.take_of_length_le (by rw [HL.out.1]; exact Nat.le_refl _)] at hm; have e1 : decide (x < (l.length : Int)) = false := decide_eq_false hlt; go_wp2; go_ret; exact ⟨rfl, by first | exact HS.out | (rw [hm]; exact HS.out), HBr.out, HK.out⟩
set_option maxHeartbeats 16000000 in
set_option maxRecDepth 100000 in
theorem laws_markTreeV.calls (k : Nat) (P0_ : Nat → Prop) (u0 u3 : Value) (l0 : List Int) (a1 : Bool) (a2 : Int) (l3 : List S30) (a4 r : Int) (m0 : List Int) (m3 : List S30) (w0 w : World) (hB : Below w0.heap.size w0 w) (ho : TS30 w w0.heap.size P0_ u0 u3 l0 l3) (h : laws_markTreeV.g k l0 l3 a4 = some (r, m0, m3)) :
    Calls Try.prog 33 #[.agg #[u0, .bool a1, .int .i64 a2, u3], .int .i64 a4] w fun e w' => e = .returned (.int .i64 r) ∧ TS30 w' w0.heap.size P0_ u0 u3 m0 m3 ∧ Below w0.heap.size w0 w' ∧ Kept w w' P0_ := by
  have hu := Try.underlying30; obtain ⟨A0, c0, A3, c3, rfl, rfl⟩ := ho.tr.slices; obtain ⟨⟨b1, b2⟩, hb, h⟩ := Option.bind_eq_some_iff.mp h; simp only at h; split at h
  case isFalse => cases h
  case isTrue hbb0 =>
  clear hbb0; obtain ⟨⟨c1, c2⟩, hc, h⟩ := Option.bind_eq_some_iff.mp h; simp only [Option.some.injEq, Prod.mk.injEq] at h hc; obtain ⟨rfl, rfl, rfl⟩ := h; obtain ⟨oka, h0, h3⟩ := ho; have H0 := Aside0.mk (Kd.R_mono (Kd.R_bound h0) (fun k hk => (⟨hk.1, hk.2.2.1⟩ : (P0_ k ∧ oka k) ∧ k < w.heap.size))); have H3 := Aside0.mk (Kd.S_mono (Kd.S_bound h3) (fun k hk => (⟨hk.1, hk.2.2.1⟩ : (P0_ k ∧ ¬ oka k) ∧ k < w.heap.size))); have HBB := Aside0.mk hB; have HB1 := Aside0.mk hb; have HC1 := Aside0.mk hc; clear h0 h3 hB hb hc; go_enter Try.func33, Try.ntmps33
  go_wp2_with (first
    | ((with_reducible refine gate_dst (N := 2) rfl ?_); refine bx_ 2 #[.slice A0 l0.length c0, .bool a1, .int .i64 a2, .slice A3 l3.length c3] 30 (h := ?_); intro gb1 hg w1 hbox hb; have BK1 := Aside0.mk (hbox); have HG1 := Aside0.mk hg; have HX1 := Aside0.mk hb; clear hb hbox hg; have hcz1_0 : w1.cell? ⟨gb1, 0, none⟩ = some (.slice A0 l0.length c0) := (blk_cell BK1.out 0).trans rfl)
    | ((with_reducible refine gate_callee (f := 34) rfl ?_); refine gl_ (some 8) Try.func34 #[.slice A0 l0.length c0, .int .i64 a4] (h := ?_); refine (laws_markByteS.calls k (fun k_ => (P0_ k_ ∧ oka k_) ∧ k_ < w.heap.size) _ l0 a4 b1 b2 w0 w1 (below_step HBB.out HX1.out) (Kd.R_below H0.out HX1.out) HB1.out).mono ?_; rintro e w2 ⟨rfl, ho, hb2, hk2⟩; refine ⟨_, rfl, ?_⟩; have HO2 := Aside0.mk (Kd.R_mono (Kd.R_tight rfl ho) (fun k e_ => H0.out.1 k e_.symm)); have HB2 := Aside0.mk hb2; have HK2 := Aside0.mk hk2; have BK2 := Aside0.mk (blk_kept BK1.out hk2 (fun h_ => by have := h_.2; have := HG1.out; omega)); clear ho hb2 hk2; have hcz2_3 : w2.cell? ⟨gb1, 3, none⟩ = some (.slice A3 l3.length c3) := (blk_cell BK2.out 3).trans rfl)
    | ((with_reducible refine gate_callee (f := 74) rfl ?_); refine gl_ (some 12) Try.func74 #[.slice A3 l3.length c3, .int .i64 b1] (h := ?_); refine (laws_markTreeV.deep k k (fun k_ => (P0_ k_ ∧ ¬ oka k_) ∧ k_ < w.heap.size) _ l3 b1 c1 c2 w0 w2 HB2.out (Kd.S_kept (Kd.S_below H3.out HX1.out) HK2.out (fun k_ h_ hs_ => h_.1.2 hs_.1.2)) HC1.out).mono ?_; rintro e w3 ⟨rfl, ho3, hb3, hk3⟩; refine ⟨_, rfl, ?_⟩; have HO3 := Aside0.mk ho3; have HB3 := Aside0.mk hb3; have HK3 := Aside0.mk hk3; clear ho3 hb3 hk3))
  go_ret; exact ⟨rfl, ⟨oka, Kd.R_mono (Kd.R_kept HO2.out HK3.out (fun k_ h_ hs_ => hs_.1.2 h_.1.2)) (fun _ h_ => h_.1), Kd.S_mono HO3.out (fun _ h_ => h_.1)⟩, HB3.out, (((Kept.of_below HX1.out P0_).then_ HK2.out (fun _ h_ => .inl h_.1.1)).then_ HK3.out (fun _ h_ => .inl h_.1.1))⟩
theorem laws_markTreeV.list_one {g g' : List Int → Int → Option (Int × List Int)} {rec rec' : List S30 → Int → Option (Int × List S30)} (hr : ∀ l a x y, rec l a = some x → rec' l a = some y → x = y) :
    ∀ (l : List S30) (a : Int) (x y : Int × List S30), laws_markTreeV.list g rec l a = some x → laws_markTreeV.list g' rec' l a = some y → x = y
  | [], a, x, y, h, h' => by
    rw [laws_markTreeV.list] at h h'
    exact Option.some.inj (h.symm.trans h')
  | z :: zs, a, x, y, h, h' => by
    rw [laws_markTreeV.list] at h h'
    obtain ⟨b, _, h⟩ := Option.bind_eq_some_iff.mp h
    obtain ⟨b', _, h'⟩ := Option.bind_eq_some_iff.mp h'
    split at h
    case isFalse => cases h
    case isTrue hb =>
    split at h'
    case isFalse => cases h'
    case isTrue hb' =>
    obtain ⟨c, hc, h⟩ := Option.bind_eq_some_iff.mp h
    obtain ⟨c', hc', h'⟩ := Option.bind_eq_some_iff.mp h'
    obtain ⟨d, hd, h⟩ := Option.bind_eq_some_iff.mp h
    obtain ⟨d', hd', h'⟩ := Option.bind_eq_some_iff.mp h'
    have e1 : b'.1 = b.1 := hb'.2.1.trans hb.2.1.symm
    have e2 : b'.2 = b.2 := hb'.2.2.trans hb.2.2.symm
    rw [e1] at hc'
    obtain rfl := hr _ _ _ _ hc hc'
    obtain rfl := laws_markTreeV.list_one hr zs _ _ _ hd hd'
    rw [e1, e2] at h'
    exact Option.some.inj (h.symm.trans h')
theorem laws_markTreeV.rows_one (kb kb' : Nat) : ∀ (k k' : Nat) (l : List S30) (a : Int) (x y : Int × List S30), laws_markTreeV.rows kb k l a = some x → laws_markTreeV.rows kb' k' l a = some y → x = y
  | 0, _, _, _, _, _, h, _ => by cases h
  | _ + 1, 0, _, _, _, _, _, h => by cases h
  | k + 1, k' + 1, l, a, x, y, h, h' => laws_markTreeV.list_one (fun l a x y => laws_markTreeV.rows_one kb kb' k k' l a x y) l a x y h h'
theorem laws_markTreeV.one {k k' : Nat} {l0 : List Int} {l3 : List S30} {a : Int} {x y : Int × List Int × List S30} (h : laws_markTreeV.g k l0 l3 a = some x) (h' : laws_markTreeV.g k' l0 l3 a = some y) : x = y := by
  unfold laws_markTreeV.g at h h'; obtain ⟨b, _, h⟩ := Option.bind_eq_some_iff.mp h; obtain ⟨b', _, h'⟩ := Option.bind_eq_some_iff.mp h'; split at h
  case isFalse => cases h
  case isTrue hb =>
  split at h'
  case isFalse => cases h'
  case isTrue hb' =>
  obtain ⟨c, hc, h⟩ := Option.bind_eq_some_iff.mp h; obtain ⟨c', hc', h'⟩ := Option.bind_eq_some_iff.mp h'; have e1 : b'.1 = b.1 := hb'.1.trans hb.1.symm; have e2 : b'.2 = b.2 := hb'.2.trans hb.2.symm; rw [e1] at hc'; obtain rfl := laws_markTreeV.rows_one _ _ _ _ _ _ _ _ hc hc'; rw [e2] at h'; exact Option.some.inj (h.symm.trans h')
theorem laws_markTreeV.get {k : Nat} {l0 : List Int} {a1 : Bool} {a2 : Int} {l3 : List S30} {a r : Int} (h : laws_markTreeV.f k l0 a1 a2 l3 a = some r) : ∃ m0 m3, laws_markTreeV.g k l0 l3 a = some (r, m0, m3) := by
  obtain ⟨⟨r', m0, m3⟩, h1, h2⟩ := Option.bind_eq_some_iff.mp h; exact ⟨m0, m3, by rw [h1, show r' = r from Option.some.inj h2]⟩
theorem laws_heldTreem.get {k k' : Nat} {l0 : List Int} {a1 : Bool} {a2 : Int} {l3 : List S30} {a r n : Int} {m0 : List Int} {m3 : List S30} (hg : laws_markTreeV.g k' l0 l3 1 = some (n, m0, m3)) (h : laws_heldTreem.f k l0 a1 a2 l3 a = some r) : laws_heldTree.f k m0 a1 a2 m3 a = some r := by
  obtain ⟨x, h1, h2⟩ := Option.bind_eq_some_iff.mp h; obtain rfl := laws_markTreeV.one h1 hg; exact h2
end Go.Proofs.Ytoaddpfoecggpaa.PV
