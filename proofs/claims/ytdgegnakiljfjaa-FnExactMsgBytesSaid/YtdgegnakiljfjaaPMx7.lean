-- Written for this claim by the session's program pp.py, out of the kit's print and the seat's translation.
import Derived.Test.YtdgegnakiljfjaaPMx0
import Derived.Test.YtdgegnakiljfjaaPMx6
namespace Go.Proofs.Ytdgegnakiljfjaa.PM
open Go.RowKit Go.Proofs.YtdgegnakiljfjaaW.PrintWords Go.Proofs.YtdgegnakiljfjaaW.PrintLast Go.Proofs.YtdgegnakiljfjaaW.PrintMore
attribute [local go_sem] max2_int min2_int max_two min_two max_three min_three max_four min_four   -- for this text's walks alone
set_option linter.unusedVariables false
set_option linter.unusedSimpArgs false

/-! ### spec_OpOk: function 190 -/
mutual
def spec_OpOk.j0 : Nat → Bool → Int → List Int → List Int → Int → Option (Bool)
 | 0, _, _, _, _, _ => none
 | k + 1, x24, x248000, x248001, x248002, x248003 => if x24 = true then (some false) else (if x248000 = 1 then (spec_OpOk.j1 k true x248000 x248001 x248002 x248003) else (if x248000 = 2 then (spec_OpOk.j1 k true x248000 x248001 x248002 x248003) else (if x248000 = 3 then (spec_OpOk.j1 k true x248000 x248001 x248002 x248003) else (if x248000 = 6 then (spec_OpOk.j1 k true x248000 x248001 x248002 x248003) else (spec_OpOk.j1 k (x248000 == 7) x248000 x248001 x248002 x248003)))))
def spec_OpOk.j1 : Nat → Bool → Int → List Int → List Int → Int → Option (Bool)
 | 0, _, _, _, _, _ => none
 | k + 1, x3, x248000, x248001, x248002, x248003 => if x3 = true then ((spec_l2key.f k x248001).bind fun t250 => (if t250 = true then (spec_OpOk.j2 k false x248000 x248001 x248002 x248003) else (spec_OpOk.j2 k true x248000 x248001 x248002 x248003))) else (spec_OpOk.j2 k (decide ((x248001.length : Int) > 0)) x248000 x248001 x248002 x248003)
def spec_OpOk.j2 : Nat → Bool → Int → List Int → List Int → Int → Option (Bool)
 | 0, _, _, _, _, _ => none
 | k + 1, x64, x248000, x248001, x248002, x248003 => if x64 = true then (some false) else (if x248000 = 1 then (spec_OpOk.j3 k true x248000 x248001 x248002 x248003) else (if x248000 = 2 then (spec_OpOk.j3 k true x248000 x248001 x248002 x248003) else (spec_OpOk.j3 k (x248000 == 6) x248000 x248001 x248002 x248003)))
def spec_OpOk.j3 : Nat → Bool → Int → List Int → List Int → Int → Option (Bool)
 | 0, _, _, _, _, _ => none
 | k + 1, x4, x248000, x248001, x248002, x248003 => if x4 = true then (spec_OpOk.j4 k false x248000 x248001 x248002 x248003) else (spec_OpOk.j4 k (decide ((x248002.length : Int) > 0)) x248000 x248001 x248002 x248003)
def spec_OpOk.j4 : Nat → Bool → Int → List Int → List Int → Int → Option (Bool)
 | 0, _, _, _, _, _ => none
 | k + 1, x85, x248000, x248001, x248002, x248003 => if x85 = true then (some false) else (if x248000 = 0 then (spec_OpOk.j5 k x248000 (x248000 == 0) x248000 x248001 x248002 x248003) else (if x248000 = 1 then (spec_OpOk.j5 k x248000 (x248000 == 1) x248000 x248001 x248002 x248003) else (spec_OpOk.j5 k x248000 (x248000 == 3) x248000 x248001 x248002 x248003)))
def spec_OpOk.j5 : Nat → Int → Bool → Int → List Int → List Int → Int → Option (Bool)
 | 0, _, _, _, _, _, _ => none
 | k + 1, x87, x88, x248000, x248001, x248002, x248003 => if x88 = true then (some (x248003 == 0)) else (if x87 = 4 then (some (decide (x248003 ≤ 1))) else (if x87 = 2 then (some true) else (some (decide (x248003 ≥ 1)))))
end
def spec_OpOk.f (k : Nat) (a0_0 : Int) (l0_1 : List Int) (l0_2 : List Int) (a0_3 : Int) : Option (Bool) := if a0_0 < 0 then (spec_OpOk.j0 k true a0_0 l0_1 l0_2 a0_3) else (if a0_0 > 7 then (spec_OpOk.j0 k true a0_0 l0_1 l0_2 a0_3) else ((spec_l2val.f l0_2).bind fun t248 => (if t248 = true then ((spec_l2index.f a0_3).bind fun t249 => (spec_OpOk.j0 k (!t249) a0_0 l0_1 l0_2 a0_3)) else (spec_OpOk.j0 k true a0_0 l0_1 l0_2 a0_3))))
set_option maxHeartbeats 8000000 in
set_option maxRecDepth 100000 in
theorem spec_OpOk.calls (k : Nat) (a0_0 : Int) (A0_1 : Option Addr) (c0_1 : Nat) (l0_1 : List Int) (A0_2 : Option Addr) (c0_2 : Nat) (l0_2 : List Int) (a0_3 : Int) (r : Bool) (w : World) (hr0_1 : Kd.C (Kd.int .u8) w A0_1 l0_1.length l0_1) (hc0_1 : l0_1.length ≤ c0_1) (hr0_2 : Kd.C (Kd.int .u8) w A0_2 l0_2.length l0_2) (hc0_2 : l0_2.length ≤ c0_2) (h : spec_OpOk.f k a0_0 l0_1 l0_2 a0_3 = some r) :
  Calls Try.prog 190 #[.agg #[.int .i64 a0_0, .slice A0_1 l0_1.length c0_1, .slice A0_2 l0_2.length c0_2, .int .i64 a0_3]] w fun e w' => e = .returned (.bool r) ∧ Below w.heap.size w w' := by
 have hu143 := Try.underlying143
 have HR0_1 := Aside0.mk hr0_1
 have HC0_1 := Aside0.mk hc0_1
 clear hr0_1 hc0_1
 have HR0_2 := Aside0.mk hr0_2
 have HC0_2 := Aside0.mk hc0_2
 clear hr0_2 hc0_2
 have HB := Aside0.mk (Below.refl w.heap.size w)
 have H : (if a0_0 < 0 then (spec_OpOk.j0 k true a0_0 l0_1 l0_2 a0_3) else (if a0_0 > 7 then (spec_OpOk.j0 k true a0_0 l0_1 l0_2 a0_3) else ((spec_l2val.f l0_2).bind fun t248 => (if t248 = true then ((spec_l2index.f a0_3).bind fun t249 => (spec_OpOk.j0 k (!t249) a0_0 l0_1 l0_2 a0_3)) else (spec_OpOk.j0 k true a0_0 l0_1 l0_2 a0_3))))) = some r := h
 clear h
 have HC2 := Aside0.mk H
 clear H
 go_enter Try.func190, Try.ntmps190
 go_upto_region 1 with (first | ((with_reducible refine gate_dst (N := 1) rfl ?_); (try (refine gate_guard (by rfl) ?_; dsimp only)); refine bx_ 1 #[.int .i64 a0_0, .slice A0_1 l0_1.length c0_1, .slice A0_2 l0_2.length c0_2, .int .i64 a0_3] 143 (h := ?_); intro gb247 hg w3 hbox hb; have BK247 := Aside0.mk (hbox); have GW247 := Aside0.mk ((by rw [hg]; exact (below_size bel) : w.heap.size ≤ gb247)); have GE247 := GW247; replace HB := Aside0.mk (below_step bel hb); clear hb hbox hg))
 (try simp only [Act.put, List.setIfInBounds_toArray, List.set_cons_zero, List.set_cons_succ])
 go_cut [24] (fun v24 wc => ∃ (kq : Nat) (x24_1 : Bool), v24 = .bool x24_1 ∧ Aside0 (spec_OpOk.j0 kq x24_1 a0_0 l0_1 l0_2 a0_3 = some r) ∧ Aside0 (kq ≤ k) ∧ Aside0 (wc.heap[gb247]? = some (.cells #[.int .i64 a0_0, (.slice A0_1 l0_1.length c0_1), (.slice A0_2 l0_2.length c0_2), .int .i64 a0_3] 143 (0, 0))) ∧ Aside0 (Below w.heap.size w wc))
 case first =>
  have H := HC2.out
  clear HC2
  by_cases c4 : a0_0 < 0
  ·rw [if_pos c4] at H
   have c4b0 : decide (a0_0 < 0) = true := decide_eq_true c4
   clear c4
   (first | rw [c4b0] | (simp only [i64_w, i32_w]; rw [c4b0]) | skip)
   have H' := Aside0.mk H
   clear H
   obtain ⟨hcz5_0, hcz5_1, hcz5_2, hcz5_3, -⟩ := cells_4 BK247.out trivial
   obtain ⟨hfz5_0, hfz5_1, hfz5_2, hfz5_3, -⟩ := frz_4 BK247.out
   go_wp2
   go_meet
   case rel => exact ⟨_, (true), rs_, H', ⟨by first | omega | exact Nat.le_refl _⟩, ⟨by (with_reducible repeat (first | refine blk_drewN ?_ _ | refine blk_drew ?_ | refine blk_alloc ?_ _)); exact BK247.out⟩, ⟨bel⟩⟩
  rw [if_neg c4] at H
  have c4b0 : decide (a0_0 < 0) = false := decide_eq_false c4
  clear c4
  (first | rw [c4b0] | (simp only [i64_w, i32_w]; rw [c4b0]) | skip)
  by_cases c6 : a0_0 > 7
  ·rw [if_pos c6] at H
   have c6b0 : decide (7 < a0_0) = true := decide_eq_true c6
   clear c6
   have H' := Aside0.mk H
   clear H
   obtain ⟨hcz7_0, hcz7_1, hcz7_2, hcz7_3, -⟩ := cells_4 BK247.out trivial
   obtain ⟨hfz7_0, hfz7_1, hfz7_2, hfz7_3, -⟩ := frz_4 BK247.out
   go_wp2
   go_meet
   case rel => exact ⟨_, (true), rs_, H', ⟨by first | omega | exact Nat.le_refl _⟩, ⟨by (with_reducible repeat (first | refine blk_drewN ?_ _ | refine blk_drew ?_ | refine blk_alloc ?_ _)); exact BK247.out⟩, ⟨bel⟩⟩
  rw [if_neg c6] at H
  have c6b0 : decide (7 < a0_0) = false := decide_eq_false c6
  clear c6
  replace H := Option.bind_eq_some_iff.mp H
  obtain ⟨t248, A80, H⟩ := H
  replace H : (if t248 = true then ((spec_l2index.f a0_3).bind fun t249 => (spec_OpOk.j0 k (!t249) a0_0 l0_1 l0_2 a0_3)) else (spec_OpOk.j0 k true a0_0 l0_1 l0_2 a0_3)) = some r := H
  have A8 := Aside0.mk A80
  clear A80
  by_cases c9 : t248 = true
  ·subst c9
   have H1 : ((spec_l2index.f a0_3).bind fun t249 => (spec_OpOk.j0 k (!t249) a0_0 l0_1 l0_2 a0_3)) = some r := by rw [if_pos rfl] at H; exact H
   clear H
   have H := H1
   clear H1
   replace H := Option.bind_eq_some_iff.mp H
   obtain ⟨t249, A100, H⟩ := H
   replace H : (spec_OpOk.j0 k (!t249) a0_0 l0_1 l0_2 a0_3) = some r := H
   have A10 := Aside0.mk A100
   clear A100
   have H' := Aside0.mk H
   clear H
   obtain ⟨hcz11_0, hcz11_1, hcz11_2, hcz11_3, -⟩ := cells_4 BK247.out trivial
   obtain ⟨hfz11_0, hfz11_1, hfz11_2, hfz11_3, -⟩ := frz_4 BK247.out
   go_wp2_with (first | (go_at_call 73; (with_reducible refine (spec_l2val.calls _ _ l0_2 true _ ?side1 ?side2 A8.out).mono ?_); (case side1 => exact kcb); (case side2 => exact HC0_2.out); rintro e w' ⟨rfl, ⟨nd, rfl⟩⟩) | (go_at_call 71; (with_reducible refine (spec_l2index.calls a0_3 t249 _ A10.out).mono ?_); rintro e w' ⟨rfl, ⟨nd, rfl⟩⟩))
   go_meet
   case rel => exact ⟨_, (!t249), rs_, H', ⟨by first | omega | exact Nat.le_refl _⟩, ⟨by (with_reducible repeat (first | refine blk_drewN ?_ _ | refine blk_drew ?_ | refine blk_alloc ?_ _)); exact BK247.out⟩, ⟨bel⟩⟩
  replace c9 := Bool.eq_false_iff.mpr c9
  subst c9
  have H1 : (spec_OpOk.j0 k true a0_0 l0_1 l0_2 a0_3) = some r := by rw [if_neg (show ¬ (false = true) by decide)] at H; exact H
  clear H
  have H := H1
  clear H1
  have H' := Aside0.mk H
  clear H
  obtain ⟨hcz12_0, hcz12_1, hcz12_2, hcz12_3, -⟩ := cells_4 BK247.out trivial
  obtain ⟨hfz12_0, hfz12_1, hfz12_2, hfz12_3, -⟩ := frz_4 BK247.out
  go_wp2_with (first | (go_at_call 73; (with_reducible refine (spec_l2val.calls _ _ l0_2 false _ ?side1 ?side2 A8.out).mono ?_); (case side1 => exact kcb); (case side2 => exact HC0_2.out); rintro e w' ⟨rfl, ⟨nd, rfl⟩⟩))
  go_meet
  case rel => exact ⟨_, (true), rs_, H', ⟨by first | omega | exact Nat.le_refl _⟩, ⟨by (with_reducible repeat (first | refine blk_drewN ?_ _ | refine blk_drew ?_ | refine blk_alloc ?_ _)); exact BK247.out⟩, ⟨bel⟩⟩
 case rest =>
  clear HC2
  try clear c1; try clear p2; try clear c4; try clear c4b0; try clear c6; try clear c6b0; try clear c9; try clear hcz11_0; try clear hcz11_1; try clear hcz11_2; try clear hcz11_3; try clear hcz12_0; try clear hcz12_1; try clear hcz12_2; try clear hcz12_3; try clear hcz5_0; try clear hcz5_1; try clear hcz5_2; try clear hcz5_3; try clear hcz7_0; try clear hcz7_1; try clear hcz7_2; try clear hcz7_3; try clear hfz11_0; try clear hfz11_1; try clear hfz11_2; try clear hfz11_3; try clear hfz12_0; try clear hfz12_1; try clear hfz12_2; try clear hfz12_3; try clear hfz5_0; try clear hfz5_1; try clear hfz5_2; try clear hfz5_3; try clear hfz7_0; try clear hfz7_1; try clear hfz7_2; try clear hfz7_3
  obtain ⟨kq, x24_1, rfl, HA, HJ1, BK247, HB⟩ := hcut
  cases kq with
  | zero => exact absurd HA.out (by simp [spec_OpOk.j0])
  | succ kj1 =>
   have H := HA.out
   clear HA
   simp only [spec_OpOk.j0] at H
   by_cases c13 : x24_1 = true
   ·subst c13
    have H1 : (some false) = some r := by rw [if_pos rfl] at H; exact H
    clear H
    have H := H1
    clear H1
    obtain rfl := Option.some.inj H
    go_wp2
    go_ret
    exact ⟨rz_, bel⟩
   replace c13 := Bool.eq_false_iff.mpr c13
   subst c13
   have H1 : (if a0_0 = 1 then (spec_OpOk.j1 kj1 true a0_0 l0_1 l0_2 a0_3) else (if a0_0 = 2 then (spec_OpOk.j1 kj1 true a0_0 l0_1 l0_2 a0_3) else (if a0_0 = 3 then (spec_OpOk.j1 kj1 true a0_0 l0_1 l0_2 a0_3) else (if a0_0 = 6 then (spec_OpOk.j1 kj1 true a0_0 l0_1 l0_2 a0_3) else (spec_OpOk.j1 kj1 (a0_0 == 7) a0_0 l0_1 l0_2 a0_3))))) = some r := by rw [if_neg (show ¬ (false = true) by decide)] at H; exact H
   clear H
   have H := H1
   clear H1
   have HC14 := Aside0.mk H
   clear H
   go_upto_region 3 with (fail)
   go_cut [3] (fun v3 wc => ∃ (kq : Nat) (x3_13 : Bool), v3 = .bool x3_13 ∧ Aside0 (spec_OpOk.j1 kq x3_13 a0_0 l0_1 l0_2 a0_3 = some r) ∧ Aside0 (kq ≤ kj1) ∧ Aside0 (wc.heap[gb247]? = some (.cells #[.int .i64 a0_0, (.slice A0_1 l0_1.length c0_1), (.slice A0_2 l0_2.length c0_2), .int .i64 a0_3] 143 (0, 0))) ∧ Aside0 (Below w.heap.size w wc))
   case first =>
    have H := HC14.out
    clear HC14
    by_cases c15 : a0_0 = 1
    ·rw [if_pos c15] at H
     have c15b0 : (a0_0 == 1) = true := beq_iff_eq.mpr c15
     have c15b1 : (a0_0 != 1) = false := bne_eq_false_iff_eq.mpr c15
     clear c15
     (first | rw [c15b0] | (simp only [i64_w, i32_w]; rw [c15b0]) | skip)
     have H' := Aside0.mk H
     clear H
     obtain ⟨hcz16_0, hcz16_1, hcz16_2, hcz16_3, -⟩ := cells_4 BK247.out trivial
     obtain ⟨hfz16_0, hfz16_1, hfz16_2, hfz16_3, -⟩ := frz_4 BK247.out
     go_wp2
     go_meet
     case rel => exact ⟨_, (true), rs_, H', ⟨by have := HJ1.out; first | omega | exact Nat.le_refl _⟩, ⟨by (with_reducible repeat (first | refine blk_drewN ?_ _ | refine blk_drew ?_ | refine blk_alloc ?_ _)); exact BK247.out⟩, ⟨bel⟩⟩
    rw [if_neg c15] at H
    have c15b0 : (a0_0 == 1) = false := beq_eq_false_iff_ne.mpr c15
    have c15b1 : (a0_0 != 1) = true := bne_iff_ne.mpr c15
    (first | rw [c15b0] | (simp only [i64_w, i32_w]; rw [c15b0]) | skip)
    by_cases c17 : a0_0 = 2
    ·rw [if_pos c17] at H
     have c17b0 : (a0_0 == 2) = true := beq_iff_eq.mpr c17
     have c17b1 : (a0_0 != 2) = false := bne_eq_false_iff_eq.mpr c17
     clear c17
     have H' := Aside0.mk H
     clear H
     obtain ⟨hcz18_0, hcz18_1, hcz18_2, hcz18_3, -⟩ := cells_4 BK247.out trivial
     obtain ⟨hfz18_0, hfz18_1, hfz18_2, hfz18_3, -⟩ := frz_4 BK247.out
     go_wp2
     go_meet
     case rel => exact ⟨_, (true), rs_, H', ⟨by have := HJ1.out; first | omega | exact Nat.le_refl _⟩, ⟨by (with_reducible repeat (first | refine blk_drewN ?_ _ | refine blk_drew ?_ | refine blk_alloc ?_ _)); exact BK247.out⟩, ⟨bel⟩⟩
    rw [if_neg c17] at H
    have c17b0 : (a0_0 == 2) = false := beq_eq_false_iff_ne.mpr c17
    have c17b1 : (a0_0 != 2) = true := bne_iff_ne.mpr c17
    by_cases c19 : a0_0 = 3
    ·rw [if_pos c19] at H
     have c19b0 : (a0_0 == 3) = true := beq_iff_eq.mpr c19
     have c19b1 : (a0_0 != 3) = false := bne_eq_false_iff_eq.mpr c19
     clear c19
     have H' := Aside0.mk H
     clear H
     obtain ⟨hcz20_0, hcz20_1, hcz20_2, hcz20_3, -⟩ := cells_4 BK247.out trivial
     obtain ⟨hfz20_0, hfz20_1, hfz20_2, hfz20_3, -⟩ := frz_4 BK247.out
     go_wp2
     go_meet
     case rel => exact ⟨_, (true), rs_, H', ⟨by have := HJ1.out; first | omega | exact Nat.le_refl _⟩, ⟨by (with_reducible repeat (first | refine blk_drewN ?_ _ | refine blk_drew ?_ | refine blk_alloc ?_ _)); exact BK247.out⟩, ⟨bel⟩⟩
    rw [if_neg c19] at H
    have c19b0 : (a0_0 == 3) = false := beq_eq_false_iff_ne.mpr c19
    have c19b1 : (a0_0 != 3) = true := bne_iff_ne.mpr c19
    by_cases c21 : a0_0 = 6
    ·rw [if_pos c21] at H
     have c21b0 : (a0_0 == 6) = true := beq_iff_eq.mpr c21
     have c21b1 : (a0_0 != 6) = false := bne_eq_false_iff_eq.mpr c21
     clear c21
     have H' := Aside0.mk H
     clear H
     obtain ⟨hcz22_0, hcz22_1, hcz22_2, hcz22_3, -⟩ := cells_4 BK247.out trivial
     obtain ⟨hfz22_0, hfz22_1, hfz22_2, hfz22_3, -⟩ := frz_4 BK247.out
     go_wp2
     go_meet
     case rel => exact ⟨_, (true), rs_, H', ⟨by have := HJ1.out; first | omega | exact Nat.le_refl _⟩, ⟨by (with_reducible repeat (first | refine blk_drewN ?_ _ | refine blk_drew ?_ | refine blk_alloc ?_ _)); exact BK247.out⟩, ⟨bel⟩⟩
    rw [if_neg c21] at H
    have c21b0 : (a0_0 == 6) = false := beq_eq_false_iff_ne.mpr c21
    have c21b1 : (a0_0 != 6) = true := bne_iff_ne.mpr c21
    have H' := Aside0.mk H
    clear H
    obtain ⟨hcz23_0, hcz23_1, hcz23_2, hcz23_3, -⟩ := cells_4 BK247.out trivial
    obtain ⟨hfz23_0, hfz23_1, hfz23_2, hfz23_3, -⟩ := frz_4 BK247.out
    go_wp2
    go_meet
    case rel => exact ⟨_, ((a0_0 == 7)), rs_, H', ⟨by have := HJ1.out; first | omega | exact Nat.le_refl _⟩, ⟨by (with_reducible repeat (first | refine blk_drewN ?_ _ | refine blk_drew ?_ | refine blk_alloc ?_ _)); exact BK247.out⟩, ⟨bel⟩⟩
   case rest =>
    clear HC14
    try clear c1; try clear c2; try clear p2; try clear c4; try clear c4b0; try clear c6; try clear c6b0; try clear c9; try clear c13; try clear c15; try clear c15b0; try clear c15b1; try clear c17; try clear c17b0; try clear c17b1; try clear c19; try clear c19b0; try clear c19b1; try clear c21; try clear c21b0; try clear c21b1; try clear hcz11_0; try clear hcz11_1; try clear hcz11_2; try clear hcz11_3; try clear hcz12_0; try clear hcz12_1; try clear hcz12_2; try clear hcz12_3; try clear hcz16_0; try clear hcz16_1; try clear hcz16_2; try clear hcz16_3; try clear hcz18_0; try clear hcz18_1; try clear hcz18_2; try clear hcz18_3; try clear hcz20_0; try clear hcz20_1; try clear hcz20_2; try clear hcz20_3; try clear hcz22_0; try clear hcz22_1; try clear hcz22_2; try clear hcz22_3; try clear hcz23_0; try clear hcz23_1; try clear hcz23_2; try clear hcz23_3; try clear hcz5_0; try clear hcz5_1; try clear hcz5_2; try clear hcz5_3; try clear hcz7_0; try clear hcz7_1; try clear hcz7_2; try clear hcz7_3; try clear hfz11_0; try clear hfz11_1; try clear hfz11_2; try clear hfz11_3; try clear hfz12_0; try clear hfz12_1; try clear hfz12_2; try clear hfz12_3; try clear hfz16_0; try clear hfz16_1; try clear hfz16_2; try clear hfz16_3; try clear hfz18_0; try clear hfz18_1; try clear hfz18_2; try clear hfz18_3; try clear hfz20_0; try clear hfz20_1; try clear hfz20_2; try clear hfz20_3; try clear hfz22_0; try clear hfz22_1; try clear hfz22_2; try clear hfz22_3; try clear hfz23_0; try clear hfz23_1; try clear hfz23_2; try clear hfz23_3; try clear hfz5_0; try clear hfz5_1; try clear hfz5_2; try clear hfz5_3; try clear hfz7_0; try clear hfz7_1; try clear hfz7_2; try clear hfz7_3; try clear p2
    obtain ⟨kq, x3_13, rfl, HA, HJ13, BK247, HB⟩ := hcut
    cases kq with
    | zero => exact absurd HA.out (by simp [spec_OpOk.j1])
    | succ kj13 =>
     have H := HA.out
     clear HA
     simp only [spec_OpOk.j1] at H
     have HC24 := Aside0.mk H
     clear H
     go_upto_region 4 with (fail)
     go_cut [64] (fun v64 wc => ∃ (kq : Nat) (x64_23 : Bool), v64 = .bool x64_23 ∧ Aside0 (spec_OpOk.j2 kq x64_23 a0_0 l0_1 l0_2 a0_3 = some r) ∧ Aside0 (kq ≤ kj13) ∧ Aside0 (wc.heap[gb247]? = some (.cells #[.int .i64 a0_0, (.slice A0_1 l0_1.length c0_1), (.slice A0_2 l0_2.length c0_2), .int .i64 a0_3] 143 (0, 0))) ∧ Aside0 (Below w.heap.size w wc))
     case first =>
      have H := HC24.out
      clear HC24
      by_cases c25 : x3_13 = true
      ·subst c25
       have H1 : ((spec_l2key.f kj13 l0_1).bind fun t250 => (if t250 = true then (spec_OpOk.j2 kj13 false a0_0 l0_1 l0_2 a0_3) else (spec_OpOk.j2 kj13 true a0_0 l0_1 l0_2 a0_3))) = some r := by rw [if_pos rfl] at H; exact H
       clear H
       have H := H1
       clear H1
       replace H := Option.bind_eq_some_iff.mp H
       obtain ⟨t250, A260, H⟩ := H
       replace H : (if t250 = true then (spec_OpOk.j2 kj13 false a0_0 l0_1 l0_2 a0_3) else (spec_OpOk.j2 kj13 true a0_0 l0_1 l0_2 a0_3)) = some r := H
       have A26 := Aside0.mk A260
       clear A260
       by_cases c27 : t250 = true
       ·subst c27
        have H1 : (spec_OpOk.j2 kj13 false a0_0 l0_1 l0_2 a0_3) = some r := by rw [if_pos rfl] at H; exact H
        clear H
        have H := H1
        clear H1
        have H' := Aside0.mk H
        clear H
        obtain ⟨hcz28_0, hcz28_1, hcz28_2, hcz28_3, -⟩ := cells_4 BK247.out trivial
        obtain ⟨hfz28_0, hfz28_1, hfz28_2, hfz28_3, -⟩ := frz_4 BK247.out
        go_wp2_with (first | (go_at_call 72; (with_reducible refine (spec_l2key.calls kj13 _ _ l0_1 true _ ?side1 ?side2 A26.out).mono ?_); (case side1 => exact kcb); (case side2 => exact HC0_1.out); rintro e w' ⟨rfl, ⟨nd, rfl⟩⟩))
        go_meet
        case rel => exact ⟨_, (false), rs_, H', ⟨by have := HJ1.out; have := HJ13.out; first | omega | exact Nat.le_refl _⟩, ⟨by (with_reducible repeat (first | refine blk_drewN ?_ _ | refine blk_drew ?_ | refine blk_alloc ?_ _)); exact BK247.out⟩, ⟨bel⟩⟩
       replace c27 := Bool.eq_false_iff.mpr c27
       subst c27
       have H1 : (spec_OpOk.j2 kj13 true a0_0 l0_1 l0_2 a0_3) = some r := by rw [if_neg (show ¬ (false = true) by decide)] at H; exact H
       clear H
       have H := H1
       clear H1
       have H' := Aside0.mk H
       clear H
       obtain ⟨hcz29_0, hcz29_1, hcz29_2, hcz29_3, -⟩ := cells_4 BK247.out trivial
       obtain ⟨hfz29_0, hfz29_1, hfz29_2, hfz29_3, -⟩ := frz_4 BK247.out
       go_wp2_with (first | (go_at_call 72; (with_reducible refine (spec_l2key.calls kj13 _ _ l0_1 false _ ?side1 ?side2 A26.out).mono ?_); (case side1 => exact kcb); (case side2 => exact HC0_1.out); rintro e w' ⟨rfl, ⟨nd, rfl⟩⟩))
       go_meet
       case rel => exact ⟨_, (true), rs_, H', ⟨by have := HJ1.out; have := HJ13.out; first | omega | exact Nat.le_refl _⟩, ⟨by (with_reducible repeat (first | refine blk_drewN ?_ _ | refine blk_drew ?_ | refine blk_alloc ?_ _)); exact BK247.out⟩, ⟨bel⟩⟩
      replace c25 := Bool.eq_false_iff.mpr c25
      subst c25
      have H1 : (spec_OpOk.j2 kj13 (decide ((l0_1.length : Int) > 0)) a0_0 l0_1 l0_2 a0_3) = some r := by rw [if_neg (show ¬ (false = true) by decide)] at H; exact H
      clear H
      have H := H1
      clear H1
      have H' := Aside0.mk H
      clear H
      obtain ⟨hcz30_0, hcz30_1, hcz30_2, hcz30_3, -⟩ := cells_4 BK247.out trivial
      obtain ⟨hfz30_0, hfz30_1, hfz30_2, hfz30_3, -⟩ := frz_4 BK247.out
      go_wp2
      go_meet
      case rel => exact ⟨_, (decide ((l0_1.length : Int) > 0)), rs_, H', ⟨by have := HJ1.out; have := HJ13.out; first | omega | exact Nat.le_refl _⟩, ⟨by (with_reducible repeat (first | refine blk_drewN ?_ _ | refine blk_drew ?_ | refine blk_alloc ?_ _)); exact BK247.out⟩, ⟨bel⟩⟩
     case rest =>
      clear HC24
      try clear c1; try clear c2; try clear p2; try clear c4; try clear c4b0; try clear c6; try clear c6b0; try clear c9; try clear c13; try clear c15; try clear c15b0; try clear c15b1; try clear c17; try clear c17b0; try clear c17b1; try clear c19; try clear c19b0; try clear c19b1; try clear c21; try clear c21b0; try clear c21b1; try clear c25; try clear c27; try clear hcz11_0; try clear hcz11_1; try clear hcz11_2; try clear hcz11_3; try clear hcz12_0; try clear hcz12_1; try clear hcz12_2; try clear hcz12_3; try clear hcz16_0; try clear hcz16_1; try clear hcz16_2; try clear hcz16_3; try clear hcz18_0; try clear hcz18_1; try clear hcz18_2; try clear hcz18_3; try clear hcz20_0; try clear hcz20_1; try clear hcz20_2; try clear hcz20_3; try clear hcz22_0; try clear hcz22_1; try clear hcz22_2; try clear hcz22_3; try clear hcz23_0; try clear hcz23_1; try clear hcz23_2; try clear hcz23_3; try clear hcz28_0; try clear hcz28_1; try clear hcz28_2; try clear hcz28_3; try clear hcz29_0; try clear hcz29_1; try clear hcz29_2; try clear hcz29_3; try clear hcz30_0; try clear hcz30_1; try clear hcz30_2; try clear hcz30_3; try clear hcz5_0; try clear hcz5_1; try clear hcz5_2; try clear hcz5_3; try clear hcz7_0; try clear hcz7_1; try clear hcz7_2; try clear hcz7_3; try clear hfz11_0; try clear hfz11_1; try clear hfz11_2; try clear hfz11_3; try clear hfz12_0; try clear hfz12_1; try clear hfz12_2; try clear hfz12_3; try clear hfz16_0; try clear hfz16_1; try clear hfz16_2; try clear hfz16_3; try clear hfz18_0; try clear hfz18_1; try clear hfz18_2; try clear hfz18_3; try clear hfz20_0; try clear hfz20_1; try clear hfz20_2; try clear hfz20_3; try clear hfz22_0; try clear hfz22_1; try clear hfz22_2; try clear hfz22_3; try clear hfz23_0; try clear hfz23_1; try clear hfz23_2; try clear hfz23_3; try clear hfz28_0; try clear hfz28_1; try clear hfz28_2; try clear hfz28_3; try clear hfz29_0; try clear hfz29_1; try clear hfz29_2; try clear hfz29_3; try clear hfz30_0; try clear hfz30_1; try clear hfz30_2; try clear hfz30_3; try clear hfz5_0; try clear hfz5_1; try clear hfz5_2; try clear hfz5_3; try clear hfz7_0; try clear hfz7_1; try clear hfz7_2; try clear hfz7_3; try clear p2
      obtain ⟨kq, x64_23, rfl, HA, HJ23, BK247, HB⟩ := hcut
      cases kq with
      | zero => exact absurd HA.out (by simp [spec_OpOk.j2])
      | succ kj23 =>
       have H := HA.out
       clear HA
       simp only [spec_OpOk.j2] at H
       by_cases c31 : x64_23 = true
       ·subst c31
        have H1 : (some false) = some r := by rw [if_pos rfl] at H; exact H
        clear H
        have H := H1
        clear H1
        obtain rfl := Option.some.inj H
        go_wp2
        go_ret
        exact ⟨rz_, bel⟩
       replace c31 := Bool.eq_false_iff.mpr c31
       subst c31
       have H1 : (if a0_0 = 1 then (spec_OpOk.j3 kj23 true a0_0 l0_1 l0_2 a0_3) else (if a0_0 = 2 then (spec_OpOk.j3 kj23 true a0_0 l0_1 l0_2 a0_3) else (spec_OpOk.j3 kj23 (a0_0 == 6) a0_0 l0_1 l0_2 a0_3))) = some r := by rw [if_neg (show ¬ (false = true) by decide)] at H; exact H
       clear H
       have H := H1
       clear H1
       have HC32 := Aside0.mk H
       clear H
       go_upto_region 6 with (fail)
       go_cut [4] (fun v4 wc => ∃ (kq : Nat) (x4_31 : Bool), v4 = .bool x4_31 ∧ Aside0 (spec_OpOk.j3 kq x4_31 a0_0 l0_1 l0_2 a0_3 = some r) ∧ Aside0 (kq ≤ kj23) ∧ Aside0 (wc.heap[gb247]? = some (.cells #[.int .i64 a0_0, (.slice A0_1 l0_1.length c0_1), (.slice A0_2 l0_2.length c0_2), .int .i64 a0_3] 143 (0, 0))) ∧ Aside0 (Below w.heap.size w wc))
       case first =>
        have H := HC32.out
        clear HC32
        by_cases c33 : a0_0 = 1
        ·rw [if_pos c33] at H
         have c33b0 : (a0_0 == 1) = true := beq_iff_eq.mpr c33
         have c33b1 : (a0_0 != 1) = false := bne_eq_false_iff_eq.mpr c33
         clear c33
         (first | rw [c33b0] | (simp only [i64_w, i32_w]; rw [c33b0]) | skip)
         have H' := Aside0.mk H
         clear H
         obtain ⟨hcz34_0, hcz34_1, hcz34_2, hcz34_3, -⟩ := cells_4 BK247.out trivial
         obtain ⟨hfz34_0, hfz34_1, hfz34_2, hfz34_3, -⟩ := frz_4 BK247.out
         go_wp2
         go_meet
         case rel => exact ⟨_, (true), rs_, H', ⟨by have := HJ1.out; have := HJ13.out; have := HJ23.out; first | omega | exact Nat.le_refl _⟩, ⟨by (with_reducible repeat (first | refine blk_drewN ?_ _ | refine blk_drew ?_ | refine blk_alloc ?_ _)); exact BK247.out⟩, ⟨bel⟩⟩
        rw [if_neg c33] at H
        have c33b0 : (a0_0 == 1) = false := beq_eq_false_iff_ne.mpr c33
        have c33b1 : (a0_0 != 1) = true := bne_iff_ne.mpr c33
        (first | rw [c33b0] | (simp only [i64_w, i32_w]; rw [c33b0]) | skip)
        by_cases c35 : a0_0 = 2
        ·rw [if_pos c35] at H
         have c35b0 : (a0_0 == 2) = true := beq_iff_eq.mpr c35
         have c35b1 : (a0_0 != 2) = false := bne_eq_false_iff_eq.mpr c35
         clear c35
         have H' := Aside0.mk H
         clear H
         obtain ⟨hcz36_0, hcz36_1, hcz36_2, hcz36_3, -⟩ := cells_4 BK247.out trivial
         obtain ⟨hfz36_0, hfz36_1, hfz36_2, hfz36_3, -⟩ := frz_4 BK247.out
         go_wp2
         go_meet
         case rel => exact ⟨_, (true), rs_, H', ⟨by have := HJ1.out; have := HJ13.out; have := HJ23.out; first | omega | exact Nat.le_refl _⟩, ⟨by (with_reducible repeat (first | refine blk_drewN ?_ _ | refine blk_drew ?_ | refine blk_alloc ?_ _)); exact BK247.out⟩, ⟨bel⟩⟩
        rw [if_neg c35] at H
        have c35b0 : (a0_0 == 2) = false := beq_eq_false_iff_ne.mpr c35
        have c35b1 : (a0_0 != 2) = true := bne_iff_ne.mpr c35
        have H' := Aside0.mk H
        clear H
        obtain ⟨hcz37_0, hcz37_1, hcz37_2, hcz37_3, -⟩ := cells_4 BK247.out trivial
        obtain ⟨hfz37_0, hfz37_1, hfz37_2, hfz37_3, -⟩ := frz_4 BK247.out
        go_wp2
        go_meet
        case rel => exact ⟨_, ((a0_0 == 6)), rs_, H', ⟨by have := HJ1.out; have := HJ13.out; have := HJ23.out; first | omega | exact Nat.le_refl _⟩, ⟨by (with_reducible repeat (first | refine blk_drewN ?_ _ | refine blk_drew ?_ | refine blk_alloc ?_ _)); exact BK247.out⟩, ⟨bel⟩⟩
       case rest =>
        clear HC32
        try clear c1; try clear c2; try clear p2; try clear c3; try clear c4; try clear c4b0; try clear c6; try clear c6b0; try clear c9; try clear c13; try clear c15; try clear c15b0; try clear c15b1; try clear c17; try clear c17b0; try clear c17b1; try clear c19; try clear c19b0; try clear c19b1; try clear c21; try clear c21b0; try clear c21b1; try clear c25; try clear c27; try clear c31; try clear c33; try clear c33b0; try clear c33b1; try clear c35; try clear c35b0; try clear c35b1; try clear hcz11_0; try clear hcz11_1; try clear hcz11_2; try clear hcz11_3; try clear hcz12_0; try clear hcz12_1; try clear hcz12_2; try clear hcz12_3; try clear hcz16_0; try clear hcz16_1; try clear hcz16_2; try clear hcz16_3; try clear hcz18_0; try clear hcz18_1; try clear hcz18_2; try clear hcz18_3; try clear hcz20_0; try clear hcz20_1; try clear hcz20_2; try clear hcz20_3; try clear hcz22_0; try clear hcz22_1; try clear hcz22_2; try clear hcz22_3; try clear hcz23_0; try clear hcz23_1; try clear hcz23_2; try clear hcz23_3; try clear hcz28_0; try clear hcz28_1; try clear hcz28_2; try clear hcz28_3; try clear hcz29_0; try clear hcz29_1; try clear hcz29_2; try clear hcz29_3; try clear hcz30_0; try clear hcz30_1; try clear hcz30_2; try clear hcz30_3; try clear hcz34_0; try clear hcz34_1; try clear hcz34_2; try clear hcz34_3; try clear hcz36_0; try clear hcz36_1; try clear hcz36_2; try clear hcz36_3; try clear hcz37_0; try clear hcz37_1; try clear hcz37_2; try clear hcz37_3; try clear hcz5_0; try clear hcz5_1; try clear hcz5_2; try clear hcz5_3; try clear hcz7_0; try clear hcz7_1; try clear hcz7_2; try clear hcz7_3; try clear hfz11_0; try clear hfz11_1; try clear hfz11_2; try clear hfz11_3; try clear hfz12_0; try clear hfz12_1; try clear hfz12_2; try clear hfz12_3; try clear hfz16_0; try clear hfz16_1; try clear hfz16_2; try clear hfz16_3; try clear hfz18_0; try clear hfz18_1; try clear hfz18_2; try clear hfz18_3; try clear hfz20_0; try clear hfz20_1; try clear hfz20_2; try clear hfz20_3; try clear hfz22_0; try clear hfz22_1; try clear hfz22_2; try clear hfz22_3; try clear hfz23_0; try clear hfz23_1; try clear hfz23_2; try clear hfz23_3; try clear hfz28_0; try clear hfz28_1; try clear hfz28_2; try clear hfz28_3; try clear hfz29_0; try clear hfz29_1; try clear hfz29_2; try clear hfz29_3; try clear hfz30_0; try clear hfz30_1; try clear hfz30_2; try clear hfz30_3; try clear hfz34_0; try clear hfz34_1; try clear hfz34_2; try clear hfz34_3; try clear hfz36_0; try clear hfz36_1; try clear hfz36_2; try clear hfz36_3; try clear hfz37_0; try clear hfz37_1; try clear hfz37_2; try clear hfz37_3; try clear hfz5_0; try clear hfz5_1; try clear hfz5_2; try clear hfz5_3; try clear hfz7_0; try clear hfz7_1; try clear hfz7_2; try clear hfz7_3; try clear p2
        obtain ⟨kq, x4_31, rfl, HA, HJ31, BK247, HB⟩ := hcut
        cases kq with
        | zero => exact absurd HA.out (by simp [spec_OpOk.j3])
        | succ kj31 =>
         have H := HA.out
         clear HA
         simp only [spec_OpOk.j3] at H
         have HC38 := Aside0.mk H
         clear H
         go_upto_region 7 with (fail)
         go_cut [85] (fun v85 wc => ∃ (kq : Nat) (x85_37 : Bool), v85 = .bool x85_37 ∧ Aside0 (spec_OpOk.j4 kq x85_37 a0_0 l0_1 l0_2 a0_3 = some r) ∧ Aside0 (kq ≤ kj31) ∧ Aside0 (wc.heap[gb247]? = some (.cells #[.int .i64 a0_0, (.slice A0_1 l0_1.length c0_1), (.slice A0_2 l0_2.length c0_2), .int .i64 a0_3] 143 (0, 0))) ∧ Aside0 (Below w.heap.size w wc))
         case first =>
          have H := HC38.out
          clear HC38
          by_cases c39 : x4_31 = true
          ·subst c39
           have H1 : (spec_OpOk.j4 kj31 false a0_0 l0_1 l0_2 a0_3) = some r := by rw [if_pos rfl] at H; exact H
           clear H
           have H := H1
           clear H1
           have H' := Aside0.mk H
           clear H
           go_wp2
           go_meet
           case rel => exact ⟨_, (false), rs_, H', ⟨by have := HJ1.out; have := HJ13.out; have := HJ23.out; have := HJ31.out; first | omega | exact Nat.le_refl _⟩, ⟨by (with_reducible repeat (first | refine blk_drewN ?_ _ | refine blk_drew ?_ | refine blk_alloc ?_ _)); exact BK247.out⟩, ⟨bel⟩⟩
          replace c39 := Bool.eq_false_iff.mpr c39
          subst c39
          have H1 : (spec_OpOk.j4 kj31 (decide ((l0_2.length : Int) > 0)) a0_0 l0_1 l0_2 a0_3) = some r := by rw [if_neg (show ¬ (false = true) by decide)] at H; exact H
          clear H
          have H := H1
          clear H1
          have H' := Aside0.mk H
          clear H
          obtain ⟨hcz40_0, hcz40_1, hcz40_2, hcz40_3, -⟩ := cells_4 BK247.out trivial
          obtain ⟨hfz40_0, hfz40_1, hfz40_2, hfz40_3, -⟩ := frz_4 BK247.out
          go_wp2
          go_meet
          case rel => exact ⟨_, (decide ((l0_2.length : Int) > 0)), rs_, H', ⟨by have := HJ1.out; have := HJ13.out; have := HJ23.out; have := HJ31.out; first | omega | exact Nat.le_refl _⟩, ⟨by (with_reducible repeat (first | refine blk_drewN ?_ _ | refine blk_drew ?_ | refine blk_alloc ?_ _)); exact BK247.out⟩, ⟨bel⟩⟩
         case rest =>
          clear HC38
          try clear c1; try clear c2; try clear p2; try clear c3; try clear c4; try clear c4b0; try clear c6; try clear c6b0; try clear c9; try clear c13; try clear c15; try clear c15b0; try clear c15b1; try clear c17; try clear c17b0; try clear c17b1; try clear c19; try clear c19b0; try clear c19b1; try clear c21; try clear c21b0; try clear c21b1; try clear c25; try clear c27; try clear c31; try clear c33; try clear c33b0; try clear c33b1; try clear c35; try clear c35b0; try clear c35b1; try clear c39; try clear hcz11_0; try clear hcz11_1; try clear hcz11_2; try clear hcz11_3; try clear hcz12_0; try clear hcz12_1; try clear hcz12_2; try clear hcz12_3; try clear hcz16_0; try clear hcz16_1; try clear hcz16_2; try clear hcz16_3; try clear hcz18_0; try clear hcz18_1; try clear hcz18_2; try clear hcz18_3; try clear hcz20_0; try clear hcz20_1; try clear hcz20_2; try clear hcz20_3; try clear hcz22_0; try clear hcz22_1; try clear hcz22_2; try clear hcz22_3; try clear hcz23_0; try clear hcz23_1; try clear hcz23_2; try clear hcz23_3; try clear hcz28_0; try clear hcz28_1; try clear hcz28_2; try clear hcz28_3; try clear hcz29_0; try clear hcz29_1; try clear hcz29_2; try clear hcz29_3; try clear hcz30_0; try clear hcz30_1; try clear hcz30_2; try clear hcz30_3; try clear hcz34_0; try clear hcz34_1; try clear hcz34_2; try clear hcz34_3; try clear hcz36_0; try clear hcz36_1; try clear hcz36_2; try clear hcz36_3; try clear hcz37_0; try clear hcz37_1; try clear hcz37_2; try clear hcz37_3; try clear hcz40_0; try clear hcz40_1; try clear hcz40_2; try clear hcz40_3; try clear hcz5_0; try clear hcz5_1; try clear hcz5_2; try clear hcz5_3; try clear hcz7_0; try clear hcz7_1; try clear hcz7_2; try clear hcz7_3; try clear hfz11_0; try clear hfz11_1; try clear hfz11_2; try clear hfz11_3; try clear hfz12_0; try clear hfz12_1; try clear hfz12_2; try clear hfz12_3; try clear hfz16_0; try clear hfz16_1; try clear hfz16_2; try clear hfz16_3; try clear hfz18_0; try clear hfz18_1; try clear hfz18_2; try clear hfz18_3; try clear hfz20_0; try clear hfz20_1; try clear hfz20_2; try clear hfz20_3; try clear hfz22_0; try clear hfz22_1; try clear hfz22_2; try clear hfz22_3; try clear hfz23_0; try clear hfz23_1; try clear hfz23_2; try clear hfz23_3; try clear hfz28_0; try clear hfz28_1; try clear hfz28_2; try clear hfz28_3; try clear hfz29_0; try clear hfz29_1; try clear hfz29_2; try clear hfz29_3; try clear hfz30_0; try clear hfz30_1; try clear hfz30_2; try clear hfz30_3; try clear hfz34_0; try clear hfz34_1; try clear hfz34_2; try clear hfz34_3; try clear hfz36_0; try clear hfz36_1; try clear hfz36_2; try clear hfz36_3; try clear hfz37_0; try clear hfz37_1; try clear hfz37_2; try clear hfz37_3; try clear hfz40_0; try clear hfz40_1; try clear hfz40_2; try clear hfz40_3; try clear hfz5_0; try clear hfz5_1; try clear hfz5_2; try clear hfz5_3; try clear hfz7_0; try clear hfz7_1; try clear hfz7_2; try clear hfz7_3; try clear p2
          obtain ⟨kq, x85_37, rfl, HA, HJ37, BK247, HB⟩ := hcut
          cases kq with
          | zero => exact absurd HA.out (by simp [spec_OpOk.j4])
          | succ kj37 =>
           have H := HA.out
           clear HA
           simp only [spec_OpOk.j4] at H
           by_cases c41 : x85_37 = true
           ·subst c41
            have H1 : (some false) = some r := by rw [if_pos rfl] at H; exact H
            clear H
            have H := H1
            clear H1
            obtain rfl := Option.some.inj H
            go_wp2
            go_ret
            exact ⟨rz_, bel⟩
           replace c41 := Bool.eq_false_iff.mpr c41
           subst c41
           have H1 : (if a0_0 = 0 then (spec_OpOk.j5 kj37 a0_0 (a0_0 == 0) a0_0 l0_1 l0_2 a0_3) else (if a0_0 = 1 then (spec_OpOk.j5 kj37 a0_0 (a0_0 == 1) a0_0 l0_1 l0_2 a0_3) else (spec_OpOk.j5 kj37 a0_0 (a0_0 == 3) a0_0 l0_1 l0_2 a0_3))) = some r := by rw [if_neg (show ¬ (false = true) by decide)] at H; exact H
           clear H
           have H := H1
           clear H1
           have HC42 := Aside0.mk H
           clear H
           obtain ⟨hcz43_0, hcz43_1, hcz43_2, hcz43_3, -⟩ := cells_4 BK247.out trivial
           obtain ⟨hfz43_0, hfz43_1, hfz43_2, hfz43_3, -⟩ := frz_4 BK247.out
           go_upto_if 88 with (fail)
           go_cut [88] (fun v88 wc => ∃ (kq : Nat) (x88_41 : Bool), v88 = .bool x88_41 ∧ Aside0 (spec_OpOk.j5 kq a0_0 x88_41 a0_0 l0_1 l0_2 a0_3 = some r) ∧ Aside0 (kq ≤ kj37) ∧ Aside0 (wc.heap[gb247]? = some (.cells #[.int .i64 a0_0, (.slice A0_1 l0_1.length c0_1), (.slice A0_2 l0_2.length c0_2), .int .i64 a0_3] 143 (0, 0))) ∧ Aside0 (Below w.heap.size w wc))
           case first =>
            have H := HC42.out
            clear HC42
            by_cases c44 : a0_0 = 0
            ·rw [if_pos c44] at H
             have c44b0 : (a0_0 == 0) = true := beq_iff_eq.mpr c44
             have c44b1 : (a0_0 != 0) = false := bne_eq_false_iff_eq.mpr c44
             clear c44
             (first | rw [c44b0] | (simp only [i64_w, i32_w]; rw [c44b0]) | skip)
             have H' := Aside0.mk H
             clear H
             go_wp2
             go_meet
             case rel => exact ⟨_, ((a0_0 == 0)), rs_, H', ⟨by have := HJ1.out; have := HJ13.out; have := HJ23.out; have := HJ31.out; have := HJ37.out; first | omega | exact Nat.le_refl _⟩, ⟨by (with_reducible repeat (first | refine blk_drewN ?_ _ | refine blk_drew ?_ | refine blk_alloc ?_ _)); exact BK247.out⟩, ⟨bel⟩⟩
            rw [if_neg c44] at H
            have c44b0 : (a0_0 == 0) = false := beq_eq_false_iff_ne.mpr c44
            have c44b1 : (a0_0 != 0) = true := bne_iff_ne.mpr c44
            (first | rw [c44b0] | (simp only [i64_w, i32_w]; rw [c44b0]) | skip)
            by_cases c45 : a0_0 = 1
            ·rw [if_pos c45] at H
             have c45b0 : (a0_0 == 1) = true := beq_iff_eq.mpr c45
             have c45b1 : (a0_0 != 1) = false := bne_eq_false_iff_eq.mpr c45
             clear c45
             have H' := Aside0.mk H
             clear H
             go_wp2
             go_meet
             case rel => exact ⟨_, ((a0_0 == 1)), rs_, H', ⟨by have := HJ1.out; have := HJ13.out; have := HJ23.out; have := HJ31.out; have := HJ37.out; first | omega | exact Nat.le_refl _⟩, ⟨by (with_reducible repeat (first | refine blk_drewN ?_ _ | refine blk_drew ?_ | refine blk_alloc ?_ _)); exact BK247.out⟩, ⟨bel⟩⟩
            rw [if_neg c45] at H
            have c45b0 : (a0_0 == 1) = false := beq_eq_false_iff_ne.mpr c45
            have c45b1 : (a0_0 != 1) = true := bne_iff_ne.mpr c45
            have H' := Aside0.mk H
            clear H
            go_wp2
            go_meet
            case rel => exact ⟨_, ((a0_0 == 3)), rs_, H', ⟨by have := HJ1.out; have := HJ13.out; have := HJ23.out; have := HJ31.out; have := HJ37.out; first | omega | exact Nat.le_refl _⟩, ⟨by (with_reducible repeat (first | refine blk_drewN ?_ _ | refine blk_drew ?_ | refine blk_alloc ?_ _)); exact BK247.out⟩, ⟨bel⟩⟩
           case rest =>
            clear HC42
            try clear c1; try clear c2; try clear p2; try clear c3; try clear c4; try clear c4b0; try clear c6; try clear c6b0; try clear c9; try clear c13; try clear c15; try clear c15b0; try clear c15b1; try clear c17; try clear c17b0; try clear c17b1; try clear c19; try clear c19b0; try clear c19b1; try clear c21; try clear c21b0; try clear c21b1; try clear c25; try clear c27; try clear c31; try clear c33; try clear c33b0; try clear c33b1; try clear c35; try clear c35b0; try clear c35b1; try clear c39; try clear c41; try clear c44; try clear c44b0; try clear c44b1; try clear c45; try clear c45b0; try clear c45b1; try clear hcz11_0; try clear hcz11_1; try clear hcz11_2; try clear hcz11_3; try clear hcz12_0; try clear hcz12_1; try clear hcz12_2; try clear hcz12_3; try clear hcz16_0; try clear hcz16_1; try clear hcz16_2; try clear hcz16_3; try clear hcz18_0; try clear hcz18_1; try clear hcz18_2; try clear hcz18_3; try clear hcz20_0; try clear hcz20_1; try clear hcz20_2; try clear hcz20_3; try clear hcz22_0; try clear hcz22_1; try clear hcz22_2; try clear hcz22_3; try clear hcz23_0; try clear hcz23_1; try clear hcz23_2; try clear hcz23_3; try clear hcz28_0; try clear hcz28_1; try clear hcz28_2; try clear hcz28_3; try clear hcz29_0; try clear hcz29_1; try clear hcz29_2; try clear hcz29_3; try clear hcz30_0; try clear hcz30_1; try clear hcz30_2; try clear hcz30_3; try clear hcz34_0; try clear hcz34_1; try clear hcz34_2; try clear hcz34_3; try clear hcz36_0; try clear hcz36_1; try clear hcz36_2; try clear hcz36_3; try clear hcz37_0; try clear hcz37_1; try clear hcz37_2; try clear hcz37_3; try clear hcz40_0; try clear hcz40_1; try clear hcz40_2; try clear hcz40_3; try clear hcz43_0; try clear hcz43_1; try clear hcz43_2; try clear hcz43_3; try clear hcz5_0; try clear hcz5_1; try clear hcz5_2; try clear hcz5_3; try clear hcz7_0; try clear hcz7_1; try clear hcz7_2; try clear hcz7_3; try clear hfz11_0; try clear hfz11_1; try clear hfz11_2; try clear hfz11_3; try clear hfz12_0; try clear hfz12_1; try clear hfz12_2; try clear hfz12_3; try clear hfz16_0; try clear hfz16_1; try clear hfz16_2; try clear hfz16_3; try clear hfz18_0; try clear hfz18_1; try clear hfz18_2; try clear hfz18_3; try clear hfz20_0; try clear hfz20_1; try clear hfz20_2; try clear hfz20_3; try clear hfz22_0; try clear hfz22_1; try clear hfz22_2; try clear hfz22_3; try clear hfz23_0; try clear hfz23_1; try clear hfz23_2; try clear hfz23_3; try clear hfz28_0; try clear hfz28_1; try clear hfz28_2; try clear hfz28_3; try clear hfz29_0; try clear hfz29_1; try clear hfz29_2; try clear hfz29_3; try clear hfz30_0; try clear hfz30_1; try clear hfz30_2; try clear hfz30_3; try clear hfz34_0; try clear hfz34_1; try clear hfz34_2; try clear hfz34_3; try clear hfz36_0; try clear hfz36_1; try clear hfz36_2; try clear hfz36_3; try clear hfz37_0; try clear hfz37_1; try clear hfz37_2; try clear hfz37_3; try clear hfz40_0; try clear hfz40_1; try clear hfz40_2; try clear hfz40_3; try clear hfz43_0; try clear hfz43_1; try clear hfz43_2; try clear hfz43_3; try clear hfz5_0; try clear hfz5_1; try clear hfz5_2; try clear hfz5_3; try clear hfz7_0; try clear hfz7_1; try clear hfz7_2; try clear hfz7_3; try clear p2
            obtain ⟨kq, x88_41, rfl, HA, HJ41, BK247, HB⟩ := hcut
            cases kq with
            | zero => exact absurd HA.out (by simp [spec_OpOk.j5])
            | succ kj41 =>
             have H := HA.out
             clear HA
             simp only [spec_OpOk.j5] at H
             by_cases c46 : x88_41 = true
             ·subst c46
              have H1 : (some (a0_3 == 0)) = some r := by rw [if_pos rfl] at H; exact H
              clear H
              have H := H1
              clear H1
              obtain rfl := Option.some.inj H
              obtain ⟨hcz47_0, hcz47_1, hcz47_2, hcz47_3, -⟩ := cells_4 BK247.out trivial
              obtain ⟨hfz47_0, hfz47_1, hfz47_2, hfz47_3, -⟩ := frz_4 BK247.out
              go_wp2
              go_ret
              exact ⟨rz_, bel⟩
             replace c46 := Bool.eq_false_iff.mpr c46
             subst c46
             have H1 : (if a0_0 = 4 then (some (decide (a0_3 ≤ 1))) else (if a0_0 = 2 then (some true) else (some (decide (a0_3 ≥ 1))))) = some r := by rw [if_neg (show ¬ (false = true) by decide)] at H; exact H
             clear H
             have H := H1
             clear H1
             by_cases c48 : a0_0 = 4
             ·rw [if_pos c48] at H
              have c48b0 : (a0_0 == 4) = true := beq_iff_eq.mpr c48
              have c48b1 : (a0_0 != 4) = false := bne_eq_false_iff_eq.mpr c48
              clear c48
              obtain rfl := Option.some.inj H
              obtain ⟨hcz49_0, hcz49_1, hcz49_2, hcz49_3, -⟩ := cells_4 BK247.out trivial
              obtain ⟨hfz49_0, hfz49_1, hfz49_2, hfz49_3, -⟩ := frz_4 BK247.out
              go_wp2
              go_ret
              exact ⟨rz_, bel⟩
             rw [if_neg c48] at H
             have c48b0 : (a0_0 == 4) = false := beq_eq_false_iff_ne.mpr c48
             have c48b1 : (a0_0 != 4) = true := bne_iff_ne.mpr c48
             by_cases c50 : a0_0 = 2
             ·rw [if_pos c50] at H
              have c50b0 : (a0_0 == 2) = true := beq_iff_eq.mpr c50
              have c50b1 : (a0_0 != 2) = false := bne_eq_false_iff_eq.mpr c50
              clear c50
              obtain rfl := Option.some.inj H
              go_wp2
              go_ret
              exact ⟨rz_, bel⟩
             rw [if_neg c50] at H
             have c50b0 : (a0_0 == 2) = false := beq_eq_false_iff_ne.mpr c50
             have c50b1 : (a0_0 != 2) = true := bne_iff_ne.mpr c50
             obtain rfl := Option.some.inj H
             obtain ⟨hcz51_0, hcz51_1, hcz51_2, hcz51_3, -⟩ := cells_4 BK247.out trivial
             obtain ⟨hfz51_0, hfz51_1, hfz51_2, hfz51_3, -⟩ := frz_4 BK247.out
             go_wp2
             go_ret
             exact ⟨rz_, bel⟩

/-! ### spec_CmdOk: function 171 -/
def spec_CmdOk.f (k : Nat) (a0_0 : Int) (a0_1 : Int) (a0_2 : Int) (l0_3 : List Int) (l0_4 : List Int) (a0_5 : Int) : Option (Bool) := if a0_0 = (-1) then (if a0_1 = 0 then (if a0_2 = 0 then ((spec_OpOk.f k a0_2 l0_3 l0_4 a0_5).bind fun t252 => (some t252)) else (some false)) else (some false)) else (if a0_0 ≥ 0 then (if a0_0 < 4 then (if a0_1 ≥ 1 then (if a0_1 ≤ 1000000 then ((spec_OpOk.f k a0_2 l0_3 l0_4 a0_5).bind fun t253 => (some t253)) else (some false)) else (some false)) else (some false)) else (some false))
set_option maxHeartbeats 8000000 in
set_option maxRecDepth 100000 in
theorem spec_CmdOk.calls (k : Nat) (a0_0 : Int) (a0_1 : Int) (a0_2 : Int) (A0_3 : Option Addr) (c0_3 : Nat) (l0_3 : List Int) (A0_4 : Option Addr) (c0_4 : Nat) (l0_4 : List Int) (a0_5 : Int) (r : Bool) (w : World) (hr0_3 : Kd.C (Kd.int .u8) w A0_3 l0_3.length l0_3) (hc0_3 : l0_3.length ≤ c0_3) (hr0_4 : Kd.C (Kd.int .u8) w A0_4 l0_4.length l0_4) (hc0_4 : l0_4.length ≤ c0_4) (h : spec_CmdOk.f k a0_0 a0_1 a0_2 l0_3 l0_4 a0_5 = some r) :
  Calls Try.prog 171 #[.agg #[.int .i64 a0_0, .int .i64 a0_1, .int .i64 a0_2, .slice A0_3 l0_3.length c0_3, .slice A0_4 l0_4.length c0_4, .int .i64 a0_5]] w fun e w' => e = .returned (.bool r) ∧ Below w.heap.size w w' := by
 have hu145 := Try.underlying145
 have hu143 := Try.underlying143
 have HR0_3 := Aside0.mk hr0_3
 have HC0_3 := Aside0.mk hc0_3
 clear hr0_3 hc0_3
 have HR0_4 := Aside0.mk hr0_4
 have HC0_4 := Aside0.mk hc0_4
 clear hr0_4 hc0_4
 have HB := Aside0.mk (Below.refl w.heap.size w)
 have H : (if a0_0 = (-1) then (if a0_1 = 0 then (if a0_2 = 0 then ((spec_OpOk.f k a0_2 l0_3 l0_4 a0_5).bind fun t252 => (some t252)) else (some false)) else (some false)) else (if a0_0 ≥ 0 then (if a0_0 < 4 then (if a0_1 ≥ 1 then (if a0_1 ≤ 1000000 then ((spec_OpOk.f k a0_2 l0_3 l0_4 a0_5).bind fun t253 => (some t253)) else (some false)) else (some false)) else (some false)) else (some false))) = some r := h
 clear h
 by_cases c2 : a0_0 = (-1)
 ·rw [if_pos c2] at H
  have c2b0 : (a0_0 == (-1)) = true := beq_iff_eq.mpr c2
  have c2b1 : (a0_0 != (-1)) = false := bne_eq_false_iff_eq.mpr c2
  clear c2
  by_cases c3 : a0_1 = 0
  ·rw [if_pos c3] at H
   have c3b0 : (a0_1 == 0) = true := beq_iff_eq.mpr c3
   have c3b1 : (a0_1 != 0) = false := bne_eq_false_iff_eq.mpr c3
   clear c3
   by_cases c4 : a0_2 = 0
   ·rw [if_pos c4] at H
    have c4b0 : (a0_2 == 0) = true := beq_iff_eq.mpr c4
    have c4b1 : (a0_2 != 0) = false := bne_eq_false_iff_eq.mpr c4
    clear c4
    replace H := Option.bind_eq_some_iff.mp H
    obtain ⟨t252, A50, H⟩ := H
    replace H : (some t252) = some r := H
    have A5 := Aside0.mk A50
    clear A50
    obtain rfl := Option.some.inj H
    go_enter Try.func171, Try.ntmps171
    go_wp2_with (first | ((with_reducible refine gate_dst (N := 1) rfl ?_); refine bx_ 1 #[.int .i64 a0_0, .int .i64 a0_1, .int .i64 a0_2, .slice A0_3 l0_3.length c0_3, .slice A0_4 l0_4.length c0_4, .int .i64 a0_5] 145 (h := ?_); intro gb251 hg w6 hbox hb; have BK251 := Aside0.mk (hbox); have GW251 := Aside0.mk ((by rw [hg]; exact (below_size bel) : w.heap.size ≤ gb251)); have GE251 := GW251; replace HB := Aside0.mk (below_step bel hb); clear hb hbox hg; obtain ⟨hcz7_0, hcz7_1, hcz7_2, hcz7_3, hcz7_4, hcz7_5, -⟩ := cells_6 BK251.out trivial; obtain ⟨hfz7_0, hfz7_1, hfz7_2, hfz7_3, hfz7_4, hfz7_5, -⟩ := frz_6 BK251.out) | (go_at_call 190; (with_reducible refine (spec_OpOk.calls k a0_2 _ _ l0_3 _ _ l0_4 a0_5 t252 _ ?side1 ?side2 ?side3 ?side4 A5.out).mono ?_); (case side1 => exact kcb); (case side2 => exact HC0_3.out); (case side3 => exact kcb); (case side4 => exact HC0_4.out); rintro e w8 ⟨rfl, hb⟩; replace BK251 := Aside0.mk (blb BK251 hb); replace HB := Aside0.mk (below_step bel hb); (try clear hb); (try clear hb2); (try clear hk); (try clear hi)))
    go_ret
    exact ⟨rz_, bel⟩
   rw [if_neg c4] at H
   have c4b0 : (a0_2 == 0) = false := beq_eq_false_iff_ne.mpr c4
   have c4b1 : (a0_2 != 0) = true := bne_iff_ne.mpr c4
   obtain rfl := Option.some.inj H
   go_enter Try.func171, Try.ntmps171
   go_wp2_with (first | ((with_reducible refine gate_dst (N := 1) rfl ?_); refine bx_ 1 #[.int .i64 a0_0, .int .i64 a0_1, .int .i64 a0_2, .slice A0_3 l0_3.length c0_3, .slice A0_4 l0_4.length c0_4, .int .i64 a0_5] 145 (h := ?_); intro gb251 hg w9 hbox hb; have BK251 := Aside0.mk (hbox); have GW251 := Aside0.mk ((by rw [hg]; exact (below_size bel) : w.heap.size ≤ gb251)); have GE251 := GW251; replace HB := Aside0.mk (below_step bel hb); clear hb hbox hg; obtain ⟨hcz10_0, hcz10_1, hcz10_2, hcz10_3, hcz10_4, hcz10_5, -⟩ := cells_6 BK251.out trivial; obtain ⟨hfz10_0, hfz10_1, hfz10_2, hfz10_3, hfz10_4, hfz10_5, -⟩ := frz_6 BK251.out))
   go_ret
   exact ⟨rz_, bel⟩
  rw [if_neg c3] at H
  have c3b0 : (a0_1 == 0) = false := beq_eq_false_iff_ne.mpr c3
  have c3b1 : (a0_1 != 0) = true := bne_iff_ne.mpr c3
  obtain rfl := Option.some.inj H
  go_enter Try.func171, Try.ntmps171
  go_wp2_with (first | ((with_reducible refine gate_dst (N := 1) rfl ?_); refine bx_ 1 #[.int .i64 a0_0, .int .i64 a0_1, .int .i64 a0_2, .slice A0_3 l0_3.length c0_3, .slice A0_4 l0_4.length c0_4, .int .i64 a0_5] 145 (h := ?_); intro gb251 hg w11 hbox hb; have BK251 := Aside0.mk (hbox); have GW251 := Aside0.mk ((by rw [hg]; exact (below_size bel) : w.heap.size ≤ gb251)); have GE251 := GW251; replace HB := Aside0.mk (below_step bel hb); clear hb hbox hg; obtain ⟨hcz12_0, hcz12_1, hcz12_2, hcz12_3, hcz12_4, hcz12_5, -⟩ := cells_6 BK251.out trivial; obtain ⟨hfz12_0, hfz12_1, hfz12_2, hfz12_3, hfz12_4, hfz12_5, -⟩ := frz_6 BK251.out))
  go_ret
  exact ⟨rz_, bel⟩
 rw [if_neg c2] at H
 have c2b0 : (a0_0 == (-1)) = false := beq_eq_false_iff_ne.mpr c2
 have c2b1 : (a0_0 != (-1)) = true := bne_iff_ne.mpr c2
 by_cases c13 : a0_0 ≥ 0
 ·rw [if_pos c13] at H
  have c13b0 : decide (0 ≤ a0_0) = true := decide_eq_true c13
  clear c13
  by_cases c14 : a0_0 < 4
  ·rw [if_pos c14] at H
   have c14b0 : decide (a0_0 < 4) = true := decide_eq_true c14
   clear c14
   by_cases c15 : a0_1 ≥ 1
   ·rw [if_pos c15] at H
    have c15b0 : decide (1 ≤ a0_1) = true := decide_eq_true c15
    clear c15
    by_cases c16 : a0_1 ≤ 1000000
    ·rw [if_pos c16] at H
     have c16b0 : decide (a0_1 ≤ 1000000) = true := decide_eq_true c16
     clear c16
     replace H := Option.bind_eq_some_iff.mp H
     obtain ⟨t253, A170, H⟩ := H
     replace H : (some t253) = some r := H
     have A17 := Aside0.mk A170
     clear A170
     obtain rfl := Option.some.inj H
     go_enter Try.func171, Try.ntmps171
     go_wp2_with (first | ((with_reducible refine gate_dst (N := 1) rfl ?_); refine bx_ 1 #[.int .i64 a0_0, .int .i64 a0_1, .int .i64 a0_2, .slice A0_3 l0_3.length c0_3, .slice A0_4 l0_4.length c0_4, .int .i64 a0_5] 145 (h := ?_); intro gb251 hg w18 hbox hb; have BK251 := Aside0.mk (hbox); have GW251 := Aside0.mk ((by rw [hg]; exact (below_size bel) : w.heap.size ≤ gb251)); have GE251 := GW251; replace HB := Aside0.mk (below_step bel hb); clear hb hbox hg; obtain ⟨hcz19_0, hcz19_1, hcz19_2, hcz19_3, hcz19_4, hcz19_5, -⟩ := cells_6 BK251.out trivial; obtain ⟨hfz19_0, hfz19_1, hfz19_2, hfz19_3, hfz19_4, hfz19_5, -⟩ := frz_6 BK251.out) | (go_at_call 190; (with_reducible refine (spec_OpOk.calls k a0_2 _ _ l0_3 _ _ l0_4 a0_5 t253 _ ?side1 ?side2 ?side3 ?side4 A17.out).mono ?_); (case side1 => exact kcb); (case side2 => exact HC0_3.out); (case side3 => exact kcb); (case side4 => exact HC0_4.out); rintro e w20 ⟨rfl, hb⟩; replace BK251 := Aside0.mk (blb BK251 hb); replace HB := Aside0.mk (below_step bel hb); (try clear hb); (try clear hb2); (try clear hk); (try clear hi)))
     go_ret
     exact ⟨rz_, bel⟩
    rw [if_neg c16] at H
    have c16b0 : decide (a0_1 ≤ 1000000) = false := decide_eq_false c16
    clear c16
    obtain rfl := Option.some.inj H
    go_enter Try.func171, Try.ntmps171
    go_wp2_with (first | ((with_reducible refine gate_dst (N := 1) rfl ?_); refine bx_ 1 #[.int .i64 a0_0, .int .i64 a0_1, .int .i64 a0_2, .slice A0_3 l0_3.length c0_3, .slice A0_4 l0_4.length c0_4, .int .i64 a0_5] 145 (h := ?_); intro gb251 hg w21 hbox hb; have BK251 := Aside0.mk (hbox); have GW251 := Aside0.mk ((by rw [hg]; exact (below_size bel) : w.heap.size ≤ gb251)); have GE251 := GW251; replace HB := Aside0.mk (below_step bel hb); clear hb hbox hg; obtain ⟨hcz22_0, hcz22_1, hcz22_2, hcz22_3, hcz22_4, hcz22_5, -⟩ := cells_6 BK251.out trivial; obtain ⟨hfz22_0, hfz22_1, hfz22_2, hfz22_3, hfz22_4, hfz22_5, -⟩ := frz_6 BK251.out))
    go_ret
    exact ⟨rz_, bel⟩
   rw [if_neg c15] at H
   have c15b0 : decide (1 ≤ a0_1) = false := decide_eq_false c15
   clear c15
   obtain rfl := Option.some.inj H
   go_enter Try.func171, Try.ntmps171
   go_wp2_with (first | ((with_reducible refine gate_dst (N := 1) rfl ?_); refine bx_ 1 #[.int .i64 a0_0, .int .i64 a0_1, .int .i64 a0_2, .slice A0_3 l0_3.length c0_3, .slice A0_4 l0_4.length c0_4, .int .i64 a0_5] 145 (h := ?_); intro gb251 hg w23 hbox hb; have BK251 := Aside0.mk (hbox); have GW251 := Aside0.mk ((by rw [hg]; exact (below_size bel) : w.heap.size ≤ gb251)); have GE251 := GW251; replace HB := Aside0.mk (below_step bel hb); clear hb hbox hg; obtain ⟨hcz24_0, hcz24_1, hcz24_2, hcz24_3, hcz24_4, hcz24_5, -⟩ := cells_6 BK251.out trivial; obtain ⟨hfz24_0, hfz24_1, hfz24_2, hfz24_3, hfz24_4, hfz24_5, -⟩ := frz_6 BK251.out))
   go_ret
   exact ⟨rz_, bel⟩
  rw [if_neg c14] at H
  have c14b0 : decide (a0_0 < 4) = false := decide_eq_false c14
  clear c14
  obtain rfl := Option.some.inj H
  go_enter Try.func171, Try.ntmps171
  go_wp2_with (first | ((with_reducible refine gate_dst (N := 1) rfl ?_); refine bx_ 1 #[.int .i64 a0_0, .int .i64 a0_1, .int .i64 a0_2, .slice A0_3 l0_3.length c0_3, .slice A0_4 l0_4.length c0_4, .int .i64 a0_5] 145 (h := ?_); intro gb251 hg w25 hbox hb; have BK251 := Aside0.mk (hbox); have GW251 := Aside0.mk ((by rw [hg]; exact (below_size bel) : w.heap.size ≤ gb251)); have GE251 := GW251; replace HB := Aside0.mk (below_step bel hb); clear hb hbox hg; obtain ⟨hcz26_0, hcz26_1, hcz26_2, hcz26_3, hcz26_4, hcz26_5, -⟩ := cells_6 BK251.out trivial; obtain ⟨hfz26_0, hfz26_1, hfz26_2, hfz26_3, hfz26_4, hfz26_5, -⟩ := frz_6 BK251.out))
  go_ret
  exact ⟨rz_, bel⟩
 rw [if_neg c13] at H
 have c13b0 : decide (0 ≤ a0_0) = false := decide_eq_false c13
 clear c13
 obtain rfl := Option.some.inj H
 go_enter Try.func171, Try.ntmps171
 go_wp2_with (first | ((with_reducible refine gate_dst (N := 1) rfl ?_); refine bx_ 1 #[.int .i64 a0_0, .int .i64 a0_1, .int .i64 a0_2, .slice A0_3 l0_3.length c0_3, .slice A0_4 l0_4.length c0_4, .int .i64 a0_5] 145 (h := ?_); intro gb251 hg w27 hbox hb; have BK251 := Aside0.mk (hbox); have GW251 := Aside0.mk ((by rw [hg]; exact (below_size bel) : w.heap.size ≤ gb251)); have GE251 := GW251; replace HB := Aside0.mk (below_step bel hb); clear hb hbox hg; obtain ⟨hcz28_0, hcz28_1, hcz28_2, hcz28_3, hcz28_4, hcz28_5, -⟩ := cells_6 BK251.out trivial; obtain ⟨hfz28_0, hfz28_1, hfz28_2, hfz28_3, hfz28_4, hfz28_5, -⟩ := frz_6 BK251.out))
 go_ret
 exact ⟨rz_, bel⟩

/-! ### spec_ItemOk: function 110 -/
def spec_ItemOk.f (k : Nat) (a0_0 : Int) (a0_1 : Int) (a0_2 : Int) (a0_3 : Int) (l0_4 : List Int) (l0_5 : List Int) (a0_6 : Int) : Option (Bool) := if a0_0 ≥ 1 then (if a0_0 ≤ 100000 then ((spec_CmdOk.f k a0_1 a0_2 a0_3 l0_4 l0_5 a0_6).bind fun t255 => (some t255)) else (some false)) else (some false)
set_option maxHeartbeats 8000000 in
set_option maxRecDepth 100000 in
theorem spec_ItemOk.calls (k : Nat) (a0_0 : Int) (a0_1 : Int) (a0_2 : Int) (a0_3 : Int) (A0_4 : Option Addr) (c0_4 : Nat) (l0_4 : List Int) (A0_5 : Option Addr) (c0_5 : Nat) (l0_5 : List Int) (a0_6 : Int) (r : Bool) (w : World) (hr0_4 : Kd.C (Kd.int .u8) w A0_4 l0_4.length l0_4) (hc0_4 : l0_4.length ≤ c0_4) (hr0_5 : Kd.C (Kd.int .u8) w A0_5 l0_5.length l0_5) (hc0_5 : l0_5.length ≤ c0_5) (h : spec_ItemOk.f k a0_0 a0_1 a0_2 a0_3 l0_4 l0_5 a0_6 = some r) :
  Calls Try.prog 110 #[.agg #[.int .i64 a0_0, .int .i64 a0_1, .int .i64 a0_2, .int .i64 a0_3, .slice A0_4 l0_4.length c0_4, .slice A0_5 l0_5.length c0_5, .int .i64 a0_6]] w fun e w' => e = .returned (.bool r) ∧ Below w.heap.size w w' := by
 have hu147 := Try.underlying147
 have hu145 := Try.underlying145
 have HR0_4 := Aside0.mk hr0_4
 have HC0_4 := Aside0.mk hc0_4
 clear hr0_4 hc0_4
 have HR0_5 := Aside0.mk hr0_5
 have HC0_5 := Aside0.mk hc0_5
 clear hr0_5 hc0_5
 have HB := Aside0.mk (Below.refl w.heap.size w)
 have H : (if a0_0 ≥ 1 then (if a0_0 ≤ 100000 then ((spec_CmdOk.f k a0_1 a0_2 a0_3 l0_4 l0_5 a0_6).bind fun t255 => (some t255)) else (some false)) else (some false)) = some r := h
 clear h
 by_cases c2 : a0_0 ≥ 1
 ·rw [if_pos c2] at H
  have c2b0 : decide (1 ≤ a0_0) = true := decide_eq_true c2
  clear c2
  by_cases c3 : a0_0 ≤ 100000
  ·rw [if_pos c3] at H
   have c3b0 : decide (a0_0 ≤ 100000) = true := decide_eq_true c3
   clear c3
   replace H := Option.bind_eq_some_iff.mp H
   obtain ⟨t255, A40, H⟩ := H
   replace H : (some t255) = some r := H
   have A4 := Aside0.mk A40
   clear A40
   obtain rfl := Option.some.inj H
   go_enter Try.func110, Try.ntmps110
   go_wp2_with (first | ((with_reducible refine gate_dst (N := 1) rfl ?_); refine bx_ 1 #[.int .i64 a0_0, .int .i64 a0_1, .int .i64 a0_2, .int .i64 a0_3, .slice A0_4 l0_4.length c0_4, .slice A0_5 l0_5.length c0_5, .int .i64 a0_6] 147 (h := ?_); intro gb254 hg w5 hbox hb; have BK254 := Aside0.mk (hbox); have GW254 := Aside0.mk ((by rw [hg]; exact (below_size bel) : w.heap.size ≤ gb254)); have GE254 := GW254; replace HB := Aside0.mk (below_step bel hb); clear hb hbox hg; obtain ⟨hcz6_0, hcz6_1, hcz6_2, hcz6_3, hcz6_4, hcz6_5, hcz6_6, -⟩ := cells_7 BK254.out trivial; obtain ⟨hfz6_0, hfz6_1, hfz6_2, hfz6_3, hfz6_4, hfz6_5, hfz6_6, -⟩ := frz_7 BK254.out) | (go_at_call 171; (with_reducible refine (spec_CmdOk.calls k a0_1 a0_2 a0_3 _ _ l0_4 _ _ l0_5 a0_6 t255 _ ?side1 ?side2 ?side3 ?side4 A4.out).mono ?_); (case side1 => exact kcb); (case side2 => exact HC0_4.out); (case side3 => exact kcb); (case side4 => exact HC0_5.out); rintro e w7 ⟨rfl, hb⟩; replace BK254 := Aside0.mk (blb BK254 hb); replace HB := Aside0.mk (below_step bel hb); (try clear hb); (try clear hb2); (try clear hk); (try clear hi)))
   go_ret
   exact ⟨rz_, bel⟩
  rw [if_neg c3] at H
  have c3b0 : decide (a0_0 ≤ 100000) = false := decide_eq_false c3
  clear c3
  obtain rfl := Option.some.inj H
  go_enter Try.func110, Try.ntmps110
  go_wp2_with (first | ((with_reducible refine gate_dst (N := 1) rfl ?_); refine bx_ 1 #[.int .i64 a0_0, .int .i64 a0_1, .int .i64 a0_2, .int .i64 a0_3, .slice A0_4 l0_4.length c0_4, .slice A0_5 l0_5.length c0_5, .int .i64 a0_6] 147 (h := ?_); intro gb254 hg w8 hbox hb; have BK254 := Aside0.mk (hbox); have GW254 := Aside0.mk ((by rw [hg]; exact (below_size bel) : w.heap.size ≤ gb254)); have GE254 := GW254; replace HB := Aside0.mk (below_step bel hb); clear hb hbox hg; obtain ⟨hcz9_0, hcz9_1, hcz9_2, hcz9_3, hcz9_4, hcz9_5, hcz9_6, -⟩ := cells_7 BK254.out trivial; obtain ⟨hfz9_0, hfz9_1, hfz9_2, hfz9_3, hfz9_4, hfz9_5, hfz9_6, -⟩ := frz_7 BK254.out))
  go_ret
  exact ⟨rz_, bel⟩
 rw [if_neg c2] at H
 have c2b0 : decide (1 ≤ a0_0) = false := decide_eq_false c2
 clear c2
 obtain rfl := Option.some.inj H
 go_enter Try.func110, Try.ntmps110
 go_wp2_with (first | ((with_reducible refine gate_dst (N := 1) rfl ?_); refine bx_ 1 #[.int .i64 a0_0, .int .i64 a0_1, .int .i64 a0_2, .int .i64 a0_3, .slice A0_4 l0_4.length c0_4, .slice A0_5 l0_5.length c0_5, .int .i64 a0_6] 147 (h := ?_); intro gb254 hg w10 hbox hb; have BK254 := Aside0.mk (hbox); have GW254 := Aside0.mk ((by rw [hg]; exact (below_size bel) : w.heap.size ≤ gb254)); have GE254 := GW254; replace HB := Aside0.mk (below_step bel hb); clear hb hbox hg; obtain ⟨hcz11_0, hcz11_1, hcz11_2, hcz11_3, hcz11_4, hcz11_5, hcz11_6, -⟩ := cells_7 BK254.out trivial; obtain ⟨hfz11_0, hfz11_1, hfz11_2, hfz11_3, hfz11_4, hfz11_5, hfz11_6, -⟩ := frz_7 BK254.out))
 go_ret
 exact ⟨rz_, bel⟩

end Go.Proofs.Ytdgegnakiljfjaa.PM
