-- Written for this claim by the session's program pp.py, out of the kit's print and the seat's translation.
import Derived.Test.YtmnjdmmljkahgaaDoorPEx0
import Derived.Test.YtmnjdmmljkahgaaDoorPEx3
namespace Go.Proofs.YtmnjdmmljkahgaaDoor.PE
open Go.RowKit Go.Proofs.YtmnjdmmljkahgaaDoorW.PrintWords Go.Proofs.YtmnjdmmljkahgaaDoorW.PrintLast Go.Proofs.YtmnjdmmljkahgaaDoorW.PrintMore
attribute [local go_sem] max2_int min2_int max_two min_two max_three min_three max_four min_four   -- for this text's walks alone
set_option linter.unusedVariables false
set_option linter.unusedSimpArgs false

/-! ### spec_OpOk: function 9 -/
mutual
def spec_OpOk.j0 : Nat → Bool → Int → List Int → List Int → Int → Option (Bool)
 | 0, _, _, _, _, _ => none
 | k + 1, x24, x195000, x195001, x195002, x195003 => if x24 = true then (some false) else (if x195000 = 1 then (spec_OpOk.j1 k true x195000 x195001 x195002 x195003) else (if x195000 = 2 then (spec_OpOk.j1 k true x195000 x195001 x195002 x195003) else (if x195000 = 3 then (spec_OpOk.j1 k true x195000 x195001 x195002 x195003) else (if x195000 = 6 then (spec_OpOk.j1 k true x195000 x195001 x195002 x195003) else (spec_OpOk.j1 k (x195000 == 7) x195000 x195001 x195002 x195003)))))
def spec_OpOk.j1 : Nat → Bool → Int → List Int → List Int → Int → Option (Bool)
 | 0, _, _, _, _, _ => none
 | k + 1, x3, x195000, x195001, x195002, x195003 => if x3 = true then ((spec_l2key.f k x195001).bind fun t197 => (if t197 = true then (spec_OpOk.j2 k false x195000 x195001 x195002 x195003) else (spec_OpOk.j2 k true x195000 x195001 x195002 x195003))) else (spec_OpOk.j2 k (decide ((x195001.length : Int) > 0)) x195000 x195001 x195002 x195003)
def spec_OpOk.j2 : Nat → Bool → Int → List Int → List Int → Int → Option (Bool)
 | 0, _, _, _, _, _ => none
 | k + 1, x64, x195000, x195001, x195002, x195003 => if x64 = true then (some false) else (if x195000 = 1 then (spec_OpOk.j3 k true x195000 x195001 x195002 x195003) else (if x195000 = 2 then (spec_OpOk.j3 k true x195000 x195001 x195002 x195003) else (spec_OpOk.j3 k (x195000 == 6) x195000 x195001 x195002 x195003)))
def spec_OpOk.j3 : Nat → Bool → Int → List Int → List Int → Int → Option (Bool)
 | 0, _, _, _, _, _ => none
 | k + 1, x4, x195000, x195001, x195002, x195003 => if x4 = true then (spec_OpOk.j4 k false x195000 x195001 x195002 x195003) else (spec_OpOk.j4 k (decide ((x195002.length : Int) > 0)) x195000 x195001 x195002 x195003)
def spec_OpOk.j4 : Nat → Bool → Int → List Int → List Int → Int → Option (Bool)
 | 0, _, _, _, _, _ => none
 | k + 1, x85, x195000, x195001, x195002, x195003 => if x85 = true then (some false) else (if x195000 = 0 then (spec_OpOk.j5 k x195000 (x195000 == 0) x195000 x195001 x195002 x195003) else (if x195000 = 1 then (spec_OpOk.j5 k x195000 (x195000 == 1) x195000 x195001 x195002 x195003) else (spec_OpOk.j5 k x195000 (x195000 == 3) x195000 x195001 x195002 x195003)))
def spec_OpOk.j5 : Nat → Int → Bool → Int → List Int → List Int → Int → Option (Bool)
 | 0, _, _, _, _, _, _ => none
 | k + 1, x87, x88, x195000, x195001, x195002, x195003 => if x88 = true then (some (x195003 == 0)) else (if x87 = 4 then (some (decide (x195003 ≤ 1))) else (if x87 = 2 then (some true) else (some (decide (x195003 ≥ 1)))))
end
def spec_OpOk.f (k : Nat) (a0_0 : Int) (l0_1 : List Int) (l0_2 : List Int) (a0_3 : Int) : Option (Bool) := if a0_0 < 0 then (spec_OpOk.j0 k true a0_0 l0_1 l0_2 a0_3) else (if a0_0 > 7 then (spec_OpOk.j0 k true a0_0 l0_1 l0_2 a0_3) else ((spec_l2val.f l0_2).bind fun t195 => (if t195 = true then ((spec_l2index.f a0_3).bind fun t196 => (spec_OpOk.j0 k (!t196) a0_0 l0_1 l0_2 a0_3)) else (spec_OpOk.j0 k true a0_0 l0_1 l0_2 a0_3))))
set_option maxHeartbeats 8000000 in
set_option maxRecDepth 100000 in
theorem spec_OpOk.calls (k : Nat) (a0_0 : Int) (A0_1 : Option Addr) (c0_1 : Nat) (l0_1 : List Int) (A0_2 : Option Addr) (c0_2 : Nat) (l0_2 : List Int) (a0_3 : Int) (r : Bool) (w : World) (hr0_1 : Kd.C (Kd.int .u8) w A0_1 l0_1.length l0_1) (hc0_1 : l0_1.length ≤ c0_1) (hr0_2 : Kd.C (Kd.int .u8) w A0_2 l0_2.length l0_2) (hc0_2 : l0_2.length ≤ c0_2) (h : spec_OpOk.f k a0_0 l0_1 l0_2 a0_3 = some r) :
  Calls Tryd.prog 9 #[.agg #[.int .i64 a0_0, .slice A0_1 l0_1.length c0_1, .slice A0_2 l0_2.length c0_2, .int .i64 a0_3]] w fun e w' => e = .returned (.bool r) ∧ Below w.heap.size w w' := by
 have hu24 := Tryd.underlying24
 have HR0_1 := Aside0.mk hr0_1
 have HC0_1 := Aside0.mk hc0_1
 clear hr0_1 hc0_1
 have HR0_2 := Aside0.mk hr0_2
 have HC0_2 := Aside0.mk hc0_2
 clear hr0_2 hc0_2
 have HB := Aside0.mk (Below.refl w.heap.size w)
 have H : (if a0_0 < 0 then (spec_OpOk.j0 k true a0_0 l0_1 l0_2 a0_3) else (if a0_0 > 7 then (spec_OpOk.j0 k true a0_0 l0_1 l0_2 a0_3) else ((spec_l2val.f l0_2).bind fun t195 => (if t195 = true then ((spec_l2index.f a0_3).bind fun t196 => (spec_OpOk.j0 k (!t196) a0_0 l0_1 l0_2 a0_3)) else (spec_OpOk.j0 k true a0_0 l0_1 l0_2 a0_3))))) = some r := h
 clear h
 have HC2 := Aside0.mk H
 clear H
 go_enter Tryd.func9, Tryd.ntmps9
 go_upto_region 1 with (first | ((with_reducible refine gate_dst (N := 1) rfl ?_); (try (refine gate_guard (by rfl) ?_; dsimp only)); refine bx_ 1 #[.int .i64 a0_0, .slice A0_1 l0_1.length c0_1, .slice A0_2 l0_2.length c0_2, .int .i64 a0_3] 24 (h := ?_); intro gb194 hg w3 hbox hb; have BK194 := Aside0.mk (hbox); have GW194 := Aside0.mk ((by rw [hg]; exact (below_size bel) : w.heap.size ≤ gb194)); have GE194 := GW194; replace HB := bst hb; clear hb hbox hg))
 (try simp only [Act.put, List.setIfInBounds_toArray, List.set_cons_zero, List.set_cons_succ])
 go_cut [24] (fun v24 wc => ∃ (kq : Nat) (x24_1 : Bool), v24 = .bool x24_1 ∧ Aside0 (spec_OpOk.j0 kq x24_1 a0_0 l0_1 l0_2 a0_3 = some r) ∧ Aside0 (kq ≤ k) ∧ Aside0 (wc.heap[gb194]? = some (.cells #[.int .i64 a0_0, (.slice A0_1 l0_1.length c0_1), (.slice A0_2 l0_2.length c0_2), .int .i64 a0_3] 24 (0, 0))) ∧ Aside0 (Below w.heap.size w wc))
 case first =>
  have H := HC2.out
  clear HC2
  by_cases c4 : a0_0 < 0
  ·rw [if_pos c4] at H
   have c4b0 : decide (a0_0 < 0) = true := decide_eq_true c4
   clear c4
   (first | rw [c4b0] | (simp only [i64_w, i32_w]; rw [c4b0]) | skip)
   have H' := Aside0.mk H
   clear H
   obtain ⟨C5_0, C5_1, C5_2, C5_3, -⟩ := cells_4 BK194.out trivial
   obtain ⟨F5_0, F5_1, F5_2, F5_3, -⟩ := frz_4 BK194.out
   go_wp2
   go_meet
   case rel => exact ⟨_, (true), rs_, H', ⟨by first | omega | exact Nat.le_refl _⟩, ⟨bkp BK194⟩, ⟨bel⟩⟩
  rw [if_neg c4] at H
  have c4b0 : decide (a0_0 < 0) = false := decide_eq_false c4
  clear c4
  (first | rw [c4b0] | (simp only [i64_w, i32_w]; rw [c4b0]) | skip)
  by_cases c6 : a0_0 > 7
  ·rw [if_pos c6] at H
   have c6b0 : decide (7 < a0_0) = true := decide_eq_true c6
   clear c6
   have H' := Aside0.mk H
   clear H
   obtain ⟨C7_0, C7_1, C7_2, C7_3, -⟩ := cells_4 BK194.out trivial
   obtain ⟨F7_0, F7_1, F7_2, F7_3, -⟩ := frz_4 BK194.out
   go_wp2
   go_meet
   case rel => exact ⟨_, (true), rs_, H', ⟨by first | omega | exact Nat.le_refl _⟩, ⟨bkp BK194⟩, ⟨bel⟩⟩
  rw [if_neg c6] at H
  have c6b0 : decide (7 < a0_0) = false := decide_eq_false c6
  clear c6
  replace H := Option.bind_eq_some_iff.mp H
  obtain ⟨t195, A80, H⟩ := H
  replace H : (if t195 = true then ((spec_l2index.f a0_3).bind fun t196 => (spec_OpOk.j0 k (!t196) a0_0 l0_1 l0_2 a0_3)) else (spec_OpOk.j0 k true a0_0 l0_1 l0_2 a0_3)) = some r := H
  have A8 := Aside0.mk A80
  clear A80
  by_cases c9 : t195 = true
  ·subst c9
   have H1 : ((spec_l2index.f a0_3).bind fun t196 => (spec_OpOk.j0 k (!t196) a0_0 l0_1 l0_2 a0_3)) = some r := by rw [if_pos rfl] at H; exact H
   clear H
   have H := H1
   clear H1
   replace H := Option.bind_eq_some_iff.mp H
   obtain ⟨t196, A100, H⟩ := H
   replace H : (spec_OpOk.j0 k (!t196) a0_0 l0_1 l0_2 a0_3) = some r := H
   have A10 := Aside0.mk A100
   clear A100
   have H' := Aside0.mk H
   clear H
   obtain ⟨C11_0, C11_1, C11_2, C11_3, -⟩ := cells_4 BK194.out trivial
   obtain ⟨F11_0, F11_1, F11_2, F11_3, -⟩ := frz_4 BK194.out
   go_wp2_with (first | (go_at_call 35; (with_reducible refine (spec_l2val.calls _ _ l0_2 true _ ?side1 ?side2 A8.out).mono ?_); (case side1 => exact kcb); (case side2 => exact HC0_2.out); rintro e w' ⟨rfl, ⟨nd, rfl⟩⟩) | (go_at_call 36; (with_reducible refine (spec_l2index.calls a0_3 t196 _ A10.out).mono ?_); rintro e w' ⟨rfl, ⟨nd, rfl⟩⟩))
   go_meet
   case rel => exact ⟨_, (!t196), rs_, H', ⟨by first | omega | exact Nat.le_refl _⟩, ⟨bkp BK194⟩, ⟨bel⟩⟩
  replace c9 := Bool.eq_false_iff.mpr c9
  subst c9
  have H1 : (spec_OpOk.j0 k true a0_0 l0_1 l0_2 a0_3) = some r := by rw [if_neg (show ¬ (false = true) by decide)] at H; exact H
  clear H
  have H := H1
  clear H1
  have H' := Aside0.mk H
  clear H
  obtain ⟨C12_0, C12_1, C12_2, C12_3, -⟩ := cells_4 BK194.out trivial
  obtain ⟨F12_0, F12_1, F12_2, F12_3, -⟩ := frz_4 BK194.out
  go_wp2_with (first | (go_at_call 35; (with_reducible refine (spec_l2val.calls _ _ l0_2 false _ ?side1 ?side2 A8.out).mono ?_); (case side1 => exact kcb); (case side2 => exact HC0_2.out); rintro e w' ⟨rfl, ⟨nd, rfl⟩⟩))
  go_meet
  case rel => exact ⟨_, (true), rs_, H', ⟨by first | omega | exact Nat.le_refl _⟩, ⟨bkp BK194⟩, ⟨bel⟩⟩
 case rest =>
  clear HC2
  try clear p2; try clear c4; try clear c4b0; try clear c6; try clear c6b0; try clear c9; try clear C11_0 C11_1 C11_2 C11_3; try clear C12_0 C12_1 C12_2 C12_3; try clear C5_0 C5_1 C5_2 C5_3; try clear C7_0 C7_1 C7_2 C7_3; try clear F11_0 F11_1 F11_2 F11_3; try clear F12_0 F12_1 F12_2 F12_3; try clear F5_0 F5_1 F5_2 F5_3; try clear F7_0 F7_1 F7_2 F7_3
  obtain ⟨kq, x24_1, rfl, HA, HJ1, BK194, HB⟩ := hcut
  cases kq with
  | zero => exact absurd HA.out (by simp [spec_OpOk.j0])
  | succ kj1 =>
   have H := HA.out
   clear HA
   simp only [spec_OpOk.j0] at H
   by_cases c13 : x24_1 = true
   ·subst c13
    have H1 : (some false) = some r := by rw [if_pos rfl] at H; exact H
    clear H
    have H := H1
    clear H1
    obtain rfl := Option.some.inj H
    go_wp2
    go_ret
    exact ⟨rz_, bel⟩
   replace c13 := Bool.eq_false_iff.mpr c13
   subst c13
   have H1 : (if a0_0 = 1 then (spec_OpOk.j1 kj1 true a0_0 l0_1 l0_2 a0_3) else (if a0_0 = 2 then (spec_OpOk.j1 kj1 true a0_0 l0_1 l0_2 a0_3) else (if a0_0 = 3 then (spec_OpOk.j1 kj1 true a0_0 l0_1 l0_2 a0_3) else (if a0_0 = 6 then (spec_OpOk.j1 kj1 true a0_0 l0_1 l0_2 a0_3) else (spec_OpOk.j1 kj1 (a0_0 == 7) a0_0 l0_1 l0_2 a0_3))))) = some r := by rw [if_neg (show ¬ (false = true) by decide)] at H; exact H
   clear H
   have H := H1
   clear H1
   have HC14 := Aside0.mk H
   clear H
   go_upto_region 3 with (fail)
   go_cut [3] (fun v3 wc => ∃ (kq : Nat) (x3_13 : Bool), v3 = .bool x3_13 ∧ Aside0 (spec_OpOk.j1 kq x3_13 a0_0 l0_1 l0_2 a0_3 = some r) ∧ Aside0 (kq ≤ kj1) ∧ Aside0 (wc.heap[gb194]? = some (.cells #[.int .i64 a0_0, (.slice A0_1 l0_1.length c0_1), (.slice A0_2 l0_2.length c0_2), .int .i64 a0_3] 24 (0, 0))) ∧ Aside0 (Below w.heap.size w wc))
   case first =>
    have H := HC14.out
    clear HC14
    by_cases c15 : a0_0 = 1
    ·rw [if_pos c15] at H
     have c15b0 : (a0_0 == 1) = true := beq_iff_eq.mpr c15
     have c15b1 : (a0_0 != 1) = false := bne_eq_false_iff_eq.mpr c15
     clear c15
     (first | rw [c15b0] | (simp only [i64_w, i32_w]; rw [c15b0]) | skip)
     have H' := Aside0.mk H
     clear H
     obtain ⟨C16_0, C16_1, C16_2, C16_3, -⟩ := cells_4 BK194.out trivial
     obtain ⟨F16_0, F16_1, F16_2, F16_3, -⟩ := frz_4 BK194.out
     go_wp2
     go_meet
     case rel => exact ⟨_, (true), rs_, H', ⟨by have := HJ1.out; first | omega | exact Nat.le_refl _⟩, ⟨bkp BK194⟩, ⟨bel⟩⟩
    rw [if_neg c15] at H
    have c15b0 : (a0_0 == 1) = false := beq_eq_false_iff_ne.mpr c15
    have c15b1 : (a0_0 != 1) = true := bne_iff_ne.mpr c15
    (first | rw [c15b0] | (simp only [i64_w, i32_w]; rw [c15b0]) | skip)
    by_cases c17 : a0_0 = 2
    ·rw [if_pos c17] at H
     have c17b0 : (a0_0 == 2) = true := beq_iff_eq.mpr c17
     have c17b1 : (a0_0 != 2) = false := bne_eq_false_iff_eq.mpr c17
     clear c17
     have H' := Aside0.mk H
     clear H
     obtain ⟨C18_0, C18_1, C18_2, C18_3, -⟩ := cells_4 BK194.out trivial
     obtain ⟨F18_0, F18_1, F18_2, F18_3, -⟩ := frz_4 BK194.out
     go_wp2
     go_meet
     case rel => exact ⟨_, (true), rs_, H', ⟨by have := HJ1.out; first | omega | exact Nat.le_refl _⟩, ⟨bkp BK194⟩, ⟨bel⟩⟩
    rw [if_neg c17] at H
    have c17b0 : (a0_0 == 2) = false := beq_eq_false_iff_ne.mpr c17
    have c17b1 : (a0_0 != 2) = true := bne_iff_ne.mpr c17
    by_cases c19 : a0_0 = 3
    ·rw [if_pos c19] at H
     have c19b0 : (a0_0 == 3) = true := beq_iff_eq.mpr c19
     have c19b1 : (a0_0 != 3) = false := bne_eq_false_iff_eq.mpr c19
     clear c19
     have H' := Aside0.mk H
     clear H
     obtain ⟨C20_0, C20_1, C20_2, C20_3, -⟩ := cells_4 BK194.out trivial
     obtain ⟨F20_0, F20_1, F20_2, F20_3, -⟩ := frz_4 BK194.out
     go_wp2
     go_meet
     case rel => exact ⟨_, (true), rs_, H', ⟨by have := HJ1.out; first | omega | exact Nat.le_refl _⟩, ⟨bkp BK194⟩, ⟨bel⟩⟩
    rw [if_neg c19] at H
    have c19b0 : (a0_0 == 3) = false := beq_eq_false_iff_ne.mpr c19
    have c19b1 : (a0_0 != 3) = true := bne_iff_ne.mpr c19
    by_cases c21 : a0_0 = 6
    ·rw [if_pos c21] at H
     have c21b0 : (a0_0 == 6) = true := beq_iff_eq.mpr c21
     have c21b1 : (a0_0 != 6) = false := bne_eq_false_iff_eq.mpr c21
     clear c21
     have H' := Aside0.mk H
     clear H
     obtain ⟨C22_0, C22_1, C22_2, C22_3, -⟩ := cells_4 BK194.out trivial
     obtain ⟨F22_0, F22_1, F22_2, F22_3, -⟩ := frz_4 BK194.out
     go_wp2
     go_meet
     case rel => exact ⟨_, (true), rs_, H', ⟨by have := HJ1.out; first | omega | exact Nat.le_refl _⟩, ⟨bkp BK194⟩, ⟨bel⟩⟩
    rw [if_neg c21] at H
    have c21b0 : (a0_0 == 6) = false := beq_eq_false_iff_ne.mpr c21
    have c21b1 : (a0_0 != 6) = true := bne_iff_ne.mpr c21
    have H' := Aside0.mk H
    clear H
    obtain ⟨C23_0, C23_1, C23_2, C23_3, -⟩ := cells_4 BK194.out trivial
    obtain ⟨F23_0, F23_1, F23_2, F23_3, -⟩ := frz_4 BK194.out
    go_wp2
    go_meet
    case rel => exact ⟨_, ((a0_0 == 7)), rs_, H', ⟨by have := HJ1.out; first | omega | exact Nat.le_refl _⟩, ⟨bkp BK194⟩, ⟨bel⟩⟩
   case rest =>
    clear HC14
    try clear c1; try clear c2; try clear p2; try clear c4; try clear c4b0; try clear c6; try clear c6b0; try clear c9; try clear c13; try clear c15; try clear c15b0; try clear c15b1; try clear c17; try clear c17b0; try clear c17b1; try clear c19; try clear c19b0; try clear c19b1; try clear c21; try clear c21b0; try clear c21b1; try clear C11_0 C11_1 C11_2 C11_3; try clear C12_0 C12_1 C12_2 C12_3; try clear C16_0 C16_1 C16_2 C16_3; try clear C18_0 C18_1 C18_2 C18_3; try clear C20_0 C20_1 C20_2 C20_3; try clear C22_0 C22_1 C22_2 C22_3; try clear C23_0 C23_1 C23_2 C23_3; try clear C5_0 C5_1 C5_2 C5_3; try clear C7_0 C7_1 C7_2 C7_3; try clear F11_0 F11_1 F11_2 F11_3; try clear F12_0 F12_1 F12_2 F12_3; try clear F16_0 F16_1 F16_2 F16_3; try clear F18_0 F18_1 F18_2 F18_3; try clear F20_0 F20_1 F20_2 F20_3; try clear F22_0 F22_1 F22_2 F22_3; try clear F23_0 F23_1 F23_2 F23_3; try clear F5_0 F5_1 F5_2 F5_3; try clear F7_0 F7_1 F7_2 F7_3; try clear p2
    obtain ⟨kq, x3_13, rfl, HA, HJ13, BK194, HB⟩ := hcut
    cases kq with
    | zero => exact absurd HA.out (by simp [spec_OpOk.j1])
    | succ kj13 =>
     have H := HA.out
     clear HA
     simp only [spec_OpOk.j1] at H
     have HC24 := Aside0.mk H
     clear H
     go_upto_region 4 with (fail)
     go_cut [64] (fun v64 wc => ∃ (kq : Nat) (x64_23 : Bool), v64 = .bool x64_23 ∧ Aside0 (spec_OpOk.j2 kq x64_23 a0_0 l0_1 l0_2 a0_3 = some r) ∧ Aside0 (kq ≤ kj13) ∧ Aside0 (wc.heap[gb194]? = some (.cells #[.int .i64 a0_0, (.slice A0_1 l0_1.length c0_1), (.slice A0_2 l0_2.length c0_2), .int .i64 a0_3] 24 (0, 0))) ∧ Aside0 (Below w.heap.size w wc))
     case first =>
      have H := HC24.out
      clear HC24
      by_cases c25 : x3_13 = true
      ·subst c25
       have H1 : ((spec_l2key.f kj13 l0_1).bind fun t197 => (if t197 = true then (spec_OpOk.j2 kj13 false a0_0 l0_1 l0_2 a0_3) else (spec_OpOk.j2 kj13 true a0_0 l0_1 l0_2 a0_3))) = some r := by rw [if_pos rfl] at H; exact H
       clear H
       have H := H1
       clear H1
       replace H := Option.bind_eq_some_iff.mp H
       obtain ⟨t197, A260, H⟩ := H
       replace H : (if t197 = true then (spec_OpOk.j2 kj13 false a0_0 l0_1 l0_2 a0_3) else (spec_OpOk.j2 kj13 true a0_0 l0_1 l0_2 a0_3)) = some r := H
       have A26 := Aside0.mk A260
       clear A260
       by_cases c27 : t197 = true
       ·subst c27
        have H1 : (spec_OpOk.j2 kj13 false a0_0 l0_1 l0_2 a0_3) = some r := by rw [if_pos rfl] at H; exact H
        clear H
        have H := H1
        clear H1
        have H' := Aside0.mk H
        clear H
        obtain ⟨C28_0, C28_1, C28_2, C28_3, -⟩ := cells_4 BK194.out trivial
        obtain ⟨F28_0, F28_1, F28_2, F28_3, -⟩ := frz_4 BK194.out
        go_wp2_with (first | (go_at_call 37; (with_reducible refine (spec_l2key.calls kj13 _ _ l0_1 true _ ?side1 ?side2 A26.out).mono ?_); (case side1 => exact kcb); (case side2 => exact HC0_1.out); rintro e w' ⟨rfl, ⟨nd, rfl⟩⟩))
        go_meet
        case rel => exact ⟨_, (false), rs_, H', ⟨by have := HJ1.out; have := HJ13.out; first | omega | exact Nat.le_refl _⟩, ⟨bkp BK194⟩, ⟨bel⟩⟩
       replace c27 := Bool.eq_false_iff.mpr c27
       subst c27
       have H1 : (spec_OpOk.j2 kj13 true a0_0 l0_1 l0_2 a0_3) = some r := by rw [if_neg (show ¬ (false = true) by decide)] at H; exact H
       clear H
       have H := H1
       clear H1
       have H' := Aside0.mk H
       clear H
       obtain ⟨C29_0, C29_1, C29_2, C29_3, -⟩ := cells_4 BK194.out trivial
       obtain ⟨F29_0, F29_1, F29_2, F29_3, -⟩ := frz_4 BK194.out
       go_wp2_with (first | (go_at_call 37; (with_reducible refine (spec_l2key.calls kj13 _ _ l0_1 false _ ?side1 ?side2 A26.out).mono ?_); (case side1 => exact kcb); (case side2 => exact HC0_1.out); rintro e w' ⟨rfl, ⟨nd, rfl⟩⟩))
       go_meet
       case rel => exact ⟨_, (true), rs_, H', ⟨by have := HJ1.out; have := HJ13.out; first | omega | exact Nat.le_refl _⟩, ⟨bkp BK194⟩, ⟨bel⟩⟩
      replace c25 := Bool.eq_false_iff.mpr c25
      subst c25
      have H1 : (spec_OpOk.j2 kj13 (decide ((l0_1.length : Int) > 0)) a0_0 l0_1 l0_2 a0_3) = some r := by rw [if_neg (show ¬ (false = true) by decide)] at H; exact H
      clear H
      have H := H1
      clear H1
      have H' := Aside0.mk H
      clear H
      obtain ⟨C30_0, C30_1, C30_2, C30_3, -⟩ := cells_4 BK194.out trivial
      obtain ⟨F30_0, F30_1, F30_2, F30_3, -⟩ := frz_4 BK194.out
      go_wp2
      go_meet
      case rel => exact ⟨_, (decide ((l0_1.length : Int) > 0)), rs_, H', ⟨by have := HJ1.out; have := HJ13.out; first | omega | exact Nat.le_refl _⟩, ⟨bkp BK194⟩, ⟨bel⟩⟩
     case rest =>
      clear HC24
      try clear c1; try clear c2; try clear p2; try clear c4; try clear c4b0; try clear c6; try clear c6b0; try clear c9; try clear c13; try clear c15; try clear c15b0; try clear c15b1; try clear c17; try clear c17b0; try clear c17b1; try clear c19; try clear c19b0; try clear c19b1; try clear c21; try clear c21b0; try clear c21b1; try clear c25; try clear c27; try clear C11_0 C11_1 C11_2 C11_3; try clear C12_0 C12_1 C12_2 C12_3; try clear C16_0 C16_1 C16_2 C16_3; try clear C18_0 C18_1 C18_2 C18_3; try clear C20_0 C20_1 C20_2 C20_3; try clear C22_0 C22_1 C22_2 C22_3; try clear C23_0 C23_1 C23_2 C23_3; try clear C28_0 C28_1 C28_2 C28_3; try clear C29_0 C29_1 C29_2 C29_3; try clear C30_0 C30_1 C30_2 C30_3; try clear C5_0 C5_1 C5_2 C5_3; try clear C7_0 C7_1 C7_2 C7_3; try clear F11_0 F11_1 F11_2 F11_3; try clear F12_0 F12_1 F12_2 F12_3; try clear F16_0 F16_1 F16_2 F16_3; try clear F18_0 F18_1 F18_2 F18_3; try clear F20_0 F20_1 F20_2 F20_3; try clear F22_0 F22_1 F22_2 F22_3; try clear F23_0 F23_1 F23_2 F23_3; try clear F28_0 F28_1 F28_2 F28_3; try clear F29_0 F29_1 F29_2 F29_3; try clear F30_0 F30_1 F30_2 F30_3; try clear F5_0 F5_1 F5_2 F5_3; try clear F7_0 F7_1 F7_2 F7_3; try clear p2
      obtain ⟨kq, x64_23, rfl, HA, HJ23, BK194, HB⟩ := hcut
      cases kq with
      | zero => exact absurd HA.out (by simp [spec_OpOk.j2])
      | succ kj23 =>
       have H := HA.out
       clear HA
       simp only [spec_OpOk.j2] at H
       by_cases c31 : x64_23 = true
       ·subst c31
        have H1 : (some false) = some r := by rw [if_pos rfl] at H; exact H
        clear H
        have H := H1
        clear H1
        obtain rfl := Option.some.inj H
        go_wp2
        go_ret
        exact ⟨rz_, bel⟩
       replace c31 := Bool.eq_false_iff.mpr c31
       subst c31
       have H1 : (if a0_0 = 1 then (spec_OpOk.j3 kj23 true a0_0 l0_1 l0_2 a0_3) else (if a0_0 = 2 then (spec_OpOk.j3 kj23 true a0_0 l0_1 l0_2 a0_3) else (spec_OpOk.j3 kj23 (a0_0 == 6) a0_0 l0_1 l0_2 a0_3))) = some r := by rw [if_neg (show ¬ (false = true) by decide)] at H; exact H
       clear H
       have H := H1
       clear H1
       have HC32 := Aside0.mk H
       clear H
       go_upto_region 6 with (fail)
       go_cut [4] (fun v4 wc => ∃ (kq : Nat) (x4_31 : Bool), v4 = .bool x4_31 ∧ Aside0 (spec_OpOk.j3 kq x4_31 a0_0 l0_1 l0_2 a0_3 = some r) ∧ Aside0 (kq ≤ kj23) ∧ Aside0 (wc.heap[gb194]? = some (.cells #[.int .i64 a0_0, (.slice A0_1 l0_1.length c0_1), (.slice A0_2 l0_2.length c0_2), .int .i64 a0_3] 24 (0, 0))) ∧ Aside0 (Below w.heap.size w wc))
       case first =>
        have H := HC32.out
        clear HC32
        by_cases c33 : a0_0 = 1
        ·rw [if_pos c33] at H
         have c33b0 : (a0_0 == 1) = true := beq_iff_eq.mpr c33
         have c33b1 : (a0_0 != 1) = false := bne_eq_false_iff_eq.mpr c33
         clear c33
         (first | rw [c33b0] | (simp only [i64_w, i32_w]; rw [c33b0]) | skip)
         have H' := Aside0.mk H
         clear H
         obtain ⟨C34_0, C34_1, C34_2, C34_3, -⟩ := cells_4 BK194.out trivial
         obtain ⟨F34_0, F34_1, F34_2, F34_3, -⟩ := frz_4 BK194.out
         go_wp2
         go_meet
         case rel => exact ⟨_, (true), rs_, H', ⟨by have := HJ1.out; have := HJ13.out; have := HJ23.out; first | omega | exact Nat.le_refl _⟩, ⟨bkp BK194⟩, ⟨bel⟩⟩
        rw [if_neg c33] at H
        have c33b0 : (a0_0 == 1) = false := beq_eq_false_iff_ne.mpr c33
        have c33b1 : (a0_0 != 1) = true := bne_iff_ne.mpr c33
        (first | rw [c33b0] | (simp only [i64_w, i32_w]; rw [c33b0]) | skip)
        by_cases c35 : a0_0 = 2
        ·rw [if_pos c35] at H
         have c35b0 : (a0_0 == 2) = true := beq_iff_eq.mpr c35
         have c35b1 : (a0_0 != 2) = false := bne_eq_false_iff_eq.mpr c35
         clear c35
         have H' := Aside0.mk H
         clear H
         obtain ⟨C36_0, C36_1, C36_2, C36_3, -⟩ := cells_4 BK194.out trivial
         obtain ⟨F36_0, F36_1, F36_2, F36_3, -⟩ := frz_4 BK194.out
         go_wp2
         go_meet
         case rel => exact ⟨_, (true), rs_, H', ⟨by have := HJ1.out; have := HJ13.out; have := HJ23.out; first | omega | exact Nat.le_refl _⟩, ⟨bkp BK194⟩, ⟨bel⟩⟩
        rw [if_neg c35] at H
        have c35b0 : (a0_0 == 2) = false := beq_eq_false_iff_ne.mpr c35
        have c35b1 : (a0_0 != 2) = true := bne_iff_ne.mpr c35
        have H' := Aside0.mk H
        clear H
        obtain ⟨C37_0, C37_1, C37_2, C37_3, -⟩ := cells_4 BK194.out trivial
        obtain ⟨F37_0, F37_1, F37_2, F37_3, -⟩ := frz_4 BK194.out
        go_wp2
        go_meet
        case rel => exact ⟨_, ((a0_0 == 6)), rs_, H', ⟨by have := HJ1.out; have := HJ13.out; have := HJ23.out; first | omega | exact Nat.le_refl _⟩, ⟨bkp BK194⟩, ⟨bel⟩⟩
       case rest =>
        clear HC32
        try clear c1; try clear c2; try clear p2; try clear c3; try clear c4; try clear c4b0; try clear c6; try clear c6b0; try clear c9; try clear c13; try clear c15; try clear c15b0; try clear c15b1; try clear c17; try clear c17b0; try clear c17b1; try clear c19; try clear c19b0; try clear c19b1; try clear c21; try clear c21b0; try clear c21b1; try clear c25; try clear c27; try clear c31; try clear c33; try clear c33b0; try clear c33b1; try clear c35; try clear c35b0; try clear c35b1; try clear C11_0 C11_1 C11_2 C11_3; try clear C12_0 C12_1 C12_2 C12_3; try clear C16_0 C16_1 C16_2 C16_3; try clear C18_0 C18_1 C18_2 C18_3; try clear C20_0 C20_1 C20_2 C20_3; try clear C22_0 C22_1 C22_2 C22_3; try clear C23_0 C23_1 C23_2 C23_3; try clear C28_0 C28_1 C28_2 C28_3; try clear C29_0 C29_1 C29_2 C29_3; try clear C30_0 C30_1 C30_2 C30_3; try clear C34_0 C34_1 C34_2 C34_3; try clear C36_0 C36_1 C36_2 C36_3; try clear C37_0 C37_1 C37_2 C37_3; try clear C5_0 C5_1 C5_2 C5_3; try clear C7_0 C7_1 C7_2 C7_3; try clear F11_0 F11_1 F11_2 F11_3; try clear F12_0 F12_1 F12_2 F12_3; try clear F16_0 F16_1 F16_2 F16_3; try clear F18_0 F18_1 F18_2 F18_3; try clear F20_0 F20_1 F20_2 F20_3; try clear F22_0 F22_1 F22_2 F22_3; try clear F23_0 F23_1 F23_2 F23_3; try clear F28_0 F28_1 F28_2 F28_3; try clear F29_0 F29_1 F29_2 F29_3; try clear F30_0 F30_1 F30_2 F30_3; try clear F34_0 F34_1 F34_2 F34_3; try clear F36_0 F36_1 F36_2 F36_3; try clear F37_0 F37_1 F37_2 F37_3; try clear F5_0 F5_1 F5_2 F5_3; try clear F7_0 F7_1 F7_2 F7_3; try clear p2
        obtain ⟨kq, x4_31, rfl, HA, HJ31, BK194, HB⟩ := hcut
        cases kq with
        | zero => exact absurd HA.out (by simp [spec_OpOk.j3])
        | succ kj31 =>
         have H := HA.out
         clear HA
         simp only [spec_OpOk.j3] at H
         have HC38 := Aside0.mk H
         clear H
         go_upto_region 7 with (fail)
         go_cut [85] (fun v85 wc => ∃ (kq : Nat) (x85_37 : Bool), v85 = .bool x85_37 ∧ Aside0 (spec_OpOk.j4 kq x85_37 a0_0 l0_1 l0_2 a0_3 = some r) ∧ Aside0 (kq ≤ kj31) ∧ Aside0 (wc.heap[gb194]? = some (.cells #[.int .i64 a0_0, (.slice A0_1 l0_1.length c0_1), (.slice A0_2 l0_2.length c0_2), .int .i64 a0_3] 24 (0, 0))) ∧ Aside0 (Below w.heap.size w wc))
         case first =>
          have H := HC38.out
          clear HC38
          by_cases c39 : x4_31 = true
          ·subst c39
           have H1 : (spec_OpOk.j4 kj31 false a0_0 l0_1 l0_2 a0_3) = some r := by rw [if_pos rfl] at H; exact H
           clear H
           have H := H1
           clear H1
           have H' := Aside0.mk H
           clear H
           go_wp2
           go_meet
           case rel => exact ⟨_, (false), rs_, H', ⟨by have := HJ1.out; have := HJ13.out; have := HJ23.out; have := HJ31.out; first | omega | exact Nat.le_refl _⟩, ⟨bkp BK194⟩, ⟨bel⟩⟩
          replace c39 := Bool.eq_false_iff.mpr c39
          subst c39
          have H1 : (spec_OpOk.j4 kj31 (decide ((l0_2.length : Int) > 0)) a0_0 l0_1 l0_2 a0_3) = some r := by rw [if_neg (show ¬ (false = true) by decide)] at H; exact H
          clear H
          have H := H1
          clear H1
          have H' := Aside0.mk H
          clear H
          obtain ⟨C40_0, C40_1, C40_2, C40_3, -⟩ := cells_4 BK194.out trivial
          obtain ⟨F40_0, F40_1, F40_2, F40_3, -⟩ := frz_4 BK194.out
          go_wp2
          go_meet
          case rel => exact ⟨_, (decide ((l0_2.length : Int) > 0)), rs_, H', ⟨by have := HJ1.out; have := HJ13.out; have := HJ23.out; have := HJ31.out; first | omega | exact Nat.le_refl _⟩, ⟨bkp BK194⟩, ⟨bel⟩⟩
         case rest =>
          clear HC38
          try clear c1; try clear c2; try clear p2; try clear c3; try clear c4; try clear c4b0; try clear c6; try clear c6b0; try clear c9; try clear c13; try clear c15; try clear c15b0; try clear c15b1; try clear c17; try clear c17b0; try clear c17b1; try clear c19; try clear c19b0; try clear c19b1; try clear c21; try clear c21b0; try clear c21b1; try clear c25; try clear c27; try clear c31; try clear c33; try clear c33b0; try clear c33b1; try clear c35; try clear c35b0; try clear c35b1; try clear c39; try clear C11_0 C11_1 C11_2 C11_3; try clear C12_0 C12_1 C12_2 C12_3; try clear C16_0 C16_1 C16_2 C16_3; try clear C18_0 C18_1 C18_2 C18_3; try clear C20_0 C20_1 C20_2 C20_3; try clear C22_0 C22_1 C22_2 C22_3; try clear C23_0 C23_1 C23_2 C23_3; try clear C28_0 C28_1 C28_2 C28_3; try clear C29_0 C29_1 C29_2 C29_3; try clear C30_0 C30_1 C30_2 C30_3; try clear C34_0 C34_1 C34_2 C34_3; try clear C36_0 C36_1 C36_2 C36_3; try clear C37_0 C37_1 C37_2 C37_3; try clear C40_0 C40_1 C40_2 C40_3; try clear C5_0 C5_1 C5_2 C5_3; try clear C7_0 C7_1 C7_2 C7_3; try clear F11_0 F11_1 F11_2 F11_3; try clear F12_0 F12_1 F12_2 F12_3; try clear F16_0 F16_1 F16_2 F16_3; try clear F18_0 F18_1 F18_2 F18_3; try clear F20_0 F20_1 F20_2 F20_3; try clear F22_0 F22_1 F22_2 F22_3; try clear F23_0 F23_1 F23_2 F23_3; try clear F28_0 F28_1 F28_2 F28_3; try clear F29_0 F29_1 F29_2 F29_3; try clear F30_0 F30_1 F30_2 F30_3; try clear F34_0 F34_1 F34_2 F34_3; try clear F36_0 F36_1 F36_2 F36_3; try clear F37_0 F37_1 F37_2 F37_3; try clear F40_0 F40_1 F40_2 F40_3; try clear F5_0 F5_1 F5_2 F5_3; try clear F7_0 F7_1 F7_2 F7_3; try clear p2
          obtain ⟨kq, x85_37, rfl, HA, HJ37, BK194, HB⟩ := hcut
          cases kq with
          | zero => exact absurd HA.out (by simp [spec_OpOk.j4])
          | succ kj37 =>
           have H := HA.out
           clear HA
           simp only [spec_OpOk.j4] at H
           by_cases c41 : x85_37 = true
           ·subst c41
            have H1 : (some false) = some r := by rw [if_pos rfl] at H; exact H
            clear H
            have H := H1
            clear H1
            obtain rfl := Option.some.inj H
            go_wp2
            go_ret
            exact ⟨rz_, bel⟩
           replace c41 := Bool.eq_false_iff.mpr c41
           subst c41
           have H1 : (if a0_0 = 0 then (spec_OpOk.j5 kj37 a0_0 (a0_0 == 0) a0_0 l0_1 l0_2 a0_3) else (if a0_0 = 1 then (spec_OpOk.j5 kj37 a0_0 (a0_0 == 1) a0_0 l0_1 l0_2 a0_3) else (spec_OpOk.j5 kj37 a0_0 (a0_0 == 3) a0_0 l0_1 l0_2 a0_3))) = some r := by rw [if_neg (show ¬ (false = true) by decide)] at H; exact H
           clear H
           have H := H1
           clear H1
           have HC42 := Aside0.mk H
           clear H
           obtain ⟨C43_0, C43_1, C43_2, C43_3, -⟩ := cells_4 BK194.out trivial
           obtain ⟨F43_0, F43_1, F43_2, F43_3, -⟩ := frz_4 BK194.out
           go_upto_if 88 with (fail)
           go_cut [88] (fun v88 wc => ∃ (kq : Nat) (x88_41 : Bool), v88 = .bool x88_41 ∧ Aside0 (spec_OpOk.j5 kq a0_0 x88_41 a0_0 l0_1 l0_2 a0_3 = some r) ∧ Aside0 (kq ≤ kj37) ∧ Aside0 (wc.heap[gb194]? = some (.cells #[.int .i64 a0_0, (.slice A0_1 l0_1.length c0_1), (.slice A0_2 l0_2.length c0_2), .int .i64 a0_3] 24 (0, 0))) ∧ Aside0 (Below w.heap.size w wc))
           case first =>
            have H := HC42.out
            clear HC42
            by_cases c44 : a0_0 = 0
            ·rw [if_pos c44] at H
             have c44b0 : (a0_0 == 0) = true := beq_iff_eq.mpr c44
             have c44b1 : (a0_0 != 0) = false := bne_eq_false_iff_eq.mpr c44
             clear c44
             (first | rw [c44b0] | (simp only [i64_w, i32_w]; rw [c44b0]) | skip)
             have H' := Aside0.mk H
             clear H
             go_wp2
             go_meet
             case rel => exact ⟨_, ((a0_0 == 0)), rs_, H', ⟨by have := HJ1.out; have := HJ13.out; have := HJ23.out; have := HJ31.out; have := HJ37.out; first | omega | exact Nat.le_refl _⟩, ⟨bkp BK194⟩, ⟨bel⟩⟩
            rw [if_neg c44] at H
            have c44b0 : (a0_0 == 0) = false := beq_eq_false_iff_ne.mpr c44
            have c44b1 : (a0_0 != 0) = true := bne_iff_ne.mpr c44
            (first | rw [c44b0] | (simp only [i64_w, i32_w]; rw [c44b0]) | skip)
            by_cases c45 : a0_0 = 1
            ·rw [if_pos c45] at H
             have c45b0 : (a0_0 == 1) = true := beq_iff_eq.mpr c45
             have c45b1 : (a0_0 != 1) = false := bne_eq_false_iff_eq.mpr c45
             clear c45
             have H' := Aside0.mk H
             clear H
             go_wp2
             go_meet
             case rel => exact ⟨_, ((a0_0 == 1)), rs_, H', ⟨by have := HJ1.out; have := HJ13.out; have := HJ23.out; have := HJ31.out; have := HJ37.out; first | omega | exact Nat.le_refl _⟩, ⟨bkp BK194⟩, ⟨bel⟩⟩
            rw [if_neg c45] at H
            have c45b0 : (a0_0 == 1) = false := beq_eq_false_iff_ne.mpr c45
            have c45b1 : (a0_0 != 1) = true := bne_iff_ne.mpr c45
            have H' := Aside0.mk H
            clear H
            go_wp2
            go_meet
            case rel => exact ⟨_, ((a0_0 == 3)), rs_, H', ⟨by have := HJ1.out; have := HJ13.out; have := HJ23.out; have := HJ31.out; have := HJ37.out; first | omega | exact Nat.le_refl _⟩, ⟨bkp BK194⟩, ⟨bel⟩⟩
           case rest =>
            clear HC42
            try clear c1; try clear c2; try clear p2; try clear c3; try clear c4; try clear c4b0; try clear c6; try clear c6b0; try clear c9; try clear c13; try clear c15; try clear c15b0; try clear c15b1; try clear c17; try clear c17b0; try clear c17b1; try clear c19; try clear c19b0; try clear c19b1; try clear c21; try clear c21b0; try clear c21b1; try clear c25; try clear c27; try clear c31; try clear c33; try clear c33b0; try clear c33b1; try clear c35; try clear c35b0; try clear c35b1; try clear c39; try clear c41; try clear c44; try clear c44b0; try clear c44b1; try clear c45; try clear c45b0; try clear c45b1; try clear C11_0 C11_1 C11_2 C11_3; try clear C12_0 C12_1 C12_2 C12_3; try clear C16_0 C16_1 C16_2 C16_3; try clear C18_0 C18_1 C18_2 C18_3; try clear C20_0 C20_1 C20_2 C20_3; try clear C22_0 C22_1 C22_2 C22_3; try clear C23_0 C23_1 C23_2 C23_3; try clear C28_0 C28_1 C28_2 C28_3; try clear C29_0 C29_1 C29_2 C29_3; try clear C30_0 C30_1 C30_2 C30_3; try clear C34_0 C34_1 C34_2 C34_3; try clear C36_0 C36_1 C36_2 C36_3; try clear C37_0 C37_1 C37_2 C37_3; try clear C40_0 C40_1 C40_2 C40_3; try clear C43_0 C43_1 C43_2 C43_3; try clear C5_0 C5_1 C5_2 C5_3; try clear C7_0 C7_1 C7_2 C7_3; try clear F11_0 F11_1 F11_2 F11_3; try clear F12_0 F12_1 F12_2 F12_3; try clear F16_0 F16_1 F16_2 F16_3; try clear F18_0 F18_1 F18_2 F18_3; try clear F20_0 F20_1 F20_2 F20_3; try clear F22_0 F22_1 F22_2 F22_3; try clear F23_0 F23_1 F23_2 F23_3; try clear F28_0 F28_1 F28_2 F28_3; try clear F29_0 F29_1 F29_2 F29_3; try clear F30_0 F30_1 F30_2 F30_3; try clear F34_0 F34_1 F34_2 F34_3; try clear F36_0 F36_1 F36_2 F36_3; try clear F37_0 F37_1 F37_2 F37_3; try clear F40_0 F40_1 F40_2 F40_3; try clear F43_0 F43_1 F43_2 F43_3; try clear F5_0 F5_1 F5_2 F5_3; try clear F7_0 F7_1 F7_2 F7_3; try clear p2
            obtain ⟨kq, x88_41, rfl, HA, HJ41, BK194, HB⟩ := hcut
            cases kq with
            | zero => exact absurd HA.out (by simp [spec_OpOk.j5])
            | succ kj41 =>
             have H := HA.out
             clear HA
             simp only [spec_OpOk.j5] at H
             by_cases c46 : x88_41 = true
             ·subst c46
              have H1 : (some (a0_3 == 0)) = some r := by rw [if_pos rfl] at H; exact H
              clear H
              have H := H1
              clear H1
              obtain rfl := Option.some.inj H
              obtain ⟨C47_0, C47_1, C47_2, C47_3, -⟩ := cells_4 BK194.out trivial
              obtain ⟨F47_0, F47_1, F47_2, F47_3, -⟩ := frz_4 BK194.out
              go_wp2
              go_ret
              exact ⟨rz_, bel⟩
             replace c46 := Bool.eq_false_iff.mpr c46
             subst c46
             have H1 : (if a0_0 = 4 then (some (decide (a0_3 ≤ 1))) else (if a0_0 = 2 then (some true) else (some (decide (a0_3 ≥ 1))))) = some r := by rw [if_neg (show ¬ (false = true) by decide)] at H; exact H
             clear H
             have H := H1
             clear H1
             by_cases c48 : a0_0 = 4
             ·rw [if_pos c48] at H
              have c48b0 : (a0_0 == 4) = true := beq_iff_eq.mpr c48
              have c48b1 : (a0_0 != 4) = false := bne_eq_false_iff_eq.mpr c48
              clear c48
              obtain rfl := Option.some.inj H
              obtain ⟨C49_0, C49_1, C49_2, C49_3, -⟩ := cells_4 BK194.out trivial
              obtain ⟨F49_0, F49_1, F49_2, F49_3, -⟩ := frz_4 BK194.out
              go_wp2
              go_ret
              exact ⟨rz_, bel⟩
             rw [if_neg c48] at H
             have c48b0 : (a0_0 == 4) = false := beq_eq_false_iff_ne.mpr c48
             have c48b1 : (a0_0 != 4) = true := bne_iff_ne.mpr c48
             by_cases c50 : a0_0 = 2
             ·rw [if_pos c50] at H
              have c50b0 : (a0_0 == 2) = true := beq_iff_eq.mpr c50
              have c50b1 : (a0_0 != 2) = false := bne_eq_false_iff_eq.mpr c50
              clear c50
              obtain rfl := Option.some.inj H
              go_wp2
              go_ret
              exact ⟨rz_, bel⟩
             rw [if_neg c50] at H
             have c50b0 : (a0_0 == 2) = false := beq_eq_false_iff_ne.mpr c50
             have c50b1 : (a0_0 != 2) = true := bne_iff_ne.mpr c50
             obtain rfl := Option.some.inj H
             obtain ⟨C51_0, C51_1, C51_2, C51_3, -⟩ := cells_4 BK194.out trivial
             obtain ⟨F51_0, F51_1, F51_2, F51_3, -⟩ := frz_4 BK194.out
             go_wp2
             go_ret
             exact ⟨rz_, bel⟩

/-! ### spec_l8name: function 52 -/
def spec_l8name.f (a0 : Int) : Option (ByteArray) := (some (([(⟨#[110, 111, 110, 101]⟩ : ByteArray), (⟨#[115, 101, 116]⟩ : ByteArray), (⟨#[99, 97, 115]⟩ : ByteArray), (⟨#[100, 101, 108]⟩ : ByteArray), (⟨#[111, 112, 101, 110]⟩ : ByteArray), (⟨#[115, 104, 117, 116]⟩ : ByteArray), (⟨#[116, 97, 107, 101]⟩ : ByteArray), (⟨#[102, 114, 101, 101]⟩ : ByteArray)] : List ByteArray) : List ByteArray)).bind fun y198 => (if 0 ≤ a0 then (if a0 < (y198.length : Int) then (some (rdOf ByteArray.empty y198 a0)) else (none)) else (none))
set_option maxHeartbeats 8000000 in
set_option maxRecDepth 100000 in
theorem spec_l8name.calls (a0 : Int) (r : ByteArray) (w : World) (h : spec_l8name.f a0 = some r) :
  Calls Tryd.prog 52 #[.int .i64 a0] w fun e w' => e = .returned (.string r) ∧ Below w.heap.size w w' := by
 have HB := Aside0.mk (Below.refl w.heap.size w)
 have H : ((some (([(⟨#[110, 111, 110, 101]⟩ : ByteArray), (⟨#[115, 101, 116]⟩ : ByteArray), (⟨#[99, 97, 115]⟩ : ByteArray), (⟨#[100, 101, 108]⟩ : ByteArray), (⟨#[111, 112, 101, 110]⟩ : ByteArray), (⟨#[115, 104, 117, 116]⟩ : ByteArray), (⟨#[116, 97, 107, 101]⟩ : ByteArray), (⟨#[102, 114, 101, 101]⟩ : ByteArray)] : List ByteArray) : List ByteArray)).bind fun y198 => (if 0 ≤ a0 then (if a0 < (y198.length : Int) then (some (rdOf ByteArray.empty y198 a0)) else (none)) else (none))) = some r := h
 clear h
 obtain ⟨y198, hy198⟩ : ∃ y_ : List ByteArray, y_ = (([(⟨#[110, 111, 110, 101]⟩ : ByteArray), (⟨#[115, 101, 116]⟩ : ByteArray), (⟨#[99, 97, 115]⟩ : ByteArray), (⟨#[100, 101, 108]⟩ : ByteArray), (⟨#[111, 112, 101, 110]⟩ : ByteArray), (⟨#[115, 104, 117, 116]⟩ : ByteArray), (⟨#[116, 97, 107, 101]⟩ : ByteArray), (⟨#[102, 114, 101, 101]⟩ : ByteArray)] : List ByteArray)) := ⟨_, rfl⟩
 replace H : (if 0 ≤ a0 then (if a0 < (y198.length : Int) then (some (rdOf ByteArray.empty y198 a0)) else (none)) else (none)) = some r := by first | (rw [hy198]; with_reducible exact H) | (have H2_ := (Option.bind_some _ _).symm.trans H; rw [hy198]; with_reducible exact H2_) | (have H2_ := (Option.bind_some _ _).symm.trans H; with_reducible exact H2_) | with_reducible exact H | (rw [hy198]; exact H) | exact H
 have Ny198 := Aside0.mk hy198
 clear hy198
 by_cases c2 : 0 ≤ a0
 ·rw [if_pos c2] at H
  have c2b0 : decide (0 ≤ a0) = true := decide_eq_true c2
  clear c2
  by_cases c3 : a0 < (y198.length : Int)
  ·rw [if_pos c3] at H
   have c3b0 : decide (a0 < (y198.length : Int)) = true := decide_eq_true c3
   clear c3
   obtain rfl := Option.some.inj H
   go_enter Tryd.func52, Tryd.ntmps52
   go_wp2_with (first | ((with_reducible refine gate_dst (N := 3) rfl ?_); refine Kd.R_lit Kd.string _ 9 ?hg (N := 3) ?hd (xs := ([(⟨#[110, 111, 110, 101]⟩ : ByteArray), (⟨#[115, 101, 116]⟩ : ByteArray), (⟨#[99, 97, 115]⟩ : ByteArray), (⟨#[100, 101, 108]⟩ : ByteArray), (⟨#[111, 112, 101, 110]⟩ : ByteArray), (⟨#[115, 104, 117, 116]⟩ : ByteArray), (⟨#[116, 97, 107, 101]⟩ : ByteArray), (⟨#[102, 114, 101, 101]⟩ : ByteArray)] : List ByteArray)) (inner := [.string (⟨#[110, 111, 110, 101]⟩ : ByteArray), .string (⟨#[115, 101, 116]⟩ : ByteArray), .string (⟨#[99, 97, 115]⟩ : ByteArray), .string (⟨#[100, 101, 108]⟩ : ByteArray), .string (⟨#[111, 112, 101, 110]⟩ : ByteArray), .string (⟨#[115, 104, 117, 116]⟩ : ByteArray), .string (⟨#[116, 97, 107, 101]⟩ : ByteArray), .string (⟨#[102, 114, 101, 101]⟩ : ByteArray)]) (ok := fun _ => True) (okp := fun _ => True) ?hr ?hp (fun _ hk => hk) trivial (Below.refl _ _) (Nat.le_refl _) (by simp) ?_; (case hd => rfl); (case hg => rfl); (case hr => first | (go_simp; done) | (go_simp; rfl)); (case hp => exact (Reps.one (show Kd.M Kd.string _ _ _ (⟨#[110, 111, 110, 101]⟩ : ByteArray) [.string (⟨#[110, 111, 110, 101]⟩ : ByteArray)] from rfl) (Reps.one (show Kd.M Kd.string _ _ _ (⟨#[115, 101, 116]⟩ : ByteArray) [.string (⟨#[115, 101, 116]⟩ : ByteArray)] from rfl) (Reps.one (show Kd.M Kd.string _ _ _ (⟨#[99, 97, 115]⟩ : ByteArray) [.string (⟨#[99, 97, 115]⟩ : ByteArray)] from rfl) (Reps.one (show Kd.M Kd.string _ _ _ (⟨#[100, 101, 108]⟩ : ByteArray) [.string (⟨#[100, 101, 108]⟩ : ByteArray)] from rfl) (Reps.one (show Kd.M Kd.string _ _ _ (⟨#[111, 112, 101, 110]⟩ : ByteArray) [.string (⟨#[111, 112, 101, 110]⟩ : ByteArray)] from rfl) (Reps.one (show Kd.M Kd.string _ _ _ (⟨#[115, 104, 117, 116]⟩ : ByteArray) [.string (⟨#[115, 104, 117, 116]⟩ : ByteArray)] from rfl) (Reps.one (show Kd.M Kd.string _ _ _ (⟨#[116, 97, 107, 101]⟩ : ByteArray) [.string (⟨#[116, 97, 107, 101]⟩ : ByteArray)] from rfl) (Reps.one (show Kd.M Kd.string _ _ _ (⟨#[102, 114, 101, 101]⟩ : ByteArray) [.string (⟨#[102, 114, 101, 101]⟩ : ByteArray)] from rfl) (Reps.none _ _)))))))))); intro v199 w4 ho5 hb hg_ hnew_; clear hg_ hnew_; (first | rw [← Ny198.out] at ho5 | (simp only [Int.reduceToNat] at ho5; rw [← Ny198.out] at ho5)); have HO200 := Aside0.mk (Kd.R_lower ho5 (below_size bel)); replace HB := bst hb; clear hb ho5; obtain ⟨Ao6, co6, eo6⟩ := Kd.R_slice HO200.out; subst eo6; have p201 : 0 ≤ (a0 : Int) := od; have q201 : a0 < (y198.length : Int) := od; obtain ⟨ad201, e201, hx201_0⟩ := Kd.at_string (Kd.R_reads' HO200.out).2.2 a0 p201 q201; cases e201; replace p201 := eq_true p201; replace q201 := eq_true q201))
   go_ret
   exact ⟨rz_, bel⟩
  rw [if_neg c3] at H
  exact absurd H (by simp)
 rw [if_neg c2] at H
 exact absurd H (by simp)

/-! ### spec_l8word: function 61 -/
def spec_l8word.f (l0 : List Int) (l1 : List Int) : Option (List Int) := if (l0.length : Int) > 0 then (if l0.length < 140737488355328 then ((some (l0 ++ [32] : List Int)).bind fun y202 => (if y202.length + l1.length < 140737488355328 then (some (y202 ++ l1)) else (none))) else (none)) else (if l0.length + l1.length < 140737488355328 then (some (l0 ++ l1)) else (none))
set_option maxHeartbeats 8000000 in
set_option maxRecDepth 100000 in
theorem spec_l8word.calls (P0_ : Nat → Prop) (u9000_ : Value) (l0 : List Int) (A1 : Option Addr) (c1 : Nat) (l1 : List Int) (r : List Int) (w0 w : World) (hB : Below w0.heap.size w0 w) (ho0 : RTk w w0.heap.size P0_ u9000_ l0) (hr1 : ∀ W_, Kept w W_ (fun k_ => P0_ k_) → Kd.C (Kd.int .u8) W_ A1 l1.length l1) (hc1 : l1.length ≤ c1) (h : spec_l8word.f l0 l1 = some r) :
  Calls Tryd.prog 61 #[u9000_, .slice A1 l1.length c1] w fun e w' => ∃ v0_ : Value, e = .returned (v0_) ∧ RTk w' w0.heap.size (fun k_ => (P0_ k_ ∨ w.heap.size ≤ k_)) v0_ r ∧ Below w0.heap.size w0 w' ∧ Kept w w' (fun k_ => P0_ k_) := by
 have HO0 := Aside0.mk (show RTk w w0.heap.size (fun k_ => (P0_ k_ ∨ w.heap.size ≤ k_)) u9000_ l0 from RTk_mono ho0 (fun k_ hk => (.inl hk)))
 have HR1 := Aside0.mk hr1
 have HC1 := Aside0.mk hc1
 clear hr1 hc1
 have HK := Aside0.mk (Kept.refl w (fun k_ => P0_ k_))
 have HW0 := Aside0.mk hB.size
 have HB := Aside0.mk hB
 clear hB
 have H : (if (l0.length : Int) > 0 then (if l0.length < 140737488355328 then ((some (l0 ++ [32] : List Int)).bind fun y202 => (if y202.length + l1.length < 140737488355328 then (some (y202 ++ l1)) else (none))) else (none)) else (if l0.length + l1.length < 140737488355328 then (some (l0 ++ l1)) else (none))) = some r := h
 clear h
 by_cases c3 : (l0.length : Int) > 0
 ·rw [if_pos c3] at H
  have c3b0 : decide (0 < (l0.length : Int)) = true := decide_eq_true c3
  have c3b1 : decide (0 < l0.length) = true := decide_eq_true (by omega)
  clear c3
  by_cases c4 : l0.length < 140737488355328
  ·rw [if_pos c4] at H
   have LMc4 := Aside0.mk c4
   clear c4
   obtain ⟨y202, hy202⟩ : ∃ y_ : List Int, y_ = (l0 ++ [32]) := ⟨_, rfl⟩
   replace H : (if y202.length + l1.length < 140737488355328 then (some (y202 ++ l1)) else (none)) = some r := by first | (rw [hy202]; with_reducible exact H) | (have H2_ := (Option.bind_some _ _).symm.trans H; rw [hy202]; with_reducible exact H2_) | (have H2_ := (Option.bind_some _ _).symm.trans H; with_reducible exact H2_) | with_reducible exact H | (rw [hy202]; exact H) | exact H
   have Ny202 := Aside0.mk hy202
   clear hy202
   by_cases c5 : y202.length + l1.length < 140737488355328
   ·rw [if_pos c5] at H
    have LMc5 := Aside0.mk c5
    clear c5
    obtain ⟨y205, hy205⟩ : ∃ y_ : List Int, y_ = (y202 ++ l1) := ⟨_, rfl⟩
    replace H : (some y205) = some r := by first | (rw [hy205]; with_reducible exact H) | (have H2_ := (Option.bind_some _ _).symm.trans H; rw [hy205]; with_reducible exact H2_) | (have H2_ := (Option.bind_some _ _).symm.trans H; with_reducible exact H2_) | with_reducible exact H | (rw [hy205]; exact H) | exact H
    have Ny205 := Aside0.mk hy205
    clear hy205
    obtain rfl := Option.some.inj H
    obtain ⟨Ao6, co6, eo6⟩ := RTk_slice HO0.out
    subst eo6
    go_enter Tryd.func61, Tryd.ntmps61
    go_wp2_with (first | ((with_reducible refine gate_builtin (b := .append) (xs := #[.tmp 8, .tmp 9]) rfl ?_); at_builtin; refine RTk_append (w0 := w0) w0.heap.size rfl (.tmp 8) (.tmp 9) 22 rfl Tryd.underlying22 info5 (.slice Ao6 l0.length co6) l0 32 (fun k_ => (P0_ k_ ∨ w.heap.size ≤ k_)) rfl rfl ?aO ?aF ?aB ?aS ?aL ?_; (case aB => exact bel); (case aF => exact (fun k_ hk => (.inr (Nat.le_trans (by first | exact HK.out.1 | exact (show Kept w _ (fun k_ => P0_ k_) from by repeat (first | (with_reducible first | exact HK.out | apply Kept.alloc | apply Kept.drewN | apply Kept.drew) | exact HK.out)).1) hk)))); (case aO => exact (rtp HO0)); (case aS => exact (below_size bel)); (case aL => have := LMc4.out; omega); intro v203 w7 ho hb hg hat; rw [← Ny202.out] at ho; have n0_ := Aside0.mk (hb); have n1_ := Aside0.mk (Kept.of_grown (S := (fun k_ => P0_ k_)) hg (by repeat (first | (with_reducible first | exact HK.out | apply Kept.alloc | apply Kept.drewN | apply Kept.drew) | exact HK.out)) (fun k_ e_ => (HO0.out.1 k_ e_))); have n2_ := Aside0.mk (ho); clear HB; clear HK; clear HO0; have HB := n0_; have HK := n1_; have HO204 := n2_; clear n0_ n1_ n2_; clear ho hb hg hat) | ((with_reducible refine gate_builtin (b := .append) (xs := #[.tmp 11, .tmp 12]) rfl ?_); at_builtin; refine RTk_append_rows (w0 := w0) w0.heap.size rfl (.tmp 11) (.tmp 12) 22 rfl Tryd.underlying22 info5 v203 y202 l1 _ _ _ (fun k_ => (P0_ k_ ∨ w.heap.size ≤ k_)) rfl rfl ?aO ?aR ?aF ?aB ?aS ?aL ?_; (case aR => exact Kd.C_kept_now HR1.out (by repeat (first | (with_reducible first | exact HK.out | apply Kept.alloc | apply Kept.drewN | apply Kept.drew) | exact HK.out))); (case aB => exact bel); (case aF => exact (fun k_ hk => (.inr (Nat.le_trans (by first | exact HK.out.1 | exact (show Kept w _ (fun k_ => P0_ k_) from by repeat (first | (with_reducible first | exact HK.out | apply Kept.alloc | apply Kept.drewN | apply Kept.drew) | exact HK.out)).1) hk)))); (case aO => exact (rtp HO204)); (case aS => exact (below_size bel)); (case aL => have := LMc5.out; omega); intro v206 w8 ho hb hg hat; rw [← Ny205.out] at ho; have n0_ := Aside0.mk (hb); have n1_ := Aside0.mk (Kept.of_grown (S := (fun k_ => P0_ k_)) hg (by repeat (first | (with_reducible first | exact HK.out | apply Kept.alloc | apply Kept.drewN | apply Kept.drew) | exact HK.out)) (fun k_ e_ => (HO204.out.1 k_ e_))); have n2_ := Aside0.mk (ho); clear HB; clear HK; clear HO204; have HB := n0_; have HK := n1_; have HO207 := n2_; clear n0_ n1_ n2_; clear ho hb hg hat))
    go_ret
    exact ⟨_, rz_, by (with_reducible repeat (first | apply RTk_alloc | apply RTk_drewN | apply RTk_drew)); exact HO207.out, by repeat (first | (with_reducible first | exact HB.out | apply below_alloc | apply pw_below_drewN | apply below_drew1) | exact HB.out), by repeat (first | (with_reducible first | exact HK.out | apply Kept.alloc | apply Kept.drewN | apply Kept.drew) | exact HK.out)⟩
   rw [if_neg c5] at H
   exact absurd H (by simp)
  rw [if_neg c4] at H
  exact absurd H (by simp)
 rw [if_neg c3] at H
 have c3b0 : decide (0 < (l0.length : Int)) = false := decide_eq_false c3
 have c3b1 : decide (0 < l0.length) = false := decide_eq_false (by omega)
 clear c3
 by_cases c9 : l0.length + l1.length < 140737488355328
 ·rw [if_pos c9] at H
  have LMc9 := Aside0.mk c9
  clear c9
  obtain ⟨y208, hy208⟩ : ∃ y_ : List Int, y_ = (l0 ++ l1) := ⟨_, rfl⟩
  replace H : (some y208) = some r := by first | (rw [hy208]; with_reducible exact H) | (have H2_ := (Option.bind_some _ _).symm.trans H; rw [hy208]; with_reducible exact H2_) | (have H2_ := (Option.bind_some _ _).symm.trans H; with_reducible exact H2_) | with_reducible exact H | (rw [hy208]; exact H) | exact H
  have Ny208 := Aside0.mk hy208
  clear hy208
  obtain rfl := Option.some.inj H
  obtain ⟨Ao10, co10, eo10⟩ := RTk_slice HO0.out
  subst eo10
  go_enter Tryd.func61, Tryd.ntmps61
  go_wp2_with (first | ((with_reducible refine gate_builtin (b := .append) (xs := #[.tmp 11, .tmp 12]) rfl ?_); at_builtin; refine RTk_append_rows (w0 := w0) w0.heap.size rfl (.tmp 11) (.tmp 12) 22 rfl Tryd.underlying22 info5 (.slice Ao10 l0.length co10) l0 l1 _ _ _ (fun k_ => (P0_ k_ ∨ w.heap.size ≤ k_)) rfl rfl ?aO ?aR ?aF ?aB ?aS ?aL ?_; (case aR => exact Kd.C_kept_now HR1.out (by repeat (first | (with_reducible first | exact HK.out | apply Kept.alloc | apply Kept.drewN | apply Kept.drew) | exact HK.out))); (case aB => exact bel); (case aF => exact (fun k_ hk => (.inr (Nat.le_trans (by first | exact HK.out.1 | exact (show Kept w _ (fun k_ => P0_ k_) from by repeat (first | (with_reducible first | exact HK.out | apply Kept.alloc | apply Kept.drewN | apply Kept.drew) | exact HK.out)).1) hk)))); (case aO => exact (rtp HO0)); (case aS => exact (below_size bel)); (case aL => have := LMc9.out; omega); intro v209 w11 ho hb hg hat; rw [← Ny208.out] at ho; have n0_ := Aside0.mk (hb); have n1_ := Aside0.mk (Kept.of_grown (S := (fun k_ => P0_ k_)) hg (by repeat (first | (with_reducible first | exact HK.out | apply Kept.alloc | apply Kept.drewN | apply Kept.drew) | exact HK.out)) (fun k_ e_ => (HO0.out.1 k_ e_))); have n2_ := Aside0.mk (ho); clear HB; clear HK; clear HO0; have HB := n0_; have HK := n1_; have HO210 := n2_; clear n0_ n1_ n2_; clear ho hb hg hat))
  go_ret
  exact ⟨_, rz_, by (with_reducible repeat (first | apply RTk_alloc | apply RTk_drewN | apply RTk_drew)); exact HO210.out, by repeat (first | (with_reducible first | exact HB.out | apply below_alloc | apply pw_below_drewN | apply below_drew1) | exact HB.out), by repeat (first | (with_reducible first | exact HK.out | apply Kept.alloc | apply Kept.drewN | apply Kept.drew) | exact HK.out)⟩
 rw [if_neg c9] at H
 exact absurd H (by simp)

/-! ### spec_l8hex: function 74 -/
def spec_l8hex.f (a0 : Int) : Option (Int) := if 0 ≤ a0 then (if a0 < 16 then (some (bt (⟨#[48, 49, 50, 51, 52, 53, 54, 55, 56, 57, 97, 98, 99, 100, 101, 102]⟩ : ByteArray) a0)) else (none)) else (none)
set_option maxHeartbeats 8000000 in
set_option maxRecDepth 100000 in
theorem spec_l8hex.calls (a0 : Int) (r : Int) (w : World) (h : spec_l8hex.f a0 = some r) :
  Calls Tryd.prog 74 #[.int .i64 a0] w fun e w' => e = .returned (.int .u8 r) ∧ Drawn0 w w' := by
 have H : (if 0 ≤ a0 then (if a0 < 16 then (some (bt (⟨#[48, 49, 50, 51, 52, 53, 54, 55, 56, 57, 97, 98, 99, 100, 101, 102]⟩ : ByteArray) a0)) else (none)) else (none)) = some r := h
 clear h
 by_cases c2 : 0 ≤ a0
 ·rw [if_pos c2] at H
  have c2b0 : decide (0 ≤ a0) = true := decide_eq_true c2
  clear c2
  by_cases c3 : a0 < 16
  ·rw [if_pos c3] at H
   have c3b0 : decide (a0 < 16) = true := decide_eq_true c3
   clear c3
   obtain rfl := Option.some.inj H
   have p4 : 0 ≤ (a0 : Int) := od
   have q4 : a0 < (16 : Int) := od
   have hx4 := bt_at (⟨#[48, 49, 50, 51, 52, 53, 54, 55, 56, 57, 97, 98, 99, 100, 101, 102]⟩ : ByteArray) a0
   replace p4 := eq_true p4
   replace q4 := eq_true q4
   go_enter Tryd.func74, Tryd.ntmps74
   go_wp2
   go_ret
   exact ⟨by first | rfl | (simp; done) | (simp [*]; done), by repeat (first | exact Drawn0.refl _ | apply Drawn0.step)⟩
  rw [if_neg c3] at H
  exact absurd H (by simp)
 rw [if_neg c2] at H
 exact absurd H (by simp)

end Go.Proofs.YtmnjdmmljkahgaaDoor.PE
