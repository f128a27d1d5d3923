-- Written for this claim by the session's program pp.py, out of the kit's print and the seat's translation.
import Derived.Test.YtoaddpfoecggpaaPSx0
namespace Go.Proofs.Ytoaddpfoecggpaa.PS
open Go.RowKit Go.Proofs.YtoaddpfoecggpaaW.PrintWords Go.Proofs.YtoaddpfoecggpaaW.PrintLast Go.Proofs.YtoaddpfoecggpaaW.PrintMore
attribute [local go_sem] max2_int min2_int max_two min_two max_three min_three max_four min_four   -- for this text's walks alone
set_option linter.unusedVariables false
set_option linter.unusedSimpArgs false

/-! ### spec_l6ok: function 59 -/
mutual
def spec_l6ok.j0 : Nat → Int → Int → Bool → List Int → Bool → Int → List (S30) → Option (Int)
 | 0, _, _, _, _, _, _, _ => none
 | k + 1, x2, x3, x72, x190000, x190001, x190002, x190003 => if x72 = true then (some (-1)) else (spec_l6ok.l0 k x2 x3 0 x190000 x190001 x190002 x190003)
def spec_l6ok.l0 : Nat → Int → Int → Int → List Int → Bool → Int → List (S30) → Option (Int)
 | 0, _, _, _, _, _, _, _ => none
 | k + 1, x2, x3, x9, x190000, x190001, x190002, x190003 => if x9 < (x190003.length : Int) then (if 0 ≤ x9 then (if (((rd_T30 x190003 x9).f0).length : Int) = 0 then (spec_l6ok.j2 k x2 x3 x9 true x190000 x190001 x190002 x190003 ((rd_T30 x190003 x9).f0) ((rd_T30 x190003 x9).f1) ((rd_T30 x190003 x9).f2) ((rd_T30 x190003 x9).f3)) else (if x9 > 0 then (if 0 ≤ (wrap64 (x9 - 1)) then (if (wrap64 (x9 - 1)) < (x190003.length : Int) then (if 0 < (((rd_T30 x190003 (wrap64 (x9 - 1))).f0).length : Int) then (if 0 < (((rd_T30 x190003 x9).f0).length : Int) then (spec_l6ok.j2 k x2 x3 x9 (decide ((rd ((rd_T30 x190003 (wrap64 (x9 - 1))).f0) 0) ≥ (rd ((rd_T30 x190003 x9).f0) 0))) x190000 x190001 x190002 x190003 ((rd_T30 x190003 x9).f0) ((rd_T30 x190003 x9).f1) ((rd_T30 x190003 x9).f2) ((rd_T30 x190003 x9).f3)) else (none)) else (none)) else (none)) else (none)) else (spec_l6ok.j2 k x2 x3 x9 false x190000 x190001 x190002 x190003 ((rd_T30 x190003 x9).f0) ((rd_T30 x190003 x9).f1) ((rd_T30 x190003 x9).f2) ((rd_T30 x190003 x9).f3)))) else (none)) else (some x2)
def spec_l6ok.j2 : Nat → Int → Int → Int → Bool → List Int → Bool → Int → List (S30) → List Int → Bool → Int → List (S30) → Option (Int)
 | 0, _, _, _, _, _, _, _, _, _, _, _, _ => none
 | k + 1, x2, x3, x9, x108, x190000, x190001, x190002, x190003, x192000, x192001, x192002, x192003 => if x108 = true then (some (-1)) else ((spec_l6ok.f k x192000 x192001 x192002 x192003 false x2 (wrap64 (x3 + 1))).bind fun t195 => (if t195 < 0 then (some (-1)) else (spec_l6ok.l0 k t195 x3 (wrap64 (x9 + 1)) x190000 x190001 x190002 x190003)))
def spec_l6ok.f : Nat → List Int → Bool → Int → List (S30) → Bool → Int → Int → Option (Int)
 | 0, _, _, _, _, _, _, _ => none
 | k + 1, l0_0, a0_1, a0_2, l0_3, a1, a2, a3 => if (wrap64 (a2 - 1)) < 0 then (spec_l6ok.j0 k (wrap64 (a2 - 1)) a3 true l0_0 a0_1 a0_2 l0_3) else (if a3 > 24 then (spec_l6ok.j0 k (wrap64 (a2 - 1)) a3 true l0_0 a0_1 a0_2 l0_3) else (if a1 = true then (if (l0_0.length : Int) > 0 then (spec_l6ok.j0 k (wrap64 (a2 - 1)) a3 true l0_0 a0_1 a0_2 l0_3) else (if a0_1 = true then (if a0_2 < 0 then (spec_l6ok.j0 k (wrap64 (a2 - 1)) a3 true l0_0 a0_1 a0_2 l0_3) else (if a0_2 > 2147483647 then (spec_l6ok.j0 k (wrap64 (a2 - 1)) a3 true l0_0 a0_1 a0_2 l0_3) else (spec_l6ok.j0 k (wrap64 (a2 - 1)) a3 false l0_0 a0_1 a0_2 l0_3))) else (if a0_2 = 0 then (if a0_2 < 0 then (spec_l6ok.j0 k (wrap64 (a2 - 1)) a3 true l0_0 a0_1 a0_2 l0_3) else (if a0_2 > 2147483647 then (spec_l6ok.j0 k (wrap64 (a2 - 1)) a3 true l0_0 a0_1 a0_2 l0_3) else (spec_l6ok.j0 k (wrap64 (a2 - 1)) a3 false l0_0 a0_1 a0_2 l0_3))) else (spec_l6ok.j0 k (wrap64 (a2 - 1)) a3 true l0_0 a0_1 a0_2 l0_3)))) else (if (l0_0.length : Int) = 0 then (spec_l6ok.j0 k (wrap64 (a2 - 1)) a3 true l0_0 a0_1 a0_2 l0_3) else (if a0_1 = true then (if a0_2 < 0 then (spec_l6ok.j0 k (wrap64 (a2 - 1)) a3 true l0_0 a0_1 a0_2 l0_3) else (if a0_2 > 2147483647 then (spec_l6ok.j0 k (wrap64 (a2 - 1)) a3 true l0_0 a0_1 a0_2 l0_3) else (spec_l6ok.j0 k (wrap64 (a2 - 1)) a3 false l0_0 a0_1 a0_2 l0_3))) else (if a0_2 = 0 then (if a0_2 < 0 then (spec_l6ok.j0 k (wrap64 (a2 - 1)) a3 true l0_0 a0_1 a0_2 l0_3) else (if a0_2 > 2147483647 then (spec_l6ok.j0 k (wrap64 (a2 - 1)) a3 true l0_0 a0_1 a0_2 l0_3) else (spec_l6ok.j0 k (wrap64 (a2 - 1)) a3 (decide ((l0_3.length : Int) < 2)) l0_0 a0_1 a0_2 l0_3))) else (spec_l6ok.j0 k (wrap64 (a2 - 1)) a3 true l0_0 a0_1 a0_2 l0_3))))))
end
set_option maxHeartbeats 8000000 in
set_option maxRecDepth 100000 in
theorem spec_l6ok.calls (k : Nat) : ∀ (A0_0 : Option Addr) (c0_0 : Nat) (l0_0 : List Int) (a0_1 : Bool) (a0_2 : Int) (A0_3 : Option Addr) (c0_3 : Nat) (l0_3 : List (S30)) (a1 : Bool) (a2 : Int) (a3 : Int) (r : Int) (w : World) (hr0_0 : Kd.C (Kd.int .u8) w A0_0 l0_0.length l0_0) (hc0_0 : l0_0.length ≤ c0_0) (hr0_3 : Kd.C k30 w A0_3 l0_3.length l0_3) (hc0_3 : l0_3.length ≤ c0_3) (h : spec_l6ok.f k l0_0 a0_1 a0_2 l0_3 a1 a2 a3 = some r),
  Calls Try.prog 59 #[.agg #[.slice A0_0 l0_0.length c0_0, .bool a0_1, .int .i64 a0_2, .slice A0_3 l0_3.length c0_3], .bool a1, .int .i64 a2, .int .i64 a3] w fun e w' => e = .returned (.int .i64 r) ∧ Below w.heap.size w w' := by
 induction k using Nat.strongRecOn with
 | _ k ih =>
 intro A0_0 c0_0 l0_0 a0_1 a0_2 A0_3 c0_3 l0_3 a1 a2 a3 r w hr0_0 hc0_0 hr0_3 hc0_3 h
 cases k with
 | zero => exact absurd h (by simp [spec_l6ok.f])
 | succ k =>
 simp only [spec_l6ok.f] at h
 have hu30 := Try.underlying30
 have HR0_0 := Aside0.mk hr0_0
 have HC0_0 := Aside0.mk hc0_0
 clear hr0_0 hc0_0
 have HR0_3 := Aside0.mk hr0_3
 have HC0_3 := Aside0.mk hc0_3
 clear hr0_3 hc0_3
 have HB := Aside0.mk (Below.refl w.heap.size w)
 have H : (if (wrap64 (a2 - 1)) < 0 then (spec_l6ok.j0 k (wrap64 (a2 - 1)) a3 true l0_0 a0_1 a0_2 l0_3) else (if a3 > 24 then (spec_l6ok.j0 k (wrap64 (a2 - 1)) a3 true l0_0 a0_1 a0_2 l0_3) else (if a1 = true then (if (l0_0.length : Int) > 0 then (spec_l6ok.j0 k (wrap64 (a2 - 1)) a3 true l0_0 a0_1 a0_2 l0_3) else (if a0_1 = true then (if a0_2 < 0 then (spec_l6ok.j0 k (wrap64 (a2 - 1)) a3 true l0_0 a0_1 a0_2 l0_3) else (if a0_2 > 2147483647 then (spec_l6ok.j0 k (wrap64 (a2 - 1)) a3 true l0_0 a0_1 a0_2 l0_3) else (spec_l6ok.j0 k (wrap64 (a2 - 1)) a3 false l0_0 a0_1 a0_2 l0_3))) else (if a0_2 = 0 then (if a0_2 < 0 then (spec_l6ok.j0 k (wrap64 (a2 - 1)) a3 true l0_0 a0_1 a0_2 l0_3) else (if a0_2 > 2147483647 then (spec_l6ok.j0 k (wrap64 (a2 - 1)) a3 true l0_0 a0_1 a0_2 l0_3) else (spec_l6ok.j0 k (wrap64 (a2 - 1)) a3 false l0_0 a0_1 a0_2 l0_3))) else (spec_l6ok.j0 k (wrap64 (a2 - 1)) a3 true l0_0 a0_1 a0_2 l0_3)))) else (if (l0_0.length : Int) = 0 then (spec_l6ok.j0 k (wrap64 (a2 - 1)) a3 true l0_0 a0_1 a0_2 l0_3) else (if a0_1 = true then (if a0_2 < 0 then (spec_l6ok.j0 k (wrap64 (a2 - 1)) a3 true l0_0 a0_1 a0_2 l0_3) else (if a0_2 > 2147483647 then (spec_l6ok.j0 k (wrap64 (a2 - 1)) a3 true l0_0 a0_1 a0_2 l0_3) else (spec_l6ok.j0 k (wrap64 (a2 - 1)) a3 false l0_0 a0_1 a0_2 l0_3))) else (if a0_2 = 0 then (if a0_2 < 0 then (spec_l6ok.j0 k (wrap64 (a2 - 1)) a3 true l0_0 a0_1 a0_2 l0_3) else (if a0_2 > 2147483647 then (spec_l6ok.j0 k (wrap64 (a2 - 1)) a3 true l0_0 a0_1 a0_2 l0_3) else (spec_l6ok.j0 k (wrap64 (a2 - 1)) a3 (decide ((l0_3.length : Int) < 2)) l0_0 a0_1 a0_2 l0_3))) else (spec_l6ok.j0 k (wrap64 (a2 - 1)) a3 true l0_0 a0_1 a0_2 l0_3))))))) = some r := h
 clear h
 have HC5 := Aside0.mk H
 clear H
 go_enter Try.func59, Try.ntmps59
 go_upto_region 2 with (first | ((with_reducible refine gate_dst (N := 4) rfl ?_); (try (refine gate_guard (by rfl) ?_; dsimp only)); refine bx_ 4 #[.slice A0_0 l0_0.length c0_0, .bool a0_1, .int .i64 a0_2, .slice A0_3 l0_3.length c0_3] 30 (h := ?_); intro gb189 hg w6 hbox hb; have BK189 := Aside0.mk (hbox); have GW189 := Aside0.mk ((by rw [hg]; exact (below_size bel) : w.heap.size ≤ gb189)); have GE189 := GW189; replace HB := bst hb; clear hb hbox hg))
 repeat (go_quiet (first | ((with_reducible refine gate_dst (N := 4) rfl ?_); (try (refine gate_guard (by rfl) ?_; dsimp only)); refine bx_ 4 #[.slice A0_0 l0_0.length c0_0, .bool a0_1, .int .i64 a0_2, .slice A0_3 l0_3.length c0_3] 30 (h := ?_); intro gb189 hg w6 hbox hb; have BK189 := Aside0.mk (hbox); have GW189 := Aside0.mk ((by rw [hg]; exact (below_size bel) : w.heap.size ≤ gb189)); have GE189 := GW189; replace HB := bst hb; clear hb hbox hg)); go_upto_region 2 with (first | ((with_reducible refine gate_dst (N := 4) rfl ?_); (try (refine gate_guard (by rfl) ?_; dsimp only)); refine bx_ 4 #[.slice A0_0 l0_0.length c0_0, .bool a0_1, .int .i64 a0_2, .slice A0_3 l0_3.length c0_3] 30 (h := ?_); intro gb189 hg w6 hbox hb; have BK189 := Aside0.mk (hbox); have GW189 := Aside0.mk ((by rw [hg]; exact (below_size bel) : w.heap.size ≤ gb189)); have GE189 := GW189; replace HB := bst hb; clear hb hbox hg)))
 (try simp only [Act.put, List.setIfInBounds_toArray, List.set_cons_zero, List.set_cons_succ])
 go_cut [72] (fun v72 wc => ∃ (kq : Nat) (x72_4 : Bool), v72 = .bool x72_4 ∧ Aside0 (spec_l6ok.j0 kq (wrap64 (a2 - 1)) a3 x72_4 l0_0 a0_1 a0_2 l0_3 = some r) ∧ Aside0 (kq ≤ k) ∧ Aside0 (wc.heap[gb189]? = some (.cells #[(.slice A0_0 l0_0.length c0_0), .bool a0_1, .int .i64 a0_2, (.slice A0_3 l0_3.length c0_3)] 30 (0, 0))) ∧ Aside0 (Below w.heap.size w wc))
 case first =>
  have H := HC5.out
  clear HC5
  by_cases c7 : (wrap64 (a2 - 1)) < 0
  ·rw [if_pos c7] at H
   have c7b0 : decide ((wrap64 (a2 - 1)) < 0) = true := decide_eq_true c7
   clear c7
   (first | rw [c7b0] | (simp only [i64_w, i32_w]; rw [c7b0]) | skip)
   have H' := Aside0.mk H
   clear H
   go_wp2
   repeat (go_quiet (fail); try go_wp2)
   go_meet
   case rel => exact ⟨_, (true), rs_, H', ⟨by first | omega | exact Nat.le_refl _⟩, ⟨bkp BK189⟩, ⟨bel⟩⟩
  rw [if_neg c7] at H
  have c7b0 : decide ((wrap64 (a2 - 1)) < 0) = false := decide_eq_false c7
  clear c7
  (first | rw [c7b0] | (simp only [i64_w, i32_w]; rw [c7b0]) | skip)
  by_cases c8 : a3 > 24
  ·rw [if_pos c8] at H
   have c8b0 : decide (24 < a3) = true := decide_eq_true c8
   clear c8
   have H' := Aside0.mk H
   clear H
   go_wp2
   repeat (go_quiet (fail); try go_wp2)
   go_meet
   case rel => exact ⟨_, (true), rs_, H', ⟨by first | omega | exact Nat.le_refl _⟩, ⟨bkp BK189⟩, ⟨bel⟩⟩
  rw [if_neg c8] at H
  have c8b0 : decide (24 < a3) = false := decide_eq_false c8
  clear c8
  by_cases c9 : a1 = true
  ·subst c9
   have H1 : (if (l0_0.length : Int) > 0 then (spec_l6ok.j0 k (wrap64 (a2 - 1)) a3 true l0_0 a0_1 a0_2 l0_3) else (if a0_1 = true then (if a0_2 < 0 then (spec_l6ok.j0 k (wrap64 (a2 - 1)) a3 true l0_0 a0_1 a0_2 l0_3) else (if a0_2 > 2147483647 then (spec_l6ok.j0 k (wrap64 (a2 - 1)) a3 true l0_0 a0_1 a0_2 l0_3) else (spec_l6ok.j0 k (wrap64 (a2 - 1)) a3 false l0_0 a0_1 a0_2 l0_3))) else (if a0_2 = 0 then (if a0_2 < 0 then (spec_l6ok.j0 k (wrap64 (a2 - 1)) a3 true l0_0 a0_1 a0_2 l0_3) else (if a0_2 > 2147483647 then (spec_l6ok.j0 k (wrap64 (a2 - 1)) a3 true l0_0 a0_1 a0_2 l0_3) else (spec_l6ok.j0 k (wrap64 (a2 - 1)) a3 false l0_0 a0_1 a0_2 l0_3))) else (spec_l6ok.j0 k (wrap64 (a2 - 1)) a3 true l0_0 a0_1 a0_2 l0_3)))) = some r := by rw [if_pos rfl] at H; exact H
   clear H
   have H := H1
   clear H1
   by_cases c10 : (l0_0.length : Int) > 0
   ·rw [if_pos c10] at H
    have c10b0 : decide (0 < (l0_0.length : Int)) = true := decide_eq_true c10
    have c10b1 : decide (0 < l0_0.length) = true := decide_eq_true (by omega)
    clear c10
    have H' := Aside0.mk H
    clear H
    obtain ⟨C11_0, C11_1, C11_2, C11_3, -⟩ := cells_4 BK189.out trivial
    obtain ⟨F11_0, F11_1, F11_2, F11_3, -⟩ := frz_4 BK189.out
    go_wp2
    repeat (go_quiet (fail); try go_wp2)
    go_meet
    case rel => exact ⟨_, (true), rs_, H', ⟨by first | omega | exact Nat.le_refl _⟩, ⟨bkp BK189⟩, ⟨bel⟩⟩
   rw [if_neg c10] at H
   have c10b0 : decide (0 < (l0_0.length : Int)) = false := decide_eq_false c10
   have c10b1 : decide (0 < l0_0.length) = false := decide_eq_false (by omega)
   clear c10
   by_cases c12 : a0_1 = true
   ·subst c12
    have H1 : (if a0_2 < 0 then (spec_l6ok.j0 k (wrap64 (a2 - 1)) a3 true l0_0 true a0_2 l0_3) else (if a0_2 > 2147483647 then (spec_l6ok.j0 k (wrap64 (a2 - 1)) a3 true l0_0 true a0_2 l0_3) else (spec_l6ok.j0 k (wrap64 (a2 - 1)) a3 false l0_0 true a0_2 l0_3))) = some r := by rw [if_pos rfl] at H; exact H
    clear H
    have H := H1
    clear H1
    by_cases c13 : a0_2 < 0
    ·rw [if_pos c13] at H
     have c13b0 : decide (a0_2 < 0) = true := decide_eq_true c13
     clear c13
     have H' := Aside0.mk H
     clear H
     obtain ⟨C14_0, C14_1, C14_2, C14_3, -⟩ := cells_4 BK189.out trivial
     obtain ⟨F14_0, F14_1, F14_2, F14_3, -⟩ := frz_4 BK189.out
     go_wp2
     repeat (go_quiet (fail); try go_wp2)
     go_meet
     case rel => exact ⟨_, (true), rs_, H', ⟨by first | omega | exact Nat.le_refl _⟩, ⟨bkp BK189⟩, ⟨bel⟩⟩
    rw [if_neg c13] at H
    have c13b0 : decide (a0_2 < 0) = false := decide_eq_false c13
    clear c13
    by_cases c15 : a0_2 > 2147483647
    ·rw [if_pos c15] at H
     have c15b0 : decide (2147483647 < a0_2) = true := decide_eq_true c15
     clear c15
     have H' := Aside0.mk H
     clear H
     obtain ⟨C16_0, C16_1, C16_2, C16_3, -⟩ := cells_4 BK189.out trivial
     obtain ⟨F16_0, F16_1, F16_2, F16_3, -⟩ := frz_4 BK189.out
     go_wp2
     repeat (go_quiet (fail); try go_wp2)
     go_meet
     case rel => exact ⟨_, (true), rs_, H', ⟨by first | omega | exact Nat.le_refl _⟩, ⟨bkp BK189⟩, ⟨bel⟩⟩
    rw [if_neg c15] at H
    have c15b0 : decide (2147483647 < a0_2) = false := decide_eq_false c15
    clear c15
    have H' := Aside0.mk H
    clear H
    obtain ⟨C17_0, C17_1, C17_2, C17_3, -⟩ := cells_4 BK189.out trivial
    obtain ⟨F17_0, F17_1, F17_2, F17_3, -⟩ := frz_4 BK189.out
    go_wp2
    repeat (go_quiet (fail); try go_wp2)
    go_meet
    case rel => exact ⟨_, (false), rs_, H', ⟨by first | omega | exact Nat.le_refl _⟩, ⟨bkp BK189⟩, ⟨bel⟩⟩
   replace c12 := Bool.eq_false_iff.mpr c12
   subst c12
   have H1 : (if a0_2 = 0 then (if a0_2 < 0 then (spec_l6ok.j0 k (wrap64 (a2 - 1)) a3 true l0_0 false a0_2 l0_3) else (if a0_2 > 2147483647 then (spec_l6ok.j0 k (wrap64 (a2 - 1)) a3 true l0_0 false a0_2 l0_3) else (spec_l6ok.j0 k (wrap64 (a2 - 1)) a3 false l0_0 false a0_2 l0_3))) else (spec_l6ok.j0 k (wrap64 (a2 - 1)) a3 true l0_0 false a0_2 l0_3)) = some r := by rw [if_neg (show ¬ (false = true) by decide)] at H; exact H
   clear H
   have H := H1
   clear H1
   by_cases c18 : a0_2 = 0
   ·rw [if_pos c18] at H
    have c18b0 : (a0_2 == 0) = true := beq_iff_eq.mpr c18
    have c18b1 : (a0_2 != 0) = false := bne_eq_false_iff_eq.mpr c18
    clear c18
    by_cases c19 : a0_2 < 0
    ·rw [if_pos c19] at H
     have c19b0 : decide (a0_2 < 0) = true := decide_eq_true c19
     clear c19
     have H' := Aside0.mk H
     clear H
     obtain ⟨C20_0, C20_1, C20_2, C20_3, -⟩ := cells_4 BK189.out trivial
     obtain ⟨F20_0, F20_1, F20_2, F20_3, -⟩ := frz_4 BK189.out
     go_wp2
     repeat (go_quiet (fail); try go_wp2)
     go_meet
     case rel => exact ⟨_, (true), rs_, H', ⟨by first | omega | exact Nat.le_refl _⟩, ⟨bkp BK189⟩, ⟨bel⟩⟩
    rw [if_neg c19] at H
    have c19b0 : decide (a0_2 < 0) = false := decide_eq_false c19
    clear c19
    by_cases c21 : a0_2 > 2147483647
    ·rw [if_pos c21] at H
     have c21b0 : decide (2147483647 < a0_2) = true := decide_eq_true c21
     clear c21
     have H' := Aside0.mk H
     clear H
     obtain ⟨C22_0, C22_1, C22_2, C22_3, -⟩ := cells_4 BK189.out trivial
     obtain ⟨F22_0, F22_1, F22_2, F22_3, -⟩ := frz_4 BK189.out
     go_wp2
     repeat (go_quiet (fail); try go_wp2)
     go_meet
     case rel => exact ⟨_, (true), rs_, H', ⟨by first | omega | exact Nat.le_refl _⟩, ⟨bkp BK189⟩, ⟨bel⟩⟩
    rw [if_neg c21] at H
    have c21b0 : decide (2147483647 < a0_2) = false := decide_eq_false c21
    clear c21
    have H' := Aside0.mk H
    clear H
    obtain ⟨C23_0, C23_1, C23_2, C23_3, -⟩ := cells_4 BK189.out trivial
    obtain ⟨F23_0, F23_1, F23_2, F23_3, -⟩ := frz_4 BK189.out
    go_wp2
    repeat (go_quiet (fail); try go_wp2)
    go_meet
    case rel => exact ⟨_, (false), rs_, H', ⟨by first | omega | exact Nat.le_refl _⟩, ⟨bkp BK189⟩, ⟨bel⟩⟩
   rw [if_neg c18] at H
   have c18b0 : (a0_2 == 0) = false := beq_eq_false_iff_ne.mpr c18
   have c18b1 : (a0_2 != 0) = true := bne_iff_ne.mpr c18
   have H' := Aside0.mk H
   clear H
   obtain ⟨C24_0, C24_1, C24_2, C24_3, -⟩ := cells_4 BK189.out trivial
   obtain ⟨F24_0, F24_1, F24_2, F24_3, -⟩ := frz_4 BK189.out
   go_wp2
   repeat (go_quiet (fail); try go_wp2)
   go_meet
   case rel => exact ⟨_, (true), rs_, H', ⟨by first | omega | exact Nat.le_refl _⟩, ⟨bkp BK189⟩, ⟨bel⟩⟩
  replace c9 := Bool.eq_false_iff.mpr c9
  subst c9
  have H1 : (if (l0_0.length : Int) = 0 then (spec_l6ok.j0 k (wrap64 (a2 - 1)) a3 true l0_0 a0_1 a0_2 l0_3) else (if a0_1 = true then (if a0_2 < 0 then (spec_l6ok.j0 k (wrap64 (a2 - 1)) a3 true l0_0 a0_1 a0_2 l0_3) else (if a0_2 > 2147483647 then (spec_l6ok.j0 k (wrap64 (a2 - 1)) a3 true l0_0 a0_1 a0_2 l0_3) else (spec_l6ok.j0 k (wrap64 (a2 - 1)) a3 false l0_0 a0_1 a0_2 l0_3))) else (if a0_2 = 0 then (if a0_2 < 0 then (spec_l6ok.j0 k (wrap64 (a2 - 1)) a3 true l0_0 a0_1 a0_2 l0_3) else (if a0_2 > 2147483647 then (spec_l6ok.j0 k (wrap64 (a2 - 1)) a3 true l0_0 a0_1 a0_2 l0_3) else (spec_l6ok.j0 k (wrap64 (a2 - 1)) a3 (decide ((l0_3.length : Int) < 2)) l0_0 a0_1 a0_2 l0_3))) else (spec_l6ok.j0 k (wrap64 (a2 - 1)) a3 true l0_0 a0_1 a0_2 l0_3)))) = some r := by rw [if_neg (show ¬ (false = true) by decide)] at H; exact H
  clear H
  have H := H1
  clear H1
  by_cases c25 : (l0_0.length : Int) = 0
  ·rw [if_pos c25] at H
   have c25b0 : ((l0_0.length : Int) == 0) = true := beq_iff_eq.mpr c25
   have c25b1 : ((l0_0.length : Int) != 0) = false := bne_eq_false_iff_eq.mpr c25
   clear c25
   have H' := Aside0.mk H
   clear H
   obtain ⟨C26_0, C26_1, C26_2, C26_3, -⟩ := cells_4 BK189.out trivial
   obtain ⟨F26_0, F26_1, F26_2, F26_3, -⟩ := frz_4 BK189.out
   go_wp2
   repeat (go_quiet (fail); try go_wp2)
   go_meet
   case rel => exact ⟨_, (true), rs_, H', ⟨by first | omega | exact Nat.le_refl _⟩, ⟨bkp BK189⟩, ⟨bel⟩⟩
  rw [if_neg c25] at H
  have c25b0 : ((l0_0.length : Int) == 0) = false := beq_eq_false_iff_ne.mpr c25
  have c25b1 : ((l0_0.length : Int) != 0) = true := bne_iff_ne.mpr c25
  have c25b2 : ¬ (l0_0 = []) := fun h_ => c25 (by rw [h_]; rfl)
  by_cases c27 : a0_1 = true
  ·subst c27
   have H1 : (if a0_2 < 0 then (spec_l6ok.j0 k (wrap64 (a2 - 1)) a3 true l0_0 true a0_2 l0_3) else (if a0_2 > 2147483647 then (spec_l6ok.j0 k (wrap64 (a2 - 1)) a3 true l0_0 true a0_2 l0_3) else (spec_l6ok.j0 k (wrap64 (a2 - 1)) a3 false l0_0 true a0_2 l0_3))) = some r := by rw [if_pos rfl] at H; exact H
   clear H
   have H := H1
   clear H1
   by_cases c28 : a0_2 < 0
   ·rw [if_pos c28] at H
    have c28b0 : decide (a0_2 < 0) = true := decide_eq_true c28
    clear c28
    have H' := Aside0.mk H
    clear H
    obtain ⟨C29_0, C29_1, C29_2, C29_3, -⟩ := cells_4 BK189.out trivial
    obtain ⟨F29_0, F29_1, F29_2, F29_3, -⟩ := frz_4 BK189.out
    go_wp2
    repeat (go_quiet (fail); try go_wp2)
    go_meet
    case rel => exact ⟨_, (true), rs_, H', ⟨by first | omega | exact Nat.le_refl _⟩, ⟨bkp BK189⟩, ⟨bel⟩⟩
   rw [if_neg c28] at H
   have c28b0 : decide (a0_2 < 0) = false := decide_eq_false c28
   clear c28
   by_cases c30 : a0_2 > 2147483647
   ·rw [if_pos c30] at H
    have c30b0 : decide (2147483647 < a0_2) = true := decide_eq_true c30
    clear c30
    have H' := Aside0.mk H
    clear H
    obtain ⟨C31_0, C31_1, C31_2, C31_3, -⟩ := cells_4 BK189.out trivial
    obtain ⟨F31_0, F31_1, F31_2, F31_3, -⟩ := frz_4 BK189.out
    go_wp2
    repeat (go_quiet (fail); try go_wp2)
    go_meet
    case rel => exact ⟨_, (true), rs_, H', ⟨by first | omega | exact Nat.le_refl _⟩, ⟨bkp BK189⟩, ⟨bel⟩⟩
   rw [if_neg c30] at H
   have c30b0 : decide (2147483647 < a0_2) = false := decide_eq_false c30
   clear c30
   have H' := Aside0.mk H
   clear H
   obtain ⟨C32_0, C32_1, C32_2, C32_3, -⟩ := cells_4 BK189.out trivial
   obtain ⟨F32_0, F32_1, F32_2, F32_3, -⟩ := frz_4 BK189.out
   go_wp2
   repeat (go_quiet (fail); try go_wp2)
   go_meet
   case rel => exact ⟨_, (false), rs_, H', ⟨by first | omega | exact Nat.le_refl _⟩, ⟨bkp BK189⟩, ⟨bel⟩⟩
  replace c27 := Bool.eq_false_iff.mpr c27
  subst c27
  have H1 : (if a0_2 = 0 then (if a0_2 < 0 then (spec_l6ok.j0 k (wrap64 (a2 - 1)) a3 true l0_0 false a0_2 l0_3) else (if a0_2 > 2147483647 then (spec_l6ok.j0 k (wrap64 (a2 - 1)) a3 true l0_0 false a0_2 l0_3) else (spec_l6ok.j0 k (wrap64 (a2 - 1)) a3 (decide ((l0_3.length : Int) < 2)) l0_0 false a0_2 l0_3))) else (spec_l6ok.j0 k (wrap64 (a2 - 1)) a3 true l0_0 false a0_2 l0_3)) = some r := by rw [if_neg (show ¬ (false = true) by decide)] at H; exact H
  clear H
  have H := H1
  clear H1
  by_cases c33 : a0_2 = 0
  ·rw [if_pos c33] at H
   have c33b0 : (a0_2 == 0) = true := beq_iff_eq.mpr c33
   have c33b1 : (a0_2 != 0) = false := bne_eq_false_iff_eq.mpr c33
   clear c33
   by_cases c34 : a0_2 < 0
   ·rw [if_pos c34] at H
    have c34b0 : decide (a0_2 < 0) = true := decide_eq_true c34
    clear c34
    have H' := Aside0.mk H
    clear H
    obtain ⟨C35_0, C35_1, C35_2, C35_3, -⟩ := cells_4 BK189.out trivial
    obtain ⟨F35_0, F35_1, F35_2, F35_3, -⟩ := frz_4 BK189.out
    go_wp2
    repeat (go_quiet (fail); try go_wp2)
    go_meet
    case rel => exact ⟨_, (true), rs_, H', ⟨by first | omega | exact Nat.le_refl _⟩, ⟨bkp BK189⟩, ⟨bel⟩⟩
   rw [if_neg c34] at H
   have c34b0 : decide (a0_2 < 0) = false := decide_eq_false c34
   clear c34
   by_cases c36 : a0_2 > 2147483647
   ·rw [if_pos c36] at H
    have c36b0 : decide (2147483647 < a0_2) = true := decide_eq_true c36
    clear c36
    have H' := Aside0.mk H
    clear H
    obtain ⟨C37_0, C37_1, C37_2, C37_3, -⟩ := cells_4 BK189.out trivial
    obtain ⟨F37_0, F37_1, F37_2, F37_3, -⟩ := frz_4 BK189.out
    go_wp2
    repeat (go_quiet (fail); try go_wp2)
    go_meet
    case rel => exact ⟨_, (true), rs_, H', ⟨by first | omega | exact Nat.le_refl _⟩, ⟨bkp BK189⟩, ⟨bel⟩⟩
   rw [if_neg c36] at H
   have c36b0 : decide (2147483647 < a0_2) = false := decide_eq_false c36
   clear c36
   have H' := Aside0.mk H
   clear H
   obtain ⟨C38_0, C38_1, C38_2, C38_3, -⟩ := cells_4 BK189.out trivial
   obtain ⟨F38_0, F38_1, F38_2, F38_3, -⟩ := frz_4 BK189.out
   go_wp2
   repeat (go_quiet (fail); try go_wp2)
   go_meet
   case rel => exact ⟨_, (decide ((l0_3.length : Int) < 2)), rs_, H', ⟨by first | omega | exact Nat.le_refl _⟩, ⟨bkp BK189⟩, ⟨bel⟩⟩
  rw [if_neg c33] at H
  have c33b0 : (a0_2 == 0) = false := beq_eq_false_iff_ne.mpr c33
  have c33b1 : (a0_2 != 0) = true := bne_iff_ne.mpr c33
  have H' := Aside0.mk H
  clear H
  obtain ⟨C39_0, C39_1, C39_2, C39_3, -⟩ := cells_4 BK189.out trivial
  obtain ⟨F39_0, F39_1, F39_2, F39_3, -⟩ := frz_4 BK189.out
  go_wp2
  repeat (go_quiet (fail); try go_wp2)
  go_meet
  case rel => exact ⟨_, (true), rs_, H', ⟨by first | omega | exact Nat.le_refl _⟩, ⟨bkp BK189⟩, ⟨bel⟩⟩
 case rest =>
  clear HC5
  try clear c1; try clear c2; try clear p2; try clear c3; try clear c5; try clear p6; try clear c7; try clear c7b0; try clear c8; try clear c8b0; try clear c9; try clear c10; try clear c10b0; try clear c10b1; try clear c12; try clear c13; try clear c13b0; try clear c15; try clear c15b0; try clear c18; try clear c18b0; try clear c18b1; try clear c19; try clear c19b0; try clear c21; try clear c21b0; try clear c25; try clear c25b0; try clear c25b1; try clear c25b2; try clear c27; try clear c28; try clear c28b0; try clear c30; try clear c30b0; try clear c33; try clear c33b0; try clear c33b1; try clear c34; try clear c34b0; try clear c36; try clear c36b0; try clear C11_0 C11_1 C11_2 C11_3; try clear C14_0 C14_1 C14_2 C14_3; try clear C16_0 C16_1 C16_2 C16_3; try clear C17_0 C17_1 C17_2 C17_3; try clear C20_0 C20_1 C20_2 C20_3; try clear C22_0 C22_1 C22_2 C22_3; try clear C23_0 C23_1 C23_2 C23_3; try clear C24_0 C24_1 C24_2 C24_3; try clear C26_0 C26_1 C26_2 C26_3; try clear C29_0 C29_1 C29_2 C29_3; try clear C31_0 C31_1 C31_2 C31_3; try clear C32_0 C32_1 C32_2 C32_3; try clear C35_0 C35_1 C35_2 C35_3; try clear C37_0 C37_1 C37_2 C37_3; try clear C38_0 C38_1 C38_2 C38_3; try clear C39_0 C39_1 C39_2 C39_3; try clear F11_0 F11_1 F11_2 F11_3; try clear F14_0 F14_1 F14_2 F14_3; try clear F16_0 F16_1 F16_2 F16_3; try clear F17_0 F17_1 F17_2 F17_3; try clear F20_0 F20_1 F20_2 F20_3; try clear F22_0 F22_1 F22_2 F22_3; try clear F23_0 F23_1 F23_2 F23_3; try clear F24_0 F24_1 F24_2 F24_3; try clear F26_0 F26_1 F26_2 F26_3; try clear F29_0 F29_1 F29_2 F29_3; try clear F31_0 F31_1 F31_2 F31_3; try clear F32_0 F32_1 F32_2 F32_3; try clear F35_0 F35_1 F35_2 F35_3; try clear F37_0 F37_1 F37_2 F37_3; try clear F38_0 F38_1 F38_2 F38_3; try clear F39_0 F39_1 F39_2 F39_3
  obtain ⟨kq, x72_4, rfl, HA, HJ4, BK189, HB⟩ := hcut
  cases kq with
  | zero => exact absurd HA.out (by simp [spec_l6ok.j0])
  | succ kj4 =>
   have H := HA.out
   clear HA
   simp only [spec_l6ok.j0] at H
   by_cases c40 : x72_4 = true
   ·subst c40
    have H1 : (some (-1)) = some r := by rw [if_pos rfl] at H; exact H
    clear H
    have H := H1
    clear H1
    obtain rfl := Option.some.inj H
    go_wp2
    repeat (go_quiet (fail); try go_wp2)
    go_ret
    exact ⟨rz_, bel⟩
   replace c40 := Bool.eq_false_iff.mpr c40
   subst c40
   have H1 : (spec_l6ok.l0 kj4 (wrap64 (a2 - 1)) a3 0 l0_0 a0_1 a0_2 l0_3) = some r := by rw [if_neg (show ¬ (false = true) by decide)] at H; exact H
   clear H
   have H := H1
   clear H1
   have H' := Aside0.mk H
   clear H
   go_wp2
   repeat (go_quiet (fail); try go_wp2)
   go_loopg [2, 9] kj4 (fun kq v2 v9 w' => ∃ (x2_2 : Int) (x9_2 : Int), v2 = .int .i64 x2_2 ∧ v9 = .int .i64 x9_2 ∧ Aside0 (spec_l6ok.l0 kq x2_2 a3 x9_2 l0_0 a0_1 a0_2 l0_3 = some r) ∧ Aside0 (kq ≤ kj4) ∧ Aside0 (w'.heap[gb189]? = some (.cells #[(.slice A0_0 l0_0.length c0_0), .bool a0_1, .int .i64 a0_2, (.slice A0_3 l0_3.length c0_3)] 30 (0, 0))) ∧ Aside0 (Below w.heap.size w w'))
   case atStart => exact ⟨((wrap64 (a2 - 1))), (0), rs_, rs_, H', ⟨Nat.le_refl _⟩, ⟨bkp BK189⟩, ⟨bel⟩⟩
   case round =>
    clear H'
    try clear c1; try clear c2; try clear p2; try clear c3; try clear c4; try clear c5; try clear p6; try clear c7; try clear c7b0; try clear c8; try clear c8b0; try clear c9; try clear c10; try clear c10b0; try clear c10b1; try clear c12; try clear c13; try clear c13b0; try clear c15; try clear c15b0; try clear c18; try clear c18b0; try clear c18b1; try clear c19; try clear c19b0; try clear c21; try clear c21b0; try clear c25; try clear c25b0; try clear c25b1; try clear c25b2; try clear c27; try clear c28; try clear c28b0; try clear c30; try clear c30b0; try clear c33; try clear c33b0; try clear c33b1; try clear c34; try clear c34b0; try clear c36; try clear c36b0; try clear c40; try clear C11_0 C11_1 C11_2 C11_3; try clear C14_0 C14_1 C14_2 C14_3; try clear C16_0 C16_1 C16_2 C16_3; try clear C17_0 C17_1 C17_2 C17_3; try clear C20_0 C20_1 C20_2 C20_3; try clear C22_0 C22_1 C22_2 C22_3; try clear C23_0 C23_1 C23_2 C23_3; try clear C24_0 C24_1 C24_2 C24_3; try clear C26_0 C26_1 C26_2 C26_3; try clear C29_0 C29_1 C29_2 C29_3; try clear C31_0 C31_1 C31_2 C31_3; try clear C32_0 C32_1 C32_2 C32_3; try clear C35_0 C35_1 C35_2 C35_3; try clear C37_0 C37_1 C37_2 C37_3; try clear C38_0 C38_1 C38_2 C38_3; try clear C39_0 C39_1 C39_2 C39_3; try clear F11_0 F11_1 F11_2 F11_3; try clear F14_0 F14_1 F14_2 F14_3; try clear F16_0 F16_1 F16_2 F16_3; try clear F17_0 F17_1 F17_2 F17_3; try clear F20_0 F20_1 F20_2 F20_3; try clear F22_0 F22_1 F22_2 F22_3; try clear F23_0 F23_1 F23_2 F23_3; try clear F24_0 F24_1 F24_2 F24_3; try clear F26_0 F26_1 F26_2 F26_3; try clear F29_0 F29_1 F29_2 F29_3; try clear F31_0 F31_1 F31_2 F31_3; try clear F32_0 F32_1 F32_2 F32_3; try clear F35_0 F35_1 F35_2 F35_3; try clear F37_0 F37_1 F37_2 F37_3; try clear F38_0 F38_1 F38_2 F38_3; try clear F39_0 F39_1 F39_2 F39_3; try clear p2; try clear p6
    obtain ⟨x2_2, x9_2, rfl, rfl, HA, HK2, BK189, HB⟩ := hrel
    cases gk with
    | zero => exact absurd HA.out (by simp [spec_l6ok.l0])
    | succ k2 =>
     have H := HA.out
     clear HA
     simp only [spec_l6ok.l0] at H
     by_cases c41 : x9_2 < (l0_3.length : Int)
     ·rw [if_pos c41] at H
      have c41b0 : decide (x9_2 < (l0_3.length : Int)) = true := decide_eq_true c41
      clear c41
      by_cases c42 : 0 ≤ x9_2
      ·rw [if_pos c42] at H
       have c42b0 : decide (0 ≤ x9_2) = true := decide_eq_true c42
       clear c42
       have HC43 := Aside0.mk H
       clear H
       obtain ⟨C44_0, C44_1, C44_2, C44_3, -⟩ := cells_4 BK189.out trivial
       obtain ⟨F44_0, F44_1, F44_2, F44_3, -⟩ := frz_4 BK189.out
       have p190 : 0 ≤ (x9_2 : Int) := od
       have q190 : x9_2 < (l0_3.length : Int) := od
       obtain ⟨ad190, A190_0, c190_0, A190_3, c190_3, e190, hx190_0, hx190_1, hx190_2, hx190_3, hl190_0, hi190_0, hl190_3, hi190_3⟩ := at_T30 HR0_3.out x9_2 p190 q190
       cases e190
       replace hx190_0 := hxb HB hx190_0
       replace hx190_1 := hxb HB hx190_1
       replace hx190_2 := hxb HB hx190_2
       replace hx190_3 := hxb HB hx190_3
       have HR190_0 := Aside0.mk hi190_0
       have HC190_0 := Aside0.mk hl190_0
       clear hi190_0 hl190_0
       have HR190_3 := Aside0.mk hi190_3
       have HC190_3 := Aside0.mk hl190_3
       clear hi190_3 hl190_3
       replace p190 := eq_true p190
       replace q190 := eq_true q190
       go_upto_region 8 with (first | ((with_reducible refine gate_dst (N := 10) rfl ?_); (try (refine gate_guard (by rfl) ?_; dsimp only)); refine bx_ 10 #[.slice none 0 0, .bool false, .int .i64 0, .slice none 0 0] 30 (h := ?_); intro gb191 hg w45 hbox hb; have BK191 := Aside0.mk (hbox); have GW191 := Aside0.mk ((by rw [hg]; exact (below_size bel) : w.heap.size ≤ gb191)); have GE191 := GW191; have NB189_191 := Aside0.mk ((by rw [hg]; exact Nat.ne_of_lt (blt BK189) : gb189 ≠ gb191)); have NB191_189 := Aside0.mk NB189_191.out.symm; replace BK189 := Aside0.mk (blb BK189 hb); replace HB := bst hb; clear hb hbox hg; have hnb46 := NB191_189.out; have hnc46 := NB189_191.out; obtain ⟨C47_0, C47_1, C47_2, C47_3, -⟩ := cells_4 BK191.out trivial; obtain ⟨F47_0, F47_1, F47_2, F47_3, -⟩ := frz_4 BK191.out))
       repeat (go_quiet (first | ((with_reducible refine gate_dst (N := 10) rfl ?_); (try (refine gate_guard (by rfl) ?_; dsimp only)); refine bx_ 10 #[.slice none 0 0, .bool false, .int .i64 0, .slice none 0 0] 30 (h := ?_); intro gb191 hg w45 hbox hb; have BK191 := Aside0.mk (hbox); have GW191 := Aside0.mk ((by rw [hg]; exact (below_size bel) : w.heap.size ≤ gb191)); have GE191 := GW191; have NB189_191 := Aside0.mk ((by rw [hg]; exact Nat.ne_of_lt (blt BK189) : gb189 ≠ gb191)); have NB191_189 := Aside0.mk NB189_191.out.symm; replace BK189 := Aside0.mk (blb BK189 hb); replace HB := bst hb; clear hb hbox hg; have hnb46 := NB191_189.out; have hnc46 := NB189_191.out; obtain ⟨C47_0, C47_1, C47_2, C47_3, -⟩ := cells_4 BK191.out trivial; obtain ⟨F47_0, F47_1, F47_2, F47_3, -⟩ := frz_4 BK191.out)); go_upto_region 8 with (first | ((with_reducible refine gate_dst (N := 10) rfl ?_); (try (refine gate_guard (by rfl) ?_; dsimp only)); refine bx_ 10 #[.slice none 0 0, .bool false, .int .i64 0, .slice none 0 0] 30 (h := ?_); intro gb191 hg w45 hbox hb; have BK191 := Aside0.mk (hbox); have GW191 := Aside0.mk ((by rw [hg]; exact (below_size bel) : w.heap.size ≤ gb191)); have GE191 := GW191; have NB189_191 := Aside0.mk ((by rw [hg]; exact Nat.ne_of_lt (blt BK189) : gb189 ≠ gb191)); have NB191_189 := Aside0.mk NB189_191.out.symm; replace BK189 := Aside0.mk (blb BK189 hb); replace HB := bst hb; clear hb hbox hg; have hnb46 := NB191_189.out; have hnc46 := NB189_191.out; obtain ⟨C47_0, C47_1, C47_2, C47_3, -⟩ := cells_4 BK191.out trivial; obtain ⟨F47_0, F47_1, F47_2, F47_3, -⟩ := frz_4 BK191.out)))
       (try simp only [Act.put, List.setIfInBounds_toArray, List.set_cons_zero, List.set_cons_succ])
       go_cut [108] (fun v108 wc => ∃ (kq : Nat) (x108_42 : Bool), v108 = .bool x108_42 ∧ Aside0 (spec_l6ok.j2 kq x2_2 a3 x9_2 x108_42 l0_0 a0_1 a0_2 l0_3 ((rd_T30 l0_3 x9_2).f0) ((rd_T30 l0_3 x9_2).f1) ((rd_T30 l0_3 x9_2).f2) ((rd_T30 l0_3 x9_2).f3) = some r) ∧ Aside0 (kq ≤ k2) ∧ Aside0 (wc.heap[gb189]? = some (.cells #[(.slice A0_0 l0_0.length c0_0), .bool a0_1, .int .i64 a0_2, (.slice (some ad190) l0_3.length c0_3)] 30 (0, 0))) ∧ Aside0 (wc.heap[gb191]? = some (.cells #[(.slice A190_0 ((rd_T30 l0_3 x9_2).f0).length c190_0), .bool ((rd_T30 l0_3 x9_2).f1), .int .i64 ((rd_T30 l0_3 x9_2).f2), (.slice A190_3 ((rd_T30 l0_3 x9_2).f3).length c190_3)] 30 (0, 0))) ∧ Aside0 (Below w.heap.size w wc))
       case first =>
        have H := HC43.out
        clear HC43
        by_cases c48 : (((rd_T30 l0_3 x9_2).f0).length : Int) = 0
        ·rw [if_pos c48] at H
         have c48b0 : ((((rd_T30 l0_3 x9_2).f0).length : Int) == 0) = true := beq_iff_eq.mpr c48
         have c48b1 : ((((rd_T30 l0_3 x9_2).f0).length : Int) != 0) = false := bne_eq_false_iff_eq.mpr c48
         clear c48
         (first | rw [c48b0] | (simp only [i64_w, i32_w]; rw [c48b0]) | skip)
         have H' := Aside0.mk H
         clear H
         have hnb49 := NB191_189.out
         have hnc49 := NB189_191.out
         obtain ⟨C50_0, C50_1, C50_2, C50_3, -⟩ := cells_4 BK191.out trivial
         obtain ⟨F50_0, F50_1, F50_2, F50_3, -⟩ := frz_4 BK191.out
         go_wp2
         repeat (go_quiet (fail); try go_wp2)
         go_meet
         case rel => exact ⟨_, (true), rs_, H', ⟨by have := HJ4.out; have := HK2.out; first | omega | exact Nat.le_refl _⟩, ⟨by (with_reducible repeat (first | refine blk_drewN ?_ _ | refine blk_drew ?_ | refine blk_alloc ?_ _)); refine blk_far ?_ NB189_191.out _; (with_reducible repeat (first | refine blk_drewN ?_ _ | refine blk_drew ?_ | refine blk_alloc ?_ _)); refine blk_far ?_ NB189_191.out _; (with_reducible repeat (first | refine blk_drewN ?_ _ | refine blk_drew ?_ | refine blk_alloc ?_ _)); refine blk_far ?_ NB189_191.out _; (with_reducible repeat (first | refine blk_drewN ?_ _ | refine blk_drew ?_ | refine blk_alloc ?_ _)); refine blk_far ?_ NB189_191.out _; (with_reducible repeat (first | refine blk_drewN ?_ _ | refine blk_drew ?_ | refine blk_alloc ?_ _)); exact BK189.out⟩, ⟨by (with_reducible repeat (first | refine blk_drewN ?_ _ | refine blk_drew ?_ | refine blk_alloc ?_ _)); refine blk_put (cs := #[.slice A190_0 ((rd_T30 l0_3 x9_2).f0).length c190_0, .bool ((rd_T30 l0_3 x9_2).f1), .int .i64 ((rd_T30 l0_3 x9_2).f2), .slice none 0 0]) ?_ 3 _ rfl; (with_reducible repeat (first | refine blk_drewN ?_ _ | refine blk_drew ?_ | refine blk_alloc ?_ _)); refine blk_put (cs := #[.slice A190_0 ((rd_T30 l0_3 x9_2).f0).length c190_0, .bool ((rd_T30 l0_3 x9_2).f1), .int .i64 0, .slice none 0 0]) ?_ 2 _ rfl; (with_reducible repeat (first | refine blk_drewN ?_ _ | refine blk_drew ?_ | refine blk_alloc ?_ _)); refine blk_put (cs := #[.slice A190_0 ((rd_T30 l0_3 x9_2).f0).length c190_0, .bool false, .int .i64 0, .slice none 0 0]) ?_ 1 _ rfl; (with_reducible repeat (first | refine blk_drewN ?_ _ | refine blk_drew ?_ | refine blk_alloc ?_ _)); refine blk_put (cs := #[.slice none 0 0, .bool false, .int .i64 0, .slice none 0 0]) ?_ 0 _ rfl; (with_reducible repeat (first | refine blk_drewN ?_ _ | refine blk_drew ?_ | refine blk_alloc ?_ _)); exact BK191.out⟩, ⟨bel⟩⟩
        rw [if_neg c48] at H
        have c48b0 : ((((rd_T30 l0_3 x9_2).f0).length : Int) == 0) = false := beq_eq_false_iff_ne.mpr c48
        have c48b1 : ((((rd_T30 l0_3 x9_2).f0).length : Int) != 0) = true := bne_iff_ne.mpr c48
        have c48b2 : ¬ (((rd_T30 l0_3 x9_2).f0) = []) := fun h_ => c48 (by rw [h_]; rfl)
        (first | rw [c48b0] | (simp only [i64_w, i32_w]; rw [c48b0]) | skip)
        by_cases c51 : x9_2 > 0
        ·rw [if_pos c51] at H
         have c51b0 : decide (0 < x9_2) = true := decide_eq_true c51
         clear c51
         obtain ⟨ji52, hji52⟩ : ∃ j_ : Int, (wrap64 (x9_2 - 1)) = j_ := ⟨_, rfl⟩
         replace H : (if 0 ≤ (ji52) then (if (ji52) < (l0_3.length : Int) then (if 0 < (((rd_T30 l0_3 (ji52)).f0).length : Int) then (if 0 < (((rd_T30 l0_3 x9_2).f0).length : Int) then (spec_l6ok.j2 k2 x2_2 a3 x9_2 (decide ((rd ((rd_T30 l0_3 (ji52)).f0) 0) ≥ (rd ((rd_T30 l0_3 x9_2).f0) 0))) l0_0 a0_1 a0_2 l0_3 ((rd_T30 l0_3 x9_2).f0) ((rd_T30 l0_3 x9_2).f1) ((rd_T30 l0_3 x9_2).f2) ((rd_T30 l0_3 x9_2).f3)) else (none)) else (none)) else (none)) else (none)) = some r := by first | (rw [hji52] at H; exact H) | (simp only [hji52] at H ⊢; exact H)
         have hji52w : (IntKind.i64.wrap (x9_2 - 1)) = ji52 := (i64_w _).trans hji52
         by_cases c53 : 0 ≤ (ji52)
         ·rw [if_pos c53] at H
          have c53b0 : decide (0 ≤ (ji52)) = true := decide_eq_true c53
          clear c53
          by_cases c54 : (ji52) < (l0_3.length : Int)
          ·rw [if_pos c54] at H
           have c54b0 : decide ((ji52) < (l0_3.length : Int)) = true := decide_eq_true c54
           clear c54
           by_cases c55 : 0 < (((rd_T30 l0_3 (ji52)).f0).length : Int)
           ·rw [if_pos c55] at H
            have c55b0 : decide (0 < (((rd_T30 l0_3 (ji52)).f0).length : Int)) = true := decide_eq_true c55
            have c55b1 : decide (0 < ((rd_T30 l0_3 (ji52)).f0).length) = true := decide_eq_true (by omega)
            clear c55
            by_cases c56 : 0 < (((rd_T30 l0_3 x9_2).f0).length : Int)
            ·rw [if_pos c56] at H
             have c56b0 : decide (0 < (((rd_T30 l0_3 x9_2).f0).length : Int)) = true := decide_eq_true c56
             have c56b1 : decide (0 < ((rd_T30 l0_3 x9_2).f0).length) = true := decide_eq_true (by omega)
             clear c56
             have H' := Aside0.mk H
             clear H
             have hnb57 := NB191_189.out
             have hnc57 := NB189_191.out
             obtain ⟨C58_0, C58_1, C58_2, C58_3, -⟩ := cells_4 BK191.out trivial
             obtain ⟨F58_0, F58_1, F58_2, F58_3, -⟩ := frz_4 BK191.out
             obtain ⟨C59_0, C59_1, C59_2, C59_3, -⟩ := cells_4 BK189.out trivial
             obtain ⟨F59_0, F59_1, F59_2, F59_3, -⟩ := frz_4 BK189.out
             have p192 : 0 ≤ ((ji52) : Int) := od
             have q192 : (ji52) < (l0_3.length : Int) := od
             obtain ⟨ad192, A192_0, c192_0, A192_3, c192_3, e192, hx192_0, hx192_1, hx192_2, hx192_3, hl192_0, hi192_0, hl192_3, hi192_3⟩ := at_T30 HR0_3.out (ji52) p192 q192
             obtain rfl : ad190 = ad192 := (by injection e192)
             have hn192_0 : ad190.block ≠ gb191 := Nat.ne_of_lt (Nat.lt_of_lt_of_le (by have := World.block_lt_of_cell? _ _ hx192_0; first | rwa [add_block] at this | exact this) GW191.out)
             have hn192_1 : ad190.block ≠ gb191 := Nat.ne_of_lt (Nat.lt_of_lt_of_le (by have := World.block_lt_of_cell? _ _ hx192_0; first | rwa [add_block] at this | exact this) GW191.out)
             have hn192_2 : ad190.block ≠ gb191 := Nat.ne_of_lt (Nat.lt_of_lt_of_le (by have := World.block_lt_of_cell? _ _ hx192_0; first | rwa [add_block] at this | exact this) GW191.out)
             have hn192_3 : ad190.block ≠ gb191 := Nat.ne_of_lt (Nat.lt_of_lt_of_le (by have := World.block_lt_of_cell? _ _ hx192_0; first | rwa [add_block] at this | exact this) GW191.out)
             replace hx192_0 := hxb HB hx192_0
             replace hx192_1 := hxb HB hx192_1
             replace hx192_2 := hxb HB hx192_2
             replace hx192_3 := hxb HB hx192_3
             have HR192_0 := Aside0.mk hi192_0
             have HC192_0 := Aside0.mk hl192_0
             clear hi192_0 hl192_0
             have HR192_3 := Aside0.mk hi192_3
             have HC192_3 := Aside0.mk hl192_3
             clear hi192_3 hl192_3
             replace hx192_0 := (cell_far (p := ⟨gb191, 0, none⟩) (by first | (rw [add_block]; exact hn192_0) | (show (Addr.add _ _).block ≠ _; rw [add_block]; exact hn192_0) | exact hn192_0) (.slice A190_0 ((rd_T30 l0_3 x9_2).f0).length c190_0)).trans hx192_0
             replace hx192_1 := (cell_far (p := ⟨gb191, 0, none⟩) (by first | (rw [add_block]; exact hn192_0) | (show (Addr.add _ _).block ≠ _; rw [add_block]; exact hn192_0) | exact hn192_0) (.slice A190_0 ((rd_T30 l0_3 x9_2).f0).length c190_0)).trans hx192_1
             replace hx192_2 := (cell_far (p := ⟨gb191, 0, none⟩) (by first | (rw [add_block]; exact hn192_0) | (show (Addr.add _ _).block ≠ _; rw [add_block]; exact hn192_0) | exact hn192_0) (.slice A190_0 ((rd_T30 l0_3 x9_2).f0).length c190_0)).trans hx192_2
             replace hx192_3 := (cell_far (p := ⟨gb191, 0, none⟩) (by first | (rw [add_block]; exact hn192_0) | (show (Addr.add _ _).block ≠ _; rw [add_block]; exact hn192_0) | exact hn192_0) (.slice A190_0 ((rd_T30 l0_3 x9_2).f0).length c190_0)).trans hx192_3
             replace hx192_0 := (cell_far (p := ⟨gb191, 1, none⟩) (by first | (rw [add_block]; exact hn192_1) | (show (Addr.add _ _).block ≠ _; rw [add_block]; exact hn192_1) | exact hn192_1) (.bool ((rd_T30 l0_3 x9_2).f1))).trans hx192_0
             replace hx192_1 := (cell_far (p := ⟨gb191, 1, none⟩) (by first | (rw [add_block]; exact hn192_1) | (show (Addr.add _ _).block ≠ _; rw [add_block]; exact hn192_1) | exact hn192_1) (.bool ((rd_T30 l0_3 x9_2).f1))).trans hx192_1
             replace hx192_2 := (cell_far (p := ⟨gb191, 1, none⟩) (by first | (rw [add_block]; exact hn192_1) | (show (Addr.add _ _).block ≠ _; rw [add_block]; exact hn192_1) | exact hn192_1) (.bool ((rd_T30 l0_3 x9_2).f1))).trans hx192_2
             replace hx192_3 := (cell_far (p := ⟨gb191, 1, none⟩) (by first | (rw [add_block]; exact hn192_1) | (show (Addr.add _ _).block ≠ _; rw [add_block]; exact hn192_1) | exact hn192_1) (.bool ((rd_T30 l0_3 x9_2).f1))).trans hx192_3
             replace hx192_0 := (cell_far (p := ⟨gb191, 2, none⟩) (by first | (rw [add_block]; exact hn192_2) | (show (Addr.add _ _).block ≠ _; rw [add_block]; exact hn192_2) | exact hn192_2) (.int .i64 ((rd_T30 l0_3 x9_2).f2))).trans hx192_0
             replace hx192_1 := (cell_far (p := ⟨gb191, 2, none⟩) (by first | (rw [add_block]; exact hn192_2) | (show (Addr.add _ _).block ≠ _; rw [add_block]; exact hn192_2) | exact hn192_2) (.int .i64 ((rd_T30 l0_3 x9_2).f2))).trans hx192_1
             replace hx192_2 := (cell_far (p := ⟨gb191, 2, none⟩) (by first | (rw [add_block]; exact hn192_2) | (show (Addr.add _ _).block ≠ _; rw [add_block]; exact hn192_2) | exact hn192_2) (.int .i64 ((rd_T30 l0_3 x9_2).f2))).trans hx192_2
             replace hx192_3 := (cell_far (p := ⟨gb191, 2, none⟩) (by first | (rw [add_block]; exact hn192_2) | (show (Addr.add _ _).block ≠ _; rw [add_block]; exact hn192_2) | exact hn192_2) (.int .i64 ((rd_T30 l0_3 x9_2).f2))).trans hx192_3
             replace hx192_0 := (cell_far (p := ⟨gb191, 3, none⟩) (by first | (rw [add_block]; exact hn192_3) | (show (Addr.add _ _).block ≠ _; rw [add_block]; exact hn192_3) | exact hn192_3) (.slice A190_3 ((rd_T30 l0_3 x9_2).f3).length c190_3)).trans hx192_0
             replace hx192_1 := (cell_far (p := ⟨gb191, 3, none⟩) (by first | (rw [add_block]; exact hn192_3) | (show (Addr.add _ _).block ≠ _; rw [add_block]; exact hn192_3) | exact hn192_3) (.slice A190_3 ((rd_T30 l0_3 x9_2).f3).length c190_3)).trans hx192_1
             replace hx192_2 := (cell_far (p := ⟨gb191, 3, none⟩) (by first | (rw [add_block]; exact hn192_3) | (show (Addr.add _ _).block ≠ _; rw [add_block]; exact hn192_3) | exact hn192_3) (.slice A190_3 ((rd_T30 l0_3 x9_2).f3).length c190_3)).trans hx192_2
             replace hx192_3 := (cell_far (p := ⟨gb191, 3, none⟩) (by first | (rw [add_block]; exact hn192_3) | (show (Addr.add _ _).block ≠ _; rw [add_block]; exact hn192_3) | exact hn192_3) (.slice A190_3 ((rd_T30 l0_3 x9_2).f3).length c190_3)).trans hx192_3
             (try have hy192_0 := fun (n_ : Nat) => (show ((((((w45.drewN n_).setCell ⟨gb191, 0, none⟩ (.slice A190_0 ((rd_T30 l0_3 x9_2).f0).length c190_0)).setCell ⟨gb191, 1, none⟩ (.bool ((rd_T30 l0_3 x9_2).f1))).setCell ⟨gb191, 2, none⟩ (.int .i64 ((rd_T30 l0_3 x9_2).f2))).setCell ⟨gb191, 3, none⟩ (.slice A190_3 ((rd_T30 l0_3 x9_2).f3).length c190_3))).cell? _ = some _ from hx192_0))
             (try have hy192_1 := fun (n_ : Nat) => (show ((((((w45.drewN n_).setCell ⟨gb191, 0, none⟩ (.slice A190_0 ((rd_T30 l0_3 x9_2).f0).length c190_0)).setCell ⟨gb191, 1, none⟩ (.bool ((rd_T30 l0_3 x9_2).f1))).setCell ⟨gb191, 2, none⟩ (.int .i64 ((rd_T30 l0_3 x9_2).f2))).setCell ⟨gb191, 3, none⟩ (.slice A190_3 ((rd_T30 l0_3 x9_2).f3).length c190_3))).cell? _ = some _ from hx192_1))
             (try have hy192_2 := fun (n_ : Nat) => (show ((((((w45.drewN n_).setCell ⟨gb191, 0, none⟩ (.slice A190_0 ((rd_T30 l0_3 x9_2).f0).length c190_0)).setCell ⟨gb191, 1, none⟩ (.bool ((rd_T30 l0_3 x9_2).f1))).setCell ⟨gb191, 2, none⟩ (.int .i64 ((rd_T30 l0_3 x9_2).f2))).setCell ⟨gb191, 3, none⟩ (.slice A190_3 ((rd_T30 l0_3 x9_2).f3).length c190_3))).cell? _ = some _ from hx192_2))
             (try have hy192_3 := fun (n_ : Nat) => (show ((((((w45.drewN n_).setCell ⟨gb191, 0, none⟩ (.slice A190_0 ((rd_T30 l0_3 x9_2).f0).length c190_0)).setCell ⟨gb191, 1, none⟩ (.bool ((rd_T30 l0_3 x9_2).f1))).setCell ⟨gb191, 2, none⟩ (.int .i64 ((rd_T30 l0_3 x9_2).f2))).setCell ⟨gb191, 3, none⟩ (.slice A190_3 ((rd_T30 l0_3 x9_2).f3).length c190_3))).cell? _ = some _ from hx192_3))
             clear hn192_0
             clear hn192_1
             clear hn192_2
             clear hn192_3
             replace p192 := eq_true p192
             replace q192 := eq_true q192
             have p193 : 0 ≤ (0 : Int) := (by omega)
             have q193 : 0 < (((rd_T30 l0_3 (ji52)).f0).length : Int) := od
             obtain ⟨ad193, e193, hx193_0⟩ := Kd.at_int HR192_0.out 0 p193 q193
             cases e193
             have qi193 : (0 < ((rd_T30 l0_3 (ji52)).f0).length) = True := eq_true (by omega)
             (try rw [show ((0 : Int)).toNat = 0 from rfl] at hx193_0)
             (try rw [Addr.add_zero'] at hx193_0)
             have hn193_0 : ad193.block ≠ gb191 := Nat.ne_of_lt (Nat.lt_of_lt_of_le (by have := World.block_lt_of_cell? _ _ hx193_0; first | rwa [add_block] at this | exact this) GW191.out)
             have hn193_1 : ad193.block ≠ gb191 := Nat.ne_of_lt (Nat.lt_of_lt_of_le (by have := World.block_lt_of_cell? _ _ hx193_0; first | rwa [add_block] at this | exact this) GW191.out)
             have hn193_2 : ad193.block ≠ gb191 := Nat.ne_of_lt (Nat.lt_of_lt_of_le (by have := World.block_lt_of_cell? _ _ hx193_0; first | rwa [add_block] at this | exact this) GW191.out)
             have hn193_3 : ad193.block ≠ gb191 := Nat.ne_of_lt (Nat.lt_of_lt_of_le (by have := World.block_lt_of_cell? _ _ hx193_0; first | rwa [add_block] at this | exact this) GW191.out)
             replace hx193_0 := hxb HB hx193_0
             replace hx193_0 := (cell_far (p := ⟨gb191, 0, none⟩) (by first | (rw [add_block]; exact hn193_0) | (show (Addr.add _ _).block ≠ _; rw [add_block]; exact hn193_0) | exact hn193_0) (.slice A190_0 ((rd_T30 l0_3 x9_2).f0).length c190_0)).trans hx193_0
             replace hx193_0 := (cell_far (p := ⟨gb191, 1, none⟩) (by first | (rw [add_block]; exact hn193_1) | (show (Addr.add _ _).block ≠ _; rw [add_block]; exact hn193_1) | exact hn193_1) (.bool ((rd_T30 l0_3 x9_2).f1))).trans hx193_0
             replace hx193_0 := (cell_far (p := ⟨gb191, 2, none⟩) (by first | (rw [add_block]; exact hn193_2) | (show (Addr.add _ _).block ≠ _; rw [add_block]; exact hn193_2) | exact hn193_2) (.int .i64 ((rd_T30 l0_3 x9_2).f2))).trans hx193_0
             replace hx193_0 := (cell_far (p := ⟨gb191, 3, none⟩) (by first | (rw [add_block]; exact hn193_3) | (show (Addr.add _ _).block ≠ _; rw [add_block]; exact hn193_3) | exact hn193_3) (.slice A190_3 ((rd_T30 l0_3 x9_2).f3).length c190_3)).trans hx193_0
             (try have hy193_0 := fun (n_ : Nat) => (show ((((((w45.drewN n_).setCell ⟨gb191, 0, none⟩ (.slice A190_0 ((rd_T30 l0_3 x9_2).f0).length c190_0)).setCell ⟨gb191, 1, none⟩ (.bool ((rd_T30 l0_3 x9_2).f1))).setCell ⟨gb191, 2, none⟩ (.int .i64 ((rd_T30 l0_3 x9_2).f2))).setCell ⟨gb191, 3, none⟩ (.slice A190_3 ((rd_T30 l0_3 x9_2).f3).length c190_3))).cell? _ = some _ from hx193_0))
             clear hn193_0
             clear hn193_1
             clear hn193_2
             clear hn193_3
             replace p193 := eq_true p193
             replace q193 := eq_true q193
             have p194 : 0 ≤ (0 : Int) := (by omega)
             have q194 : 0 < (((rd_T30 l0_3 x9_2).f0).length : Int) := od
             obtain ⟨ad194, e194, hx194_0⟩ := Kd.at_int HR190_0.out 0 p194 q194
             cases e194
             have qi194 : (0 < ((rd_T30 l0_3 x9_2).f0).length) = True := eq_true (by omega)
             (try rw [show ((0 : Int)).toNat = 0 from rfl] at hx194_0)
             (try rw [Addr.add_zero'] at hx194_0)
             have hn194_0 : ad194.block ≠ gb191 := Nat.ne_of_lt (Nat.lt_of_lt_of_le (by have := World.block_lt_of_cell? _ _ hx194_0; first | rwa [add_block] at this | exact this) GW191.out)
             have hn194_1 : ad194.block ≠ gb191 := Nat.ne_of_lt (Nat.lt_of_lt_of_le (by have := World.block_lt_of_cell? _ _ hx194_0; first | rwa [add_block] at this | exact this) GW191.out)
             have hn194_2 : ad194.block ≠ gb191 := Nat.ne_of_lt (Nat.lt_of_lt_of_le (by have := World.block_lt_of_cell? _ _ hx194_0; first | rwa [add_block] at this | exact this) GW191.out)
             have hn194_3 : ad194.block ≠ gb191 := Nat.ne_of_lt (Nat.lt_of_lt_of_le (by have := World.block_lt_of_cell? _ _ hx194_0; first | rwa [add_block] at this | exact this) GW191.out)
             replace hx194_0 := hxb HB hx194_0
             replace hx194_0 := (cell_far (p := ⟨gb191, 0, none⟩) (by first | (rw [add_block]; exact hn194_0) | (show (Addr.add _ _).block ≠ _; rw [add_block]; exact hn194_0) | exact hn194_0) (.slice (some ad194) ((rd_T30 l0_3 x9_2).f0).length c190_0)).trans hx194_0
             replace hx194_0 := (cell_far (p := ⟨gb191, 1, none⟩) (by first | (rw [add_block]; exact hn194_1) | (show (Addr.add _ _).block ≠ _; rw [add_block]; exact hn194_1) | exact hn194_1) (.bool ((rd_T30 l0_3 x9_2).f1))).trans hx194_0
             replace hx194_0 := (cell_far (p := ⟨gb191, 2, none⟩) (by first | (rw [add_block]; exact hn194_2) | (show (Addr.add _ _).block ≠ _; rw [add_block]; exact hn194_2) | exact hn194_2) (.int .i64 ((rd_T30 l0_3 x9_2).f2))).trans hx194_0
             replace hx194_0 := (cell_far (p := ⟨gb191, 3, none⟩) (by first | (rw [add_block]; exact hn194_3) | (show (Addr.add _ _).block ≠ _; rw [add_block]; exact hn194_3) | exact hn194_3) (.slice A190_3 ((rd_T30 l0_3 x9_2).f3).length c190_3)).trans hx194_0
             (try have hy194_0 := fun (n_ : Nat) => (show ((((((w45.drewN n_).setCell ⟨gb191, 0, none⟩ (.slice (some ad194) ((rd_T30 l0_3 x9_2).f0).length c190_0)).setCell ⟨gb191, 1, none⟩ (.bool ((rd_T30 l0_3 x9_2).f1))).setCell ⟨gb191, 2, none⟩ (.int .i64 ((rd_T30 l0_3 x9_2).f2))).setCell ⟨gb191, 3, none⟩ (.slice A190_3 ((rd_T30 l0_3 x9_2).f3).length c190_3))).cell? _ = some _ from hx194_0))
             clear hn194_0
             clear hn194_1
             clear hn194_2
             clear hn194_3
             replace p194 := eq_true p194
             replace q194 := eq_true q194
             go_wp2
             repeat (go_quiet (fail); try go_wp2)
             go_meet
             case rel => exact ⟨_, (decide ((rd ((rd_T30 l0_3 (ji52)).f0) 0) ≥ (rd ((rd_T30 l0_3 x9_2).f0) 0))), (by first | rfl | (simp; done) | (simp only [← hji52] <;> (first | rfl | simp)) | (simp [*]; done)), H', ⟨by have := HJ4.out; have := HK2.out; first | omega | exact Nat.le_refl _⟩, ⟨by (with_reducible repeat (first | refine blk_drewN ?_ _ | refine blk_drew ?_ | refine blk_alloc ?_ _)); refine blk_far ?_ NB189_191.out _; (with_reducible repeat (first | refine blk_drewN ?_ _ | refine blk_drew ?_ | refine blk_alloc ?_ _)); refine blk_far ?_ NB189_191.out _; (with_reducible repeat (first | refine blk_drewN ?_ _ | refine blk_drew ?_ | refine blk_alloc ?_ _)); refine blk_far ?_ NB189_191.out _; (with_reducible repeat (first | refine blk_drewN ?_ _ | refine blk_drew ?_ | refine blk_alloc ?_ _)); refine blk_far ?_ NB189_191.out _; (with_reducible repeat (first | refine blk_drewN ?_ _ | refine blk_drew ?_ | refine blk_alloc ?_ _)); exact BK189.out⟩, ⟨by (with_reducible repeat (first | refine blk_drewN ?_ _ | refine blk_drew ?_ | refine blk_alloc ?_ _)); refine blk_put (cs := #[.slice (some ad194) ((rd_T30 l0_3 x9_2).f0).length c190_0, .bool ((rd_T30 l0_3 x9_2).f1), .int .i64 ((rd_T30 l0_3 x9_2).f2), .slice none 0 0]) ?_ 3 _ rfl; (with_reducible repeat (first | refine blk_drewN ?_ _ | refine blk_drew ?_ | refine blk_alloc ?_ _)); refine blk_put (cs := #[.slice (some ad194) ((rd_T30 l0_3 x9_2).f0).length c190_0, .bool ((rd_T30 l0_3 x9_2).f1), .int .i64 0, .slice none 0 0]) ?_ 2 _ rfl; (with_reducible repeat (first | refine blk_drewN ?_ _ | refine blk_drew ?_ | refine blk_alloc ?_ _)); refine blk_put (cs := #[.slice (some ad194) ((rd_T30 l0_3 x9_2).f0).length c190_0, .bool false, .int .i64 0, .slice none 0 0]) ?_ 1 _ rfl; (with_reducible repeat (first | refine blk_drewN ?_ _ | refine blk_drew ?_ | refine blk_alloc ?_ _)); refine blk_put (cs := #[.slice none 0 0, .bool false, .int .i64 0, .slice none 0 0]) ?_ 0 _ rfl; (with_reducible repeat (first | refine blk_drewN ?_ _ | refine blk_drew ?_ | refine blk_alloc ?_ _)); exact BK191.out⟩, ⟨bel⟩⟩
            rw [if_neg c56] at H
            exact absurd H (by simp)
           rw [if_neg c55] at H
           exact absurd H (by simp)
          rw [if_neg c54] at H
          exact absurd H (by simp)
         rw [if_neg c53] at H
         exact absurd H (by simp)
        rw [if_neg c51] at H
        have c51b0 : decide (0 < x9_2) = false := decide_eq_false c51
        clear c51
        have H' := Aside0.mk H
        clear H
        have hnb60 := NB191_189.out
        have hnc60 := NB189_191.out
        obtain ⟨C61_0, C61_1, C61_2, C61_3, -⟩ := cells_4 BK191.out trivial
        obtain ⟨F61_0, F61_1, F61_2, F61_3, -⟩ := frz_4 BK191.out
        go_wp2
        repeat (go_quiet (fail); try go_wp2)
        go_meet
        case rel => exact ⟨_, (false), rs_, H', ⟨by have := HJ4.out; have := HK2.out; first | omega | exact Nat.le_refl _⟩, ⟨by (with_reducible repeat (first | refine blk_drewN ?_ _ | refine blk_drew ?_ | refine blk_alloc ?_ _)); refine blk_far ?_ NB189_191.out _; (with_reducible repeat (first | refine blk_drewN ?_ _ | refine blk_drew ?_ | refine blk_alloc ?_ _)); refine blk_far ?_ NB189_191.out _; (with_reducible repeat (first | refine blk_drewN ?_ _ | refine blk_drew ?_ | refine blk_alloc ?_ _)); refine blk_far ?_ NB189_191.out _; (with_reducible repeat (first | refine blk_drewN ?_ _ | refine blk_drew ?_ | refine blk_alloc ?_ _)); refine blk_far ?_ NB189_191.out _; (with_reducible repeat (first | refine blk_drewN ?_ _ | refine blk_drew ?_ | refine blk_alloc ?_ _)); exact BK189.out⟩, ⟨by (with_reducible repeat (first | refine blk_drewN ?_ _ | refine blk_drew ?_ | refine blk_alloc ?_ _)); refine blk_put (cs := #[.slice A190_0 ((rd_T30 l0_3 x9_2).f0).length c190_0, .bool ((rd_T30 l0_3 x9_2).f1), .int .i64 ((rd_T30 l0_3 x9_2).f2), .slice none 0 0]) ?_ 3 _ rfl; (with_reducible repeat (first | refine blk_drewN ?_ _ | refine blk_drew ?_ | refine blk_alloc ?_ _)); refine blk_put (cs := #[.slice A190_0 ((rd_T30 l0_3 x9_2).f0).length c190_0, .bool ((rd_T30 l0_3 x9_2).f1), .int .i64 0, .slice none 0 0]) ?_ 2 _ rfl; (with_reducible repeat (first | refine blk_drewN ?_ _ | refine blk_drew ?_ | refine blk_alloc ?_ _)); refine blk_put (cs := #[.slice A190_0 ((rd_T30 l0_3 x9_2).f0).length c190_0, .bool false, .int .i64 0, .slice none 0 0]) ?_ 1 _ rfl; (with_reducible repeat (first | refine blk_drewN ?_ _ | refine blk_drew ?_ | refine blk_alloc ?_ _)); refine blk_put (cs := #[.slice none 0 0, .bool false, .int .i64 0, .slice none 0 0]) ?_ 0 _ rfl; (with_reducible repeat (first | refine blk_drewN ?_ _ | refine blk_drew ?_ | refine blk_alloc ?_ _)); exact BK191.out⟩, ⟨bel⟩⟩
       case rest =>
        clear HC43
        try clear c1; try clear p1; try clear q1; try clear hx1; try clear qi1; try clear c2; try clear p2; try clear c3; try clear c4; try clear c5; try clear c6; try clear p6; try clear c7; try clear c7b0; try clear c8; try clear c8b0; try clear c9; try clear c10; try clear c10b0; try clear c10b1; try clear c12; try clear c13; try clear c13b0; try clear c15; try clear c15b0; try clear c18; try clear c18b0; try clear c18b1; try clear c19; try clear c19b0; try clear p19; try clear q19; try clear hx19; try clear qi19; try clear c21; try clear c21b0; try clear c25; try clear c25b0; try clear c25b1; try clear c25b2; try clear c27; try clear c28; try clear c28b0; try clear c30; try clear c30b0; try clear c33; try clear c33b0; try clear c33b1; try clear c34; try clear c34b0; try clear c36; try clear c36b0; try clear c40; try clear c41; try clear c41b0; try clear c42; try clear c42b0; try clear c46; try clear c48; try clear c48b0; try clear c48b1; try clear c48b2; try clear c49; try clear c51; try clear c51b0; try clear c53; try clear c53b0; try clear c54; try clear c54b0; try clear c55; try clear c55b0; try clear c55b1; try clear c56; try clear c56b0; try clear c56b1; try clear c57; try clear c60; try clear C11_0 C11_1 C11_2 C11_3; try clear C14_0 C14_1 C14_2 C14_3; try clear C16_0 C16_1 C16_2 C16_3; try clear C17_0 C17_1 C17_2 C17_3; try clear C20_0 C20_1 C20_2 C20_3; try clear C22_0 C22_1 C22_2 C22_3; try clear C23_0 C23_1 C23_2 C23_3; try clear C24_0 C24_1 C24_2 C24_3; try clear C26_0 C26_1 C26_2 C26_3; try clear C29_0 C29_1 C29_2 C29_3; try clear C31_0 C31_1 C31_2 C31_3; try clear C32_0 C32_1 C32_2 C32_3; try clear C35_0 C35_1 C35_2 C35_3; try clear C37_0 C37_1 C37_2 C37_3; try clear C38_0 C38_1 C38_2 C38_3; try clear C39_0 C39_1 C39_2 C39_3; try clear C44_0 C44_1 C44_2 C44_3; try clear C47_0 C47_1 C47_2 C47_3; try clear C50_0 C50_1 C50_2 C50_3; try clear C58_0 C58_1 C58_2 C58_3; try clear C59_0 C59_1 C59_2 C59_3; try clear C61_0 C61_1 C61_2 C61_3; try clear F11_0 F11_1 F11_2 F11_3; try clear F14_0 F14_1 F14_2 F14_3; try clear F16_0 F16_1 F16_2 F16_3; try clear F17_0 F17_1 F17_2 F17_3; try clear F20_0 F20_1 F20_2 F20_3; try clear F22_0 F22_1 F22_2 F22_3; try clear F23_0 F23_1 F23_2 F23_3; try clear F24_0 F24_1 F24_2 F24_3; try clear F26_0 F26_1 F26_2 F26_3; try clear F29_0 F29_1 F29_2 F29_3; try clear F31_0 F31_1 F31_2 F31_3; try clear F32_0 F32_1 F32_2 F32_3; try clear F35_0 F35_1 F35_2 F35_3; try clear F37_0 F37_1 F37_2 F37_3; try clear F38_0 F38_1 F38_2 F38_3; try clear F39_0 F39_1 F39_2 F39_3; try clear F44_0 F44_1 F44_2 F44_3; try clear F47_0 F47_1 F47_2 F47_3; try clear F50_0 F50_1 F50_2 F50_3; try clear F58_0 F58_1 F58_2 F58_3; try clear F59_0 F59_1 F59_2 F59_3; try clear F61_0 F61_1 F61_2 F61_3; try clear hx190_0; try clear hx190_1; try clear hx190_2; try clear hx190_3; try clear hx192_0; try clear hx192_1; try clear hx192_2; try clear hx192_3; try clear hx193_0; try clear hx194_0; try clear p190; try clear p192; try clear p193; try clear p194; try clear p2; try clear p6; try clear q190; try clear q192; try clear q193; try clear q194
        obtain ⟨kq, x108_42, rfl, HA, HJ42, BK189, BK191, HB⟩ := hcut
        cases kq with
        | zero => exact absurd HA.out (by simp [spec_l6ok.j2])
        | succ kj42 =>
         have H := HA.out
         clear HA
         simp only [spec_l6ok.j2] at H
         by_cases c62 : x108_42 = true
         ·subst c62
          have H1 : (some (-1)) = some r := by rw [if_pos rfl] at H; exact H
          clear H
          have H := H1
          clear H1
          obtain rfl := Option.some.inj H
          go_wp2
          repeat (go_quiet (fail); try go_wp2)
          go_ret
          exact ⟨rz_, bel⟩
         replace c62 := Bool.eq_false_iff.mpr c62
         subst c62
         have H1 : ((spec_l6ok.f kj42 ((rd_T30 l0_3 x9_2).f0) ((rd_T30 l0_3 x9_2).f1) ((rd_T30 l0_3 x9_2).f2) ((rd_T30 l0_3 x9_2).f3) false x2_2 (wrap64 (a3 + 1))).bind fun t195 => (if t195 < 0 then (some (-1)) else (spec_l6ok.l0 kj42 t195 a3 (wrap64 (x9_2 + 1)) l0_0 a0_1 a0_2 l0_3))) = some r := by rw [if_neg (show ¬ (false = true) by decide)] at H; exact H
         clear H
         have H := H1
         clear H1
         replace H := Option.bind_eq_some_iff.mp H
         obtain ⟨t195, A630, H⟩ := H
         replace H : (if t195 < 0 then (some (-1)) else (spec_l6ok.l0 kj42 t195 a3 (wrap64 (x9_2 + 1)) l0_0 a0_1 a0_2 l0_3)) = some r := H
         have A63 := Aside0.mk A630
         clear A630
         by_cases c64 : t195 < 0
         ·rw [if_pos c64] at H
          have c64b0 : decide (t195 < 0) = true := decide_eq_true c64
          clear c64
          obtain rfl := Option.some.inj H
          have hnb65 := NB191_189.out
          have hnc65 := NB189_191.out
          have C66_0 : wc.cell? ⟨gb191, 0, none⟩ = some (.slice A190_0 ((rd_T30 l0_3 x9_2).f0).length c190_0) := (blk_cell BK191.out 0).trans rfl
          have C66_1 : wc.cell? ⟨gb191, 1, none⟩ = some (.bool ((rd_T30 l0_3 x9_2).f1)) := (blk_cell BK191.out 1).trans rfl
          have C66_2 : wc.cell? ⟨gb191, 2, none⟩ = some (.int .i64 ((rd_T30 l0_3 x9_2).f2)) := (blk_cell BK191.out 2).trans rfl
          have C66_3 : wc.cell? ⟨gb191, 3, none⟩ = some (.slice A190_3 ((rd_T30 l0_3 x9_2).f3).length c190_3) := (blk_cell BK191.out 3).trans rfl
          obtain ⟨F66_0, F66_1, F66_2, F66_3, -⟩ := frz_4 BK191.out
          go_wp2_with (first | (go_at_call 59; (with_reducible refine (ih kj42 (by have := HJ4.out; have := HK2.out; have := HJ42.out; omega) _ _ ((rd_T30 l0_3 x9_2).f0) ((rd_T30 l0_3 x9_2).f1) ((rd_T30 l0_3 x9_2).f2) _ _ ((rd_T30 l0_3 x9_2).f3) false x2_2 (wrap64 (a3 + 1)) t195 _ ?side1 ?side2 ?side3 ?side4 A63.out).mono ?_); (case side1 => exact kcb); (case side2 => exact HC190_0.out); (case side3 => exact kcb); (case side4 => exact HC190_3.out); rintro e w67 ⟨rfl, hb⟩; replace BK189 := Aside0.mk (blb BK189 hb); replace BK191 := Aside0.mk (blb BK191 hb); replace HB := bst hb; (try clear hb); (try clear hb2); (try clear hk); (try clear hi)))
          repeat (go_quiet (first | (go_at_call 59; (with_reducible refine (ih kj42 (by have := HJ4.out; have := HK2.out; have := HJ42.out; omega) _ _ ((rd_T30 l0_3 x9_2).f0) ((rd_T30 l0_3 x9_2).f1) ((rd_T30 l0_3 x9_2).f2) _ _ ((rd_T30 l0_3 x9_2).f3) false x2_2 (wrap64 (a3 + 1)) t195 _ ?side1 ?side2 ?side3 ?side4 A63.out).mono ?_); (case side1 => exact kcb); (case side2 => exact HC190_0.out); (case side3 => exact kcb); (case side4 => exact HC190_3.out); rintro e w67 ⟨rfl, hb⟩; replace BK189 := Aside0.mk (blb BK189 hb); replace BK191 := Aside0.mk (blb BK191 hb); replace HB := bst hb; (try clear hb); (try clear hb2); (try clear hk); (try clear hi))); try go_wp2_with (first | (go_at_call 59; (with_reducible refine (ih kj42 (by have := HJ4.out; have := HK2.out; have := HJ42.out; omega) _ _ ((rd_T30 l0_3 x9_2).f0) ((rd_T30 l0_3 x9_2).f1) ((rd_T30 l0_3 x9_2).f2) _ _ ((rd_T30 l0_3 x9_2).f3) false x2_2 (wrap64 (a3 + 1)) t195 _ ?side1 ?side2 ?side3 ?side4 A63.out).mono ?_); (case side1 => exact kcb); (case side2 => exact HC190_0.out); (case side3 => exact kcb); (case side4 => exact HC190_3.out); rintro e w67 ⟨rfl, hb⟩; replace BK189 := Aside0.mk (blb BK189 hb); replace BK191 := Aside0.mk (blb BK191 hb); replace HB := bst hb; (try clear hb); (try clear hb2); (try clear hk); (try clear hi))))
          go_ret
          exact ⟨rz_, bel⟩
         rw [if_neg c64] at H
         have c64b0 : decide (t195 < 0) = false := decide_eq_false c64
         clear c64
         have H' := Aside0.mk H
         clear H
         have hnb68 := NB191_189.out
         have hnc68 := NB189_191.out
         have C69_0 : wc.cell? ⟨gb191, 0, none⟩ = some (.slice A190_0 ((rd_T30 l0_3 x9_2).f0).length c190_0) := (blk_cell BK191.out 0).trans rfl
         have C69_1 : wc.cell? ⟨gb191, 1, none⟩ = some (.bool ((rd_T30 l0_3 x9_2).f1)) := (blk_cell BK191.out 1).trans rfl
         have C69_2 : wc.cell? ⟨gb191, 2, none⟩ = some (.int .i64 ((rd_T30 l0_3 x9_2).f2)) := (blk_cell BK191.out 2).trans rfl
         have C69_3 : wc.cell? ⟨gb191, 3, none⟩ = some (.slice A190_3 ((rd_T30 l0_3 x9_2).f3).length c190_3) := (blk_cell BK191.out 3).trans rfl
         obtain ⟨F69_0, F69_1, F69_2, F69_3, -⟩ := frz_4 BK191.out
         go_wp2_with (first | (go_at_call 59; (with_reducible refine (ih kj42 (by have := HJ4.out; have := HK2.out; have := HJ42.out; omega) _ _ ((rd_T30 l0_3 x9_2).f0) ((rd_T30 l0_3 x9_2).f1) ((rd_T30 l0_3 x9_2).f2) _ _ ((rd_T30 l0_3 x9_2).f3) false x2_2 (wrap64 (a3 + 1)) t195 _ ?side1 ?side2 ?side3 ?side4 A63.out).mono ?_); (case side1 => exact kcb); (case side2 => exact HC190_0.out); (case side3 => exact kcb); (case side4 => exact HC190_3.out); rintro e w70 ⟨rfl, hb⟩; replace BK189 := Aside0.mk (blb BK189 hb); replace BK191 := Aside0.mk (blb BK191 hb); replace HB := bst hb; (try clear hb); (try clear hb2); (try clear hk); (try clear hi)))
         repeat (go_quiet (first | (go_at_call 59; (with_reducible refine (ih kj42 (by have := HJ4.out; have := HK2.out; have := HJ42.out; omega) _ _ ((rd_T30 l0_3 x9_2).f0) ((rd_T30 l0_3 x9_2).f1) ((rd_T30 l0_3 x9_2).f2) _ _ ((rd_T30 l0_3 x9_2).f3) false x2_2 (wrap64 (a3 + 1)) t195 _ ?side1 ?side2 ?side3 ?side4 A63.out).mono ?_); (case side1 => exact kcb); (case side2 => exact HC190_0.out); (case side3 => exact kcb); (case side4 => exact HC190_3.out); rintro e w70 ⟨rfl, hb⟩; replace BK189 := Aside0.mk (blb BK189 hb); replace BK191 := Aside0.mk (blb BK191 hb); replace HB := bst hb; (try clear hb); (try clear hb2); (try clear hk); (try clear hi))); try go_wp2_with (first | (go_at_call 59; (with_reducible refine (ih kj42 (by have := HJ4.out; have := HK2.out; have := HJ42.out; omega) _ _ ((rd_T30 l0_3 x9_2).f0) ((rd_T30 l0_3 x9_2).f1) ((rd_T30 l0_3 x9_2).f2) _ _ ((rd_T30 l0_3 x9_2).f3) false x2_2 (wrap64 (a3 + 1)) t195 _ ?side1 ?side2 ?side3 ?side4 A63.out).mono ?_); (case side1 => exact kcb); (case side2 => exact HC190_0.out); (case side3 => exact kcb); (case side4 => exact HC190_3.out); rintro e w70 ⟨rfl, hb⟩; replace BK189 := Aside0.mk (blb BK189 hb); replace BK191 := Aside0.mk (blb BK191 hb); replace HB := bst hb; (try clear hb); (try clear hb2); (try clear hk); (try clear hi))))
         go_roundg kj42
         case measure => have := HJ4.out; have := HK2.out; have := HJ42.out; omega
         case rel => exact ⟨(t195), (wrap64 (x9_2 + 1)), rs_, rs_, H', ⟨by have := HJ4.out; have := HK2.out; have := HJ42.out; omega⟩, ⟨bkp BK189⟩, ⟨bel⟩⟩
      rw [if_neg c42] at H
      exact absurd H (by simp)
     rw [if_neg c41] at H
     have c41b0 : decide (x9_2 < (l0_3.length : Int)) = false := decide_eq_false c41
     clear c41
     obtain rfl := Option.some.inj H
     obtain ⟨C71_0, C71_1, C71_2, C71_3, -⟩ := cells_4 BK189.out trivial
     obtain ⟨F71_0, F71_1, F71_2, F71_3, -⟩ := frz_4 BK189.out
     go_wp2
     repeat (go_quiet (fail); try go_wp2)
     go_ret
     exact ⟨rz_, bel⟩

/-! ### spec_l6long: function 60 -/
mutual
def spec_l6long.l0 : Nat → Int → Int → List Int → Bool → Int → List (S30) → Option (Int)
 | 0, _, _, _, _, _, _ => none
 | k + 1, x3, x4, x197000, x197001, x197002, x197003 => if x4 < (x197003.length : Int) then (if 0 ≤ x4 then ((spec_l6long.f k ((rd_T30 x197003 x4).f0) ((rd_T30 x197003 x4).f1) ((rd_T30 x197003 x4).f2) ((rd_T30 x197003 x4).f3)).bind fun t198 => (if t198 > x3 then (spec_l6long.l0 k t198 (wrap64 (x4 + 1)) x197000 x197001 x197002 x197003) else (spec_l6long.l0 k x3 (wrap64 (x4 + 1)) x197000 x197001 x197002 x197003))) else (none)) else (some (wrap64 (x3 + (x197000.length : Int))))
def spec_l6long.f : Nat → List Int → Bool → Int → List (S30) → Option (Int)
 | 0, _, _, _, _ => none
 | k + 1, l0_0, a0_1, a0_2, l0_3 => spec_l6long.l0 k 0 0 l0_0 a0_1 a0_2 l0_3
end
set_option maxHeartbeats 8000000 in
set_option maxRecDepth 100000 in
theorem spec_l6long.calls (k : Nat) : ∀ (A0_0 : Option Addr) (c0_0 : Nat) (l0_0 : List Int) (a0_1 : Bool) (a0_2 : Int) (A0_3 : Option Addr) (c0_3 : Nat) (l0_3 : List (S30)) (r : Int) (w : World) (hr0_0 : Kd.C (Kd.int .u8) w A0_0 l0_0.length l0_0) (hc0_0 : l0_0.length ≤ c0_0) (hr0_3 : Kd.C k30 w A0_3 l0_3.length l0_3) (hc0_3 : l0_3.length ≤ c0_3) (h : spec_l6long.f k l0_0 a0_1 a0_2 l0_3 = some r),
  Calls Try.prog 60 #[.agg #[.slice A0_0 l0_0.length c0_0, .bool a0_1, .int .i64 a0_2, .slice A0_3 l0_3.length c0_3]] w fun e w' => e = .returned (.int .i64 r) ∧ Below w.heap.size w w' := by
 induction k using Nat.strongRecOn with
 | _ k ih =>
 intro A0_0 c0_0 l0_0 a0_1 a0_2 A0_3 c0_3 l0_3 r w hr0_0 hc0_0 hr0_3 hc0_3 h
 cases k with
 | zero => exact absurd h (by simp [spec_l6long.f])
 | succ k =>
 simp only [spec_l6long.f] at h
 have hu30 := Try.underlying30
 have HR0_0 := Aside0.mk hr0_0
 have HC0_0 := Aside0.mk hc0_0
 clear hr0_0 hc0_0
 have HR0_3 := Aside0.mk hr0_3
 have HC0_3 := Aside0.mk hc0_3
 clear hr0_3 hc0_3
 have HB := Aside0.mk (Below.refl w.heap.size w)
 have H : (spec_l6long.l0 k 0 0 l0_0 a0_1 a0_2 l0_3) = some r := h
 clear h
 have H' := Aside0.mk H
 clear H
 go_enter Try.func60, Try.ntmps60
 go_wp2_with (first | ((with_reducible refine gate_dst (N := 1) rfl ?_); refine bx_ 1 #[.slice A0_0 l0_0.length c0_0, .bool a0_1, .int .i64 a0_2, .slice A0_3 l0_3.length c0_3] 30 (h := ?_); intro gb196 hg w2 hbox hb; have BK196 := Aside0.mk (hbox); have GW196 := Aside0.mk ((by rw [hg]; exact (below_size bel) : w.heap.size ≤ gb196)); have GE196 := GW196; replace HB := bst hb; clear hb hbox hg))
 go_loopg [3, 4] k (fun kq v3 v4 w' => ∃ (x3_1 : Int) (x4_1 : Int), v3 = .int .i64 x3_1 ∧ v4 = .int .i64 x4_1 ∧ Aside0 (spec_l6long.l0 kq x3_1 x4_1 l0_0 a0_1 a0_2 l0_3 = some r) ∧ Aside0 (kq ≤ k) ∧ Aside0 (w'.heap[gb196]? = some (.cells #[(.slice A0_0 l0_0.length c0_0), .bool a0_1, .int .i64 a0_2, (.slice A0_3 l0_3.length c0_3)] 30 (0, 0))) ∧ Aside0 (Below w.heap.size w w'))
 case atStart => exact ⟨(0), (0), rs_, rs_, H', ⟨Nat.le_refl _⟩, ⟨bkp BK196⟩, ⟨bel⟩⟩
 case round =>
  clear H'
  try clear p2
  obtain ⟨x3_1, x4_1, rfl, rfl, HA, HK1, BK196, HB⟩ := hrel
  cases gk with
  | zero => exact absurd HA.out (by simp [spec_l6long.l0])
  | succ k1 =>
   have H := HA.out
   clear HA
   simp only [spec_l6long.l0] at H
   by_cases c3 : x4_1 < (l0_3.length : Int)
   ·rw [if_pos c3] at H
    have c3b0 : decide (x4_1 < (l0_3.length : Int)) = true := decide_eq_true c3
    clear c3
    by_cases c4 : 0 ≤ x4_1
    ·rw [if_pos c4] at H
     have c4b0 : decide (0 ≤ x4_1) = true := decide_eq_true c4
     clear c4
     replace H := Option.bind_eq_some_iff.mp H
     obtain ⟨t198, A50, H⟩ := H
     replace H : (if t198 > x3_1 then (spec_l6long.l0 k1 t198 (wrap64 (x4_1 + 1)) l0_0 a0_1 a0_2 l0_3) else (spec_l6long.l0 k1 x3_1 (wrap64 (x4_1 + 1)) l0_0 a0_1 a0_2 l0_3)) = some r := H
     have A5 := Aside0.mk A50
     clear A50
     by_cases c6 : t198 > x3_1
     ·rw [if_pos c6] at H
      have c6b0 : decide (x3_1 < t198) = true := decide_eq_true c6
      clear c6
      have H' := Aside0.mk H
      clear H
      obtain ⟨C7_0, C7_1, C7_2, C7_3, -⟩ := cells_4 BK196.out trivial
      obtain ⟨F7_0, F7_1, F7_2, F7_3, -⟩ := frz_4 BK196.out
      have p197 : 0 ≤ (x4_1 : Int) := od
      have q197 : x4_1 < (l0_3.length : Int) := od
      obtain ⟨ad197, A197_0, c197_0, A197_3, c197_3, e197, hx197_0, hx197_1, hx197_2, hx197_3, hl197_0, hi197_0, hl197_3, hi197_3⟩ := at_T30 HR0_3.out x4_1 p197 q197
      cases e197
      replace hx197_0 := hxb HB hx197_0
      replace hx197_1 := hxb HB hx197_1
      replace hx197_2 := hxb HB hx197_2
      replace hx197_3 := hxb HB hx197_3
      have HR197_0 := Aside0.mk hi197_0
      have HC197_0 := Aside0.mk hl197_0
      clear hi197_0 hl197_0
      have HR197_3 := Aside0.mk hi197_3
      have HC197_3 := Aside0.mk hl197_3
      clear hi197_3 hl197_3
      replace p197 := eq_true p197
      replace q197 := eq_true q197
      go_wp2_with (first | ((with_reducible refine gate_callee (f := 60) rfl ?_); refine gl_ (some 18) Try.func60 #[.agg #[.slice A197_0 ((rd_T30 l0_3 x4_1).f0).length c197_0, .bool ((rd_T30 l0_3 x4_1).f1), .int .i64 ((rd_T30 l0_3 x4_1).f2), .slice A197_3 ((rd_T30 l0_3 x4_1).f3).length c197_3]] (h := ?_); (with_reducible refine (ih k1 (by have := HK1.out; omega) _ _ ((rd_T30 l0_3 x4_1).f0) ((rd_T30 l0_3 x4_1).f1) ((rd_T30 l0_3 x4_1).f2) _ _ ((rd_T30 l0_3 x4_1).f3) t198 _ ?side1 ?side2 ?side3 ?side4 A5.out).mono ?_); (case side1 => exact kcb); (case side2 => exact HC197_0.out); (case side3 => exact kcb); (case side4 => exact HC197_3.out); rintro e w8 ⟨rfl, hb⟩; refine ⟨_, rfl, ?_⟩; replace BK196 := Aside0.mk (blb BK196 hb); replace HB := bst hb; (try clear hb); (try clear hb2); (try clear hk); (try clear hi)))
      go_roundg k1
      case measure => have := HK1.out; omega
      case rel => exact ⟨(t198), (wrap64 (x4_1 + 1)), rs_, rs_, H', ⟨by have := HK1.out; omega⟩, ⟨bkp BK196⟩, ⟨bel⟩⟩
     rw [if_neg c6] at H
     have c6b0 : decide (x3_1 < t198) = false := decide_eq_false c6
     clear c6
     have H' := Aside0.mk H
     clear H
     obtain ⟨C9_0, C9_1, C9_2, C9_3, -⟩ := cells_4 BK196.out trivial
     obtain ⟨F9_0, F9_1, F9_2, F9_3, -⟩ := frz_4 BK196.out
     have p197 : 0 ≤ (x4_1 : Int) := od
     have q197 : x4_1 < (l0_3.length : Int) := od
     obtain ⟨ad197, A197_0, c197_0, A197_3, c197_3, e197, hx197_0, hx197_1, hx197_2, hx197_3, hl197_0, hi197_0, hl197_3, hi197_3⟩ := at_T30 HR0_3.out x4_1 p197 q197
     cases e197
     replace hx197_0 := hxb HB hx197_0
     replace hx197_1 := hxb HB hx197_1
     replace hx197_2 := hxb HB hx197_2
     replace hx197_3 := hxb HB hx197_3
     have HR197_0 := Aside0.mk hi197_0
     have HC197_0 := Aside0.mk hl197_0
     clear hi197_0 hl197_0
     have HR197_3 := Aside0.mk hi197_3
     have HC197_3 := Aside0.mk hl197_3
     clear hi197_3 hl197_3
     replace p197 := eq_true p197
     replace q197 := eq_true q197
     go_wp2_with (first | ((with_reducible refine gate_callee (f := 60) rfl ?_); refine gl_ (some 18) Try.func60 #[.agg #[.slice A197_0 ((rd_T30 l0_3 x4_1).f0).length c197_0, .bool ((rd_T30 l0_3 x4_1).f1), .int .i64 ((rd_T30 l0_3 x4_1).f2), .slice A197_3 ((rd_T30 l0_3 x4_1).f3).length c197_3]] (h := ?_); (with_reducible refine (ih k1 (by have := HK1.out; omega) _ _ ((rd_T30 l0_3 x4_1).f0) ((rd_T30 l0_3 x4_1).f1) ((rd_T30 l0_3 x4_1).f2) _ _ ((rd_T30 l0_3 x4_1).f3) t198 _ ?side1 ?side2 ?side3 ?side4 A5.out).mono ?_); (case side1 => exact kcb); (case side2 => exact HC197_0.out); (case side3 => exact kcb); (case side4 => exact HC197_3.out); rintro e w10 ⟨rfl, hb⟩; refine ⟨_, rfl, ?_⟩; replace BK196 := Aside0.mk (blb BK196 hb); replace HB := bst hb; (try clear hb); (try clear hb2); (try clear hk); (try clear hi)))
     go_roundg k1
     case measure => have := HK1.out; omega
     case rel => exact ⟨(x3_1), (wrap64 (x4_1 + 1)), rs_, rs_, H', ⟨by have := HK1.out; omega⟩, ⟨bkp BK196⟩, ⟨bel⟩⟩
    rw [if_neg c4] at H
    exact absurd H (by simp)
   rw [if_neg c3] at H
   have c3b0 : decide (x4_1 < (l0_3.length : Int)) = false := decide_eq_false c3
   clear c3
   obtain rfl := Option.some.inj H
   obtain ⟨C11_0, C11_1, C11_2, C11_3, -⟩ := cells_4 BK196.out trivial
   obtain ⟨F11_0, F11_1, F11_2, F11_3, -⟩ := frz_4 BK196.out
   go_wp2
   go_ret
   exact ⟨rz_, bel⟩

end Go.Proofs.Ytoaddpfoecggpaa.PS
