-- Written for this claim by the session's program pp.py, out of the kit's print and the seat's translation.
import Derived.Test.YtoaddpfoecggpaaPTx0
namespace Go.Proofs.Ytoaddpfoecggpaa.PT
open Go.RowKit Go.Proofs.YtoaddpfoecggpaaW.PrintWords Go.Proofs.YtoaddpfoecggpaaW.PrintLast Go.Proofs.YtoaddpfoecggpaaW.PrintMore
attribute [local go_sem] max2_int min2_int max_two min_two max_three min_three max_four min_four   -- for this text's walks alone
set_option linter.unusedVariables false
set_option linter.unusedSimpArgs false

/-! ### spec_l6ok: function 59 -/
mutual
def spec_l6ok.j0 : Nat → Int → Int → Bool → List Int → Bool → Int → List (S30) → Option (Int)
 | 0, _, _, _, _, _, _, _ => none
 | k + 1, x2, x3, x72, x195000, x195001, x195002, x195003 => if x72 = true then (some (-1)) else (spec_l6ok.l0 k x2 x3 0 x195000 x195001 x195002 x195003)
def spec_l6ok.l0 : Nat → Int → Int → Int → List Int → Bool → Int → List (S30) → Option (Int)
 | 0, _, _, _, _, _, _, _ => none
 | k + 1, x2, x3, x9, x195000, x195001, x195002, x195003 => if x9 < (x195003.length : Int) then (if 0 ≤ x9 then (if (((rd_T30 x195003 x9).f0).length : Int) = 0 then (spec_l6ok.j2 k x2 x3 x9 true x195000 x195001 x195002 x195003 ((rd_T30 x195003 x9).f0) ((rd_T30 x195003 x9).f1) ((rd_T30 x195003 x9).f2) ((rd_T30 x195003 x9).f3)) else (if x9 > 0 then (if 0 ≤ (wrap64 (x9 - 1)) then (if (wrap64 (x9 - 1)) < (x195003.length : Int) then (if 0 < (((rd_T30 x195003 (wrap64 (x9 - 1))).f0).length : Int) then (if 0 < (((rd_T30 x195003 x9).f0).length : Int) then (spec_l6ok.j2 k x2 x3 x9 (decide ((rd ((rd_T30 x195003 (wrap64 (x9 - 1))).f0) 0) ≥ (rd ((rd_T30 x195003 x9).f0) 0))) x195000 x195001 x195002 x195003 ((rd_T30 x195003 x9).f0) ((rd_T30 x195003 x9).f1) ((rd_T30 x195003 x9).f2) ((rd_T30 x195003 x9).f3)) else (none)) else (none)) else (none)) else (none)) else (spec_l6ok.j2 k x2 x3 x9 false x195000 x195001 x195002 x195003 ((rd_T30 x195003 x9).f0) ((rd_T30 x195003 x9).f1) ((rd_T30 x195003 x9).f2) ((rd_T30 x195003 x9).f3)))) else (none)) else (some x2)
def spec_l6ok.j2 : Nat → Int → Int → Int → Bool → List Int → Bool → Int → List (S30) → List Int → Bool → Int → List (S30) → Option (Int)
 | 0, _, _, _, _, _, _, _, _, _, _, _, _ => none
 | k + 1, x2, x3, x9, x108, x195000, x195001, x195002, x195003, x197000, x197001, x197002, x197003 => if x108 = true then (some (-1)) else ((spec_l6ok.f k x197000 x197001 x197002 x197003 false x2 (wrap64 (x3 + 1))).bind fun t200 => (if t200 < 0 then (some (-1)) else (spec_l6ok.l0 k t200 x3 (wrap64 (x9 + 1)) x195000 x195001 x195002 x195003)))
def spec_l6ok.f : Nat → List Int → Bool → Int → List (S30) → Bool → Int → Int → Option (Int)
 | 0, _, _, _, _, _, _, _ => none
 | k + 1, l0_0, a0_1, a0_2, l0_3, a1, a2, a3 => if (wrap64 (a2 - 1)) < 0 then (spec_l6ok.j0 k (wrap64 (a2 - 1)) a3 true l0_0 a0_1 a0_2 l0_3) else (if a3 > 24 then (spec_l6ok.j0 k (wrap64 (a2 - 1)) a3 true l0_0 a0_1 a0_2 l0_3) else (if a1 = true then (if (l0_0.length : Int) > 0 then (spec_l6ok.j0 k (wrap64 (a2 - 1)) a3 true l0_0 a0_1 a0_2 l0_3) else (if a0_1 = true then (if a0_2 < 0 then (spec_l6ok.j0 k (wrap64 (a2 - 1)) a3 true l0_0 a0_1 a0_2 l0_3) else (if a0_2 > 2147483647 then (spec_l6ok.j0 k (wrap64 (a2 - 1)) a3 true l0_0 a0_1 a0_2 l0_3) else (spec_l6ok.j0 k (wrap64 (a2 - 1)) a3 false l0_0 a0_1 a0_2 l0_3))) else (if a0_2 = 0 then (if a0_2 < 0 then (spec_l6ok.j0 k (wrap64 (a2 - 1)) a3 true l0_0 a0_1 a0_2 l0_3) else (if a0_2 > 2147483647 then (spec_l6ok.j0 k (wrap64 (a2 - 1)) a3 true l0_0 a0_1 a0_2 l0_3) else (spec_l6ok.j0 k (wrap64 (a2 - 1)) a3 false l0_0 a0_1 a0_2 l0_3))) else (spec_l6ok.j0 k (wrap64 (a2 - 1)) a3 true l0_0 a0_1 a0_2 l0_3)))) else (if (l0_0.length : Int) = 0 then (spec_l6ok.j0 k (wrap64 (a2 - 1)) a3 true l0_0 a0_1 a0_2 l0_3) else (if a0_1 = true then (if a0_2 < 0 then (spec_l6ok.j0 k (wrap64 (a2 - 1)) a3 true l0_0 a0_1 a0_2 l0_3) else (if a0_2 > 2147483647 then (spec_l6ok.j0 k (wrap64 (a2 - 1)) a3 true l0_0 a0_1 a0_2 l0_3) else (spec_l6ok.j0 k (wrap64 (a2 - 1)) a3 false l0_0 a0_1 a0_2 l0_3))) else (if a0_2 = 0 then (if a0_2 < 0 then (spec_l6ok.j0 k (wrap64 (a2 - 1)) a3 true l0_0 a0_1 a0_2 l0_3) else (if a0_2 > 2147483647 then (spec_l6ok.j0 k (wrap64 (a2 - 1)) a3 true l0_0 a0_1 a0_2 l0_3) else (spec_l6ok.j0 k (wrap64 (a2 - 1)) a3 (decide ((l0_3.length : Int) < 2)) l0_0 a0_1 a0_2 l0_3))) else (spec_l6ok.j0 k (wrap64 (a2 - 1)) a3 true l0_0 a0_1 a0_2 l0_3))))))
end
set_option maxHeartbeats 8000000 in
set_option maxRecDepth 100000 in
theorem spec_l6ok.calls (k : Nat) : ∀ (A0_0 : Option Addr) (c0_0 : Nat) (l0_0 : List Int) (a0_1 : Bool) (a0_2 : Int) (A0_3 : Option Addr) (c0_3 : Nat) (l0_3 : List (S30)) (a1 : Bool) (a2 : Int) (a3 : Int) (r : Int) (w : World) (hr0_0 : Kd.C (Kd.int .u8) w A0_0 l0_0.length l0_0) (hc0_0 : l0_0.length ≤ c0_0) (hr0_3 : Kd.C k30 w A0_3 l0_3.length l0_3) (hc0_3 : l0_3.length ≤ c0_3) (h : spec_l6ok.f k l0_0 a0_1 a0_2 l0_3 a1 a2 a3 = some r),
  Calls Try.prog 59 #[.agg #[.slice A0_0 l0_0.length c0_0, .bool a0_1, .int .i64 a0_2, .slice A0_3 l0_3.length c0_3], .bool a1, .int .i64 a2, .int .i64 a3] w fun e w' => e = .returned (.int .i64 r) ∧ Below w.heap.size w w' := by
 induction k using Nat.strongRecOn with
 | _ k ih =>
 intro A0_0 c0_0 l0_0 a0_1 a0_2 A0_3 c0_3 l0_3 a1 a2 a3 r w hr0_0 hc0_0 hr0_3 hc0_3 h
 cases k with
 | zero => exact absurd h (by simp [spec_l6ok.f])
 | succ k =>
 simp only [spec_l6ok.f] at h
 have hu30 := Try.underlying30
 have HR0_0 := Aside0.mk hr0_0
 have HC0_0 := Aside0.mk hc0_0
 clear hr0_0 hc0_0
 have HR0_3 := Aside0.mk hr0_3
 have HC0_3 := Aside0.mk hc0_3
 clear hr0_3 hc0_3
 have HB := Aside0.mk (Below.refl w.heap.size w)
 have H : (if (wrap64 (a2 - 1)) < 0 then (spec_l6ok.j0 k (wrap64 (a2 - 1)) a3 true l0_0 a0_1 a0_2 l0_3) else (if a3 > 24 then (spec_l6ok.j0 k (wrap64 (a2 - 1)) a3 true l0_0 a0_1 a0_2 l0_3) else (if a1 = true then (if (l0_0.length : Int) > 0 then (spec_l6ok.j0 k (wrap64 (a2 - 1)) a3 true l0_0 a0_1 a0_2 l0_3) else (if a0_1 = true then (if a0_2 < 0 then (spec_l6ok.j0 k (wrap64 (a2 - 1)) a3 true l0_0 a0_1 a0_2 l0_3) else (if a0_2 > 2147483647 then (spec_l6ok.j0 k (wrap64 (a2 - 1)) a3 true l0_0 a0_1 a0_2 l0_3) else (spec_l6ok.j0 k (wrap64 (a2 - 1)) a3 false l0_0 a0_1 a0_2 l0_3))) else (if a0_2 = 0 then (if a0_2 < 0 then (spec_l6ok.j0 k (wrap64 (a2 - 1)) a3 true l0_0 a0_1 a0_2 l0_3) else (if a0_2 > 2147483647 then (spec_l6ok.j0 k (wrap64 (a2 - 1)) a3 true l0_0 a0_1 a0_2 l0_3) else (spec_l6ok.j0 k (wrap64 (a2 - 1)) a3 false l0_0 a0_1 a0_2 l0_3))) else (spec_l6ok.j0 k (wrap64 (a2 - 1)) a3 true l0_0 a0_1 a0_2 l0_3)))) else (if (l0_0.length : Int) = 0 then (spec_l6ok.j0 k (wrap64 (a2 - 1)) a3 true l0_0 a0_1 a0_2 l0_3) else (if a0_1 = true then (if a0_2 < 0 then (spec_l6ok.j0 k (wrap64 (a2 - 1)) a3 true l0_0 a0_1 a0_2 l0_3) else (if a0_2 > 2147483647 then (spec_l6ok.j0 k (wrap64 (a2 - 1)) a3 true l0_0 a0_1 a0_2 l0_3) else (spec_l6ok.j0 k (wrap64 (a2 - 1)) a3 false l0_0 a0_1 a0_2 l0_3))) else (if a0_2 = 0 then (if a0_2 < 0 then (spec_l6ok.j0 k (wrap64 (a2 - 1)) a3 true l0_0 a0_1 a0_2 l0_3) else (if a0_2 > 2147483647 then (spec_l6ok.j0 k (wrap64 (a2 - 1)) a3 true l0_0 a0_1 a0_2 l0_3) else (spec_l6ok.j0 k (wrap64 (a2 - 1)) a3 (decide ((l0_3.length : Int) < 2)) l0_0 a0_1 a0_2 l0_3))) else (spec_l6ok.j0 k (wrap64 (a2 - 1)) a3 true l0_0 a0_1 a0_2 l0_3))))))) = some r := h
 clear h
 have HC5 := Aside0.mk H
 clear H
 go_enter Try.func59, Try.ntmps59
 go_upto_region 2 with (first | ((with_reducible refine gate_dst (N := 4) rfl ?_); (try (refine gate_guard (by rfl) ?_; dsimp only)); refine bx_ 4 #[.slice A0_0 l0_0.length c0_0, .bool a0_1, .int .i64 a0_2, .slice A0_3 l0_3.length c0_3] 30 (h := ?_); intro gb194 hg w6 hbox hb; have BK194 := Aside0.mk (hbox); have GW194 := Aside0.mk ((by rw [hg]; exact (below_size bel) : w.heap.size ≤ gb194)); have GE194 := Aside0.mk ((by rw [hg]; exact (below_size bel) : w.heap.size ≤ gb194)); replace HB := Aside0.mk (below_step bel hb); clear hb hbox hg))
 repeat (go_quiet (first | ((with_reducible refine gate_dst (N := 4) rfl ?_); (try (refine gate_guard (by rfl) ?_; dsimp only)); refine bx_ 4 #[.slice A0_0 l0_0.length c0_0, .bool a0_1, .int .i64 a0_2, .slice A0_3 l0_3.length c0_3] 30 (h := ?_); intro gb194 hg w6 hbox hb; have BK194 := Aside0.mk (hbox); have GW194 := Aside0.mk ((by rw [hg]; exact (below_size bel) : w.heap.size ≤ gb194)); have GE194 := Aside0.mk ((by rw [hg]; exact (below_size bel) : w.heap.size ≤ gb194)); replace HB := Aside0.mk (below_step bel hb); clear hb hbox hg)); go_upto_region 2 with (first | ((with_reducible refine gate_dst (N := 4) rfl ?_); (try (refine gate_guard (by rfl) ?_; dsimp only)); refine bx_ 4 #[.slice A0_0 l0_0.length c0_0, .bool a0_1, .int .i64 a0_2, .slice A0_3 l0_3.length c0_3] 30 (h := ?_); intro gb194 hg w6 hbox hb; have BK194 := Aside0.mk (hbox); have GW194 := Aside0.mk ((by rw [hg]; exact (below_size bel) : w.heap.size ≤ gb194)); have GE194 := Aside0.mk ((by rw [hg]; exact (below_size bel) : w.heap.size ≤ gb194)); replace HB := Aside0.mk (below_step bel hb); clear hb hbox hg)))
 (try simp only [Act.put, List.setIfInBounds_toArray, List.set_cons_zero, List.set_cons_succ])
 go_cut [72] (fun v72 wc => ∃ (kq : Nat) (x72_4 : Bool), v72 = .bool x72_4 ∧ Aside0 (spec_l6ok.j0 kq (wrap64 (a2 - 1)) a3 x72_4 l0_0 a0_1 a0_2 l0_3 = some r) ∧ Aside0 (kq ≤ k) ∧ Aside0 (wc.heap[gb194]? = some (.cells #[(.slice A0_0 l0_0.length c0_0), .bool a0_1, .int .i64 a0_2, (.slice A0_3 l0_3.length c0_3)] 30 (0, 0))) ∧ Aside0 (Below w.heap.size w wc))
 case first =>
  have H := HC5.out
  clear HC5
  by_cases c7 : (wrap64 (a2 - 1)) < 0
  ·rw [if_pos c7] at H
   have c7b0 : decide ((wrap64 (a2 - 1)) < 0) = true := decide_eq_true c7
   clear c7
   (first | rw [c7b0] | (simp only [i64_w, i32_w]; rw [c7b0]) | skip)
   have H' := Aside0.mk H
   clear H
   go_wp2
   repeat (go_quiet (fail); try go_wp2)
   go_meet
   case rel => exact ⟨_, (true), (by first | rfl | (simp; done) | (simp [*]; done)), H', ⟨by first | omega | exact Nat.le_refl _⟩, ⟨by (with_reducible repeat (first | refine blk_drewN ?_ _ | refine blk_drew ?_ | refine blk_alloc ?_ _)); exact BK194.out⟩, ⟨by repeat (first | (with_reducible first | exact HB.out | apply below_alloc | apply pw_below_drewN | apply below_drew1 | refine below_set ?_ GE194.out) | exact HB.out)⟩⟩
  ·rw [if_neg c7] at H
   have c7b0 : decide ((wrap64 (a2 - 1)) < 0) = false := decide_eq_false c7
   clear c7
   (first | rw [c7b0] | (simp only [i64_w, i32_w]; rw [c7b0]) | skip)
   by_cases c8 : a3 > 24
   ·rw [if_pos c8] at H
    have c8b0 : decide (24 < a3) = true := decide_eq_true c8
    clear c8
    have H' := Aside0.mk H
    clear H
    go_wp2
    repeat (go_quiet (fail); try go_wp2)
    go_meet
    case rel => exact ⟨_, (true), (by first | rfl | (simp; done) | (simp [*]; done)), H', ⟨by first | omega | exact Nat.le_refl _⟩, ⟨by (with_reducible repeat (first | refine blk_drewN ?_ _ | refine blk_drew ?_ | refine blk_alloc ?_ _)); exact BK194.out⟩, ⟨by repeat (first | (with_reducible first | exact HB.out | apply below_alloc | apply pw_below_drewN | apply below_drew1 | refine below_set ?_ GE194.out) | exact HB.out)⟩⟩
   ·rw [if_neg c8] at H
    have c8b0 : decide (24 < a3) = false := decide_eq_false c8
    clear c8
    by_cases c9 : a1 = true
    ·subst c9
     have H1 : (if (l0_0.length : Int) > 0 then (spec_l6ok.j0 k (wrap64 (a2 - 1)) a3 true l0_0 a0_1 a0_2 l0_3) else (if a0_1 = true then (if a0_2 < 0 then (spec_l6ok.j0 k (wrap64 (a2 - 1)) a3 true l0_0 a0_1 a0_2 l0_3) else (if a0_2 > 2147483647 then (spec_l6ok.j0 k (wrap64 (a2 - 1)) a3 true l0_0 a0_1 a0_2 l0_3) else (spec_l6ok.j0 k (wrap64 (a2 - 1)) a3 false l0_0 a0_1 a0_2 l0_3))) else (if a0_2 = 0 then (if a0_2 < 0 then (spec_l6ok.j0 k (wrap64 (a2 - 1)) a3 true l0_0 a0_1 a0_2 l0_3) else (if a0_2 > 2147483647 then (spec_l6ok.j0 k (wrap64 (a2 - 1)) a3 true l0_0 a0_1 a0_2 l0_3) else (spec_l6ok.j0 k (wrap64 (a2 - 1)) a3 false l0_0 a0_1 a0_2 l0_3))) else (spec_l6ok.j0 k (wrap64 (a2 - 1)) a3 true l0_0 a0_1 a0_2 l0_3)))) = some r := by rw [if_pos rfl] at H; exact H
     clear H
     have H := H1
     clear H1
     by_cases c10 : (l0_0.length : Int) > 0
     ·rw [if_pos c10] at H
      have c10b0 : decide (0 < (l0_0.length : Int)) = true := decide_eq_true c10
      have c10b1 : decide (0 < l0_0.length) = true := decide_eq_true (by omega)
      clear c10
      have H' := Aside0.mk H
      clear H
      obtain ⟨hcz11_0, hcz11_1, hcz11_2, hcz11_3, -⟩ := cells_4 BK194.out trivial
      obtain ⟨hfz11_0, hfz11_1, hfz11_2, hfz11_3, -⟩ := frz_4 BK194.out
      go_wp2
      repeat (go_quiet (fail); try go_wp2)
      go_meet
      case rel => exact ⟨_, (true), (by first | rfl | (simp; done) | (simp [*]; done)), H', ⟨by first | omega | exact Nat.le_refl _⟩, ⟨by (with_reducible repeat (first | refine blk_drewN ?_ _ | refine blk_drew ?_ | refine blk_alloc ?_ _)); exact BK194.out⟩, ⟨by repeat (first | (with_reducible first | exact HB.out | apply below_alloc | apply pw_below_drewN | apply below_drew1 | refine below_set ?_ GE194.out) | exact HB.out)⟩⟩
     ·rw [if_neg c10] at H
      have c10b0 : decide (0 < (l0_0.length : Int)) = false := decide_eq_false c10
      have c10b1 : decide (0 < l0_0.length) = false := decide_eq_false (by omega)
      clear c10
      by_cases c12 : a0_1 = true
      ·subst c12
       have H1 : (if a0_2 < 0 then (spec_l6ok.j0 k (wrap64 (a2 - 1)) a3 true l0_0 true a0_2 l0_3) else (if a0_2 > 2147483647 then (spec_l6ok.j0 k (wrap64 (a2 - 1)) a3 true l0_0 true a0_2 l0_3) else (spec_l6ok.j0 k (wrap64 (a2 - 1)) a3 false l0_0 true a0_2 l0_3))) = some r := by rw [if_pos rfl] at H; exact H
       clear H
       have H := H1
       clear H1
       by_cases c13 : a0_2 < 0
       ·rw [if_pos c13] at H
        have c13b0 : decide (a0_2 < 0) = true := decide_eq_true c13
        clear c13
        have H' := Aside0.mk H
        clear H
        obtain ⟨hcz14_0, hcz14_1, hcz14_2, hcz14_3, -⟩ := cells_4 BK194.out trivial
        obtain ⟨hfz14_0, hfz14_1, hfz14_2, hfz14_3, -⟩ := frz_4 BK194.out
        go_wp2
        repeat (go_quiet (fail); try go_wp2)
        go_meet
        case rel => exact ⟨_, (true), (by first | rfl | (simp; done) | (simp [*]; done)), H', ⟨by first | omega | exact Nat.le_refl _⟩, ⟨by (with_reducible repeat (first | refine blk_drewN ?_ _ | refine blk_drew ?_ | refine blk_alloc ?_ _)); exact BK194.out⟩, ⟨by repeat (first | (with_reducible first | exact HB.out | apply below_alloc | apply pw_below_drewN | apply below_drew1 | refine below_set ?_ GE194.out) | exact HB.out)⟩⟩
       ·rw [if_neg c13] at H
        have c13b0 : decide (a0_2 < 0) = false := decide_eq_false c13
        clear c13
        by_cases c15 : a0_2 > 2147483647
        ·rw [if_pos c15] at H
         have c15b0 : decide (2147483647 < a0_2) = true := decide_eq_true c15
         clear c15
         have H' := Aside0.mk H
         clear H
         obtain ⟨hcz16_0, hcz16_1, hcz16_2, hcz16_3, -⟩ := cells_4 BK194.out trivial
         obtain ⟨hfz16_0, hfz16_1, hfz16_2, hfz16_3, -⟩ := frz_4 BK194.out
         go_wp2
         repeat (go_quiet (fail); try go_wp2)
         go_meet
         case rel => exact ⟨_, (true), (by first | rfl | (simp; done) | (simp [*]; done)), H', ⟨by first | omega | exact Nat.le_refl _⟩, ⟨by (with_reducible repeat (first | refine blk_drewN ?_ _ | refine blk_drew ?_ | refine blk_alloc ?_ _)); exact BK194.out⟩, ⟨by repeat (first | (with_reducible first | exact HB.out | apply below_alloc | apply pw_below_drewN | apply below_drew1 | refine below_set ?_ GE194.out) | exact HB.out)⟩⟩
        ·rw [if_neg c15] at H
         have c15b0 : decide (2147483647 < a0_2) = false := decide_eq_false c15
         clear c15
         have H' := Aside0.mk H
         clear H
         obtain ⟨hcz17_0, hcz17_1, hcz17_2, hcz17_3, -⟩ := cells_4 BK194.out trivial
         obtain ⟨hfz17_0, hfz17_1, hfz17_2, hfz17_3, -⟩ := frz_4 BK194.out
         go_wp2
         repeat (go_quiet (fail); try go_wp2)
         go_meet
         case rel => exact ⟨_, (false), (by first | rfl | (simp; done) | (simp [*]; done)), H', ⟨by first | omega | exact Nat.le_refl _⟩, ⟨by (with_reducible repeat (first | refine blk_drewN ?_ _ | refine blk_drew ?_ | refine blk_alloc ?_ _)); exact BK194.out⟩, ⟨by repeat (first | (with_reducible first | exact HB.out | apply below_alloc | apply pw_below_drewN | apply below_drew1 | refine below_set ?_ GE194.out) | exact HB.out)⟩⟩
      ·replace c12 := Bool.eq_false_iff.mpr c12
       subst c12
       have H1 : (if a0_2 = 0 then (if a0_2 < 0 then (spec_l6ok.j0 k (wrap64 (a2 - 1)) a3 true l0_0 false a0_2 l0_3) else (if a0_2 > 2147483647 then (spec_l6ok.j0 k (wrap64 (a2 - 1)) a3 true l0_0 false a0_2 l0_3) else (spec_l6ok.j0 k (wrap64 (a2 - 1)) a3 false l0_0 false a0_2 l0_3))) else (spec_l6ok.j0 k (wrap64 (a2 - 1)) a3 true l0_0 false a0_2 l0_3)) = some r := by rw [if_neg (show ¬ (false = true) by decide)] at H; exact H
       clear H
       have H := H1
       clear H1
       by_cases c18 : a0_2 = 0
       ·rw [if_pos c18] at H
        have c18b0 : (a0_2 == 0) = true := beq_iff_eq.mpr c18
        have c18b1 : (a0_2 != 0) = false := bne_eq_false_iff_eq.mpr c18
        clear c18
        by_cases c19 : a0_2 < 0
        ·rw [if_pos c19] at H
         have c19b0 : decide (a0_2 < 0) = true := decide_eq_true c19
         clear c19
         have H' := Aside0.mk H
         clear H
         obtain ⟨hcz20_0, hcz20_1, hcz20_2, hcz20_3, -⟩ := cells_4 BK194.out trivial
         obtain ⟨hfz20_0, hfz20_1, hfz20_2, hfz20_3, -⟩ := frz_4 BK194.out
         go_wp2
         repeat (go_quiet (fail); try go_wp2)
         go_meet
         case rel => exact ⟨_, (true), (by first | rfl | (simp; done) | (simp [*]; done)), H', ⟨by first | omega | exact Nat.le_refl _⟩, ⟨by (with_reducible repeat (first | refine blk_drewN ?_ _ | refine blk_drew ?_ | refine blk_alloc ?_ _)); exact BK194.out⟩, ⟨by repeat (first | (with_reducible first | exact HB.out | apply below_alloc | apply pw_below_drewN | apply below_drew1 | refine below_set ?_ GE194.out) | exact HB.out)⟩⟩
        ·rw [if_neg c19] at H
         have c19b0 : decide (a0_2 < 0) = false := decide_eq_false c19
         clear c19
         by_cases c21 : a0_2 > 2147483647
         ·rw [if_pos c21] at H
          have c21b0 : decide (2147483647 < a0_2) = true := decide_eq_true c21
          clear c21
          have H' := Aside0.mk H
          clear H
          obtain ⟨hcz22_0, hcz22_1, hcz22_2, hcz22_3, -⟩ := cells_4 BK194.out trivial
          obtain ⟨hfz22_0, hfz22_1, hfz22_2, hfz22_3, -⟩ := frz_4 BK194.out
          go_wp2
          repeat (go_quiet (fail); try go_wp2)
          go_meet
          case rel => exact ⟨_, (true), (by first | rfl | (simp; done) | (simp [*]; done)), H', ⟨by first | omega | exact Nat.le_refl _⟩, ⟨by (with_reducible repeat (first | refine blk_drewN ?_ _ | refine blk_drew ?_ | refine blk_alloc ?_ _)); exact BK194.out⟩, ⟨by repeat (first | (with_reducible first | exact HB.out | apply below_alloc | apply pw_below_drewN | apply below_drew1 | refine below_set ?_ GE194.out) | exact HB.out)⟩⟩
         ·rw [if_neg c21] at H
          have c21b0 : decide (2147483647 < a0_2) = false := decide_eq_false c21
          clear c21
          have H' := Aside0.mk H
          clear H
          obtain ⟨hcz23_0, hcz23_1, hcz23_2, hcz23_3, -⟩ := cells_4 BK194.out trivial
          obtain ⟨hfz23_0, hfz23_1, hfz23_2, hfz23_3, -⟩ := frz_4 BK194.out
          go_wp2
          repeat (go_quiet (fail); try go_wp2)
          go_meet
          case rel => exact ⟨_, (false), (by first | rfl | (simp; done) | (simp [*]; done)), H', ⟨by first | omega | exact Nat.le_refl _⟩, ⟨by (with_reducible repeat (first | refine blk_drewN ?_ _ | refine blk_drew ?_ | refine blk_alloc ?_ _)); exact BK194.out⟩, ⟨by repeat (first | (with_reducible first | exact HB.out | apply below_alloc | apply pw_below_drewN | apply below_drew1 | refine below_set ?_ GE194.out) | exact HB.out)⟩⟩
       ·rw [if_neg c18] at H
        have c18b0 : (a0_2 == 0) = false := beq_eq_false_iff_ne.mpr c18
        have c18b1 : (a0_2 != 0) = true := bne_iff_ne.mpr c18
        have H' := Aside0.mk H
        clear H
        obtain ⟨hcz24_0, hcz24_1, hcz24_2, hcz24_3, -⟩ := cells_4 BK194.out trivial
        obtain ⟨hfz24_0, hfz24_1, hfz24_2, hfz24_3, -⟩ := frz_4 BK194.out
        go_wp2
        repeat (go_quiet (fail); try go_wp2)
        go_meet
        case rel => exact ⟨_, (true), (by first | rfl | (simp; done) | (simp [*]; done)), H', ⟨by first | omega | exact Nat.le_refl _⟩, ⟨by (with_reducible repeat (first | refine blk_drewN ?_ _ | refine blk_drew ?_ | refine blk_alloc ?_ _)); exact BK194.out⟩, ⟨by repeat (first | (with_reducible first | exact HB.out | apply below_alloc | apply pw_below_drewN | apply below_drew1 | refine below_set ?_ GE194.out) | exact HB.out)⟩⟩
    ·replace c9 := Bool.eq_false_iff.mpr c9
     subst c9
     have H1 : (if (l0_0.length : Int) = 0 then (spec_l6ok.j0 k (wrap64 (a2 - 1)) a3 true l0_0 a0_1 a0_2 l0_3) else (if a0_1 = true then (if a0_2 < 0 then (spec_l6ok.j0 k (wrap64 (a2 - 1)) a3 true l0_0 a0_1 a0_2 l0_3) else (if a0_2 > 2147483647 then (spec_l6ok.j0 k (wrap64 (a2 - 1)) a3 true l0_0 a0_1 a0_2 l0_3) else (spec_l6ok.j0 k (wrap64 (a2 - 1)) a3 false l0_0 a0_1 a0_2 l0_3))) else (if a0_2 = 0 then (if a0_2 < 0 then (spec_l6ok.j0 k (wrap64 (a2 - 1)) a3 true l0_0 a0_1 a0_2 l0_3) else (if a0_2 > 2147483647 then (spec_l6ok.j0 k (wrap64 (a2 - 1)) a3 true l0_0 a0_1 a0_2 l0_3) else (spec_l6ok.j0 k (wrap64 (a2 - 1)) a3 (decide ((l0_3.length : Int) < 2)) l0_0 a0_1 a0_2 l0_3))) else (spec_l6ok.j0 k (wrap64 (a2 - 1)) a3 true l0_0 a0_1 a0_2 l0_3)))) = some r := by rw [if_neg (show ¬ (false = true) by decide)] at H; exact H
     clear H
     have H := H1
     clear H1
     by_cases c25 : (l0_0.length : Int) = 0
     ·rw [if_pos c25] at H
      have c25b0 : ((l0_0.length : Int) == 0) = true := beq_iff_eq.mpr c25
      have c25b1 : ((l0_0.length : Int) != 0) = false := bne_eq_false_iff_eq.mpr c25
      clear c25
      have H' := Aside0.mk H
      clear H
      obtain ⟨hcz26_0, hcz26_1, hcz26_2, hcz26_3, -⟩ := cells_4 BK194.out trivial
      obtain ⟨hfz26_0, hfz26_1, hfz26_2, hfz26_3, -⟩ := frz_4 BK194.out
      go_wp2
      repeat (go_quiet (fail); try go_wp2)
      go_meet
      case rel => exact ⟨_, (true), (by first | rfl | (simp; done) | (simp [*]; done)), H', ⟨by first | omega | exact Nat.le_refl _⟩, ⟨by (with_reducible repeat (first | refine blk_drewN ?_ _ | refine blk_drew ?_ | refine blk_alloc ?_ _)); exact BK194.out⟩, ⟨by repeat (first | (with_reducible first | exact HB.out | apply below_alloc | apply pw_below_drewN | apply below_drew1 | refine below_set ?_ GE194.out) | exact HB.out)⟩⟩
     ·rw [if_neg c25] at H
      have c25b0 : ((l0_0.length : Int) == 0) = false := beq_eq_false_iff_ne.mpr c25
      have c25b1 : ((l0_0.length : Int) != 0) = true := bne_iff_ne.mpr c25
      have c25b2 : ¬ (l0_0 = []) := fun h_ => c25 (by rw [h_]; rfl)
      by_cases c27 : a0_1 = true
      ·subst c27
       have H1 : (if a0_2 < 0 then (spec_l6ok.j0 k (wrap64 (a2 - 1)) a3 true l0_0 true a0_2 l0_3) else (if a0_2 > 2147483647 then (spec_l6ok.j0 k (wrap64 (a2 - 1)) a3 true l0_0 true a0_2 l0_3) else (spec_l6ok.j0 k (wrap64 (a2 - 1)) a3 false l0_0 true a0_2 l0_3))) = some r := by rw [if_pos rfl] at H; exact H
       clear H
       have H := H1
       clear H1
       by_cases c28 : a0_2 < 0
       ·rw [if_pos c28] at H
        have c28b0 : decide (a0_2 < 0) = true := decide_eq_true c28
        clear c28
        have H' := Aside0.mk H
        clear H
        obtain ⟨hcz29_0, hcz29_1, hcz29_2, hcz29_3, -⟩ := cells_4 BK194.out trivial
        obtain ⟨hfz29_0, hfz29_1, hfz29_2, hfz29_3, -⟩ := frz_4 BK194.out
        go_wp2
        repeat (go_quiet (fail); try go_wp2)
        go_meet
        case rel => exact ⟨_, (true), (by first | rfl | (simp; done) | (simp [*]; done)), H', ⟨by first | omega | exact Nat.le_refl _⟩, ⟨by (with_reducible repeat (first | refine blk_drewN ?_ _ | refine blk_drew ?_ | refine blk_alloc ?_ _)); exact BK194.out⟩, ⟨by repeat (first | (with_reducible first | exact HB.out | apply below_alloc | apply pw_below_drewN | apply below_drew1 | refine below_set ?_ GE194.out) | exact HB.out)⟩⟩
       ·rw [if_neg c28] at H
        have c28b0 : decide (a0_2 < 0) = false := decide_eq_false c28
        clear c28
        by_cases c30 : a0_2 > 2147483647
        ·rw [if_pos c30] at H
         have c30b0 : decide (2147483647 < a0_2) = true := decide_eq_true c30
         clear c30
         have H' := Aside0.mk H
         clear H
         obtain ⟨hcz31_0, hcz31_1, hcz31_2, hcz31_3, -⟩ := cells_4 BK194.out trivial
         obtain ⟨hfz31_0, hfz31_1, hfz31_2, hfz31_3, -⟩ := frz_4 BK194.out
         go_wp2
         repeat (go_quiet (fail); try go_wp2)
         go_meet
         case rel => exact ⟨_, (true), (by first | rfl | (simp; done) | (simp [*]; done)), H', ⟨by first | omega | exact Nat.le_refl _⟩, ⟨by (with_reducible repeat (first | refine blk_drewN ?_ _ | refine blk_drew ?_ | refine blk_alloc ?_ _)); exact BK194.out⟩, ⟨by repeat (first | (with_reducible first | exact HB.out | apply below_alloc | apply pw_below_drewN | apply below_drew1 | refine below_set ?_ GE194.out) | exact HB.out)⟩⟩
        ·rw [if_neg c30] at H
         have c30b0 : decide (2147483647 < a0_2) = false := decide_eq_false c30
         clear c30
         have H' := Aside0.mk H
         clear H
         obtain ⟨hcz32_0, hcz32_1, hcz32_2, hcz32_3, -⟩ := cells_4 BK194.out trivial
         obtain ⟨hfz32_0, hfz32_1, hfz32_2, hfz32_3, -⟩ := frz_4 BK194.out
         go_wp2
         repeat (go_quiet (fail); try go_wp2)
         go_meet
         case rel => exact ⟨_, (false), (by first | rfl | (simp; done) | (simp [*]; done)), H', ⟨by first | omega | exact Nat.le_refl _⟩, ⟨by (with_reducible repeat (first | refine blk_drewN ?_ _ | refine blk_drew ?_ | refine blk_alloc ?_ _)); exact BK194.out⟩, ⟨by repeat (first | (with_reducible first | exact HB.out | apply below_alloc | apply pw_below_drewN | apply below_drew1 | refine below_set ?_ GE194.out) | exact HB.out)⟩⟩
      ·replace c27 := Bool.eq_false_iff.mpr c27
       subst c27
       have H1 : (if a0_2 = 0 then (if a0_2 < 0 then (spec_l6ok.j0 k (wrap64 (a2 - 1)) a3 true l0_0 false a0_2 l0_3) else (if a0_2 > 2147483647 then (spec_l6ok.j0 k (wrap64 (a2 - 1)) a3 true l0_0 false a0_2 l0_3) else (spec_l6ok.j0 k (wrap64 (a2 - 1)) a3 (decide ((l0_3.length : Int) < 2)) l0_0 false a0_2 l0_3))) else (spec_l6ok.j0 k (wrap64 (a2 - 1)) a3 true l0_0 false a0_2 l0_3)) = some r := by rw [if_neg (show ¬ (false = true) by decide)] at H; exact H
       clear H
       have H := H1
       clear H1
       by_cases c33 : a0_2 = 0
       ·rw [if_pos c33] at H
        have c33b0 : (a0_2 == 0) = true := beq_iff_eq.mpr c33
        have c33b1 : (a0_2 != 0) = false := bne_eq_false_iff_eq.mpr c33
        clear c33
        by_cases c34 : a0_2 < 0
        ·rw [if_pos c34] at H
         have c34b0 : decide (a0_2 < 0) = true := decide_eq_true c34
         clear c34
         have H' := Aside0.mk H
         clear H
         obtain ⟨hcz35_0, hcz35_1, hcz35_2, hcz35_3, -⟩ := cells_4 BK194.out trivial
         obtain ⟨hfz35_0, hfz35_1, hfz35_2, hfz35_3, -⟩ := frz_4 BK194.out
         go_wp2
         repeat (go_quiet (fail); try go_wp2)
         go_meet
         case rel => exact ⟨_, (true), (by first | rfl | (simp; done) | (simp [*]; done)), H', ⟨by first | omega | exact Nat.le_refl _⟩, ⟨by (with_reducible repeat (first | refine blk_drewN ?_ _ | refine blk_drew ?_ | refine blk_alloc ?_ _)); exact BK194.out⟩, ⟨by repeat (first | (with_reducible first | exact HB.out | apply below_alloc | apply pw_below_drewN | apply below_drew1 | refine below_set ?_ GE194.out) | exact HB.out)⟩⟩
        ·rw [if_neg c34] at H
         have c34b0 : decide (a0_2 < 0) = false := decide_eq_false c34
         clear c34
         by_cases c36 : a0_2 > 2147483647
         ·rw [if_pos c36] at H
          have c36b0 : decide (2147483647 < a0_2) = true := decide_eq_true c36
          clear c36
          have H' := Aside0.mk H
          clear H
          obtain ⟨hcz37_0, hcz37_1, hcz37_2, hcz37_3, -⟩ := cells_4 BK194.out trivial
          obtain ⟨hfz37_0, hfz37_1, hfz37_2, hfz37_3, -⟩ := frz_4 BK194.out
          go_wp2
          repeat (go_quiet (fail); try go_wp2)
          go_meet
          case rel => exact ⟨_, (true), (by first | rfl | (simp; done) | (simp [*]; done)), H', ⟨by first | omega | exact Nat.le_refl _⟩, ⟨by (with_reducible repeat (first | refine blk_drewN ?_ _ | refine blk_drew ?_ | refine blk_alloc ?_ _)); exact BK194.out⟩, ⟨by repeat (first | (with_reducible first | exact HB.out | apply below_alloc | apply pw_below_drewN | apply below_drew1 | refine below_set ?_ GE194.out) | exact HB.out)⟩⟩
         ·rw [if_neg c36] at H
          have c36b0 : decide (2147483647 < a0_2) = false := decide_eq_false c36
          clear c36
          have H' := Aside0.mk H
          clear H
          obtain ⟨hcz38_0, hcz38_1, hcz38_2, hcz38_3, -⟩ := cells_4 BK194.out trivial
          obtain ⟨hfz38_0, hfz38_1, hfz38_2, hfz38_3, -⟩ := frz_4 BK194.out
          go_wp2
          repeat (go_quiet (fail); try go_wp2)
          go_meet
          case rel => exact ⟨_, (decide ((l0_3.length : Int) < 2)), (by first | rfl | (simp; done) | (simp [*]; done)), H', ⟨by first | omega | exact Nat.le_refl _⟩, ⟨by (with_reducible repeat (first | refine blk_drewN ?_ _ | refine blk_drew ?_ | refine blk_alloc ?_ _)); exact BK194.out⟩, ⟨by repeat (first | (with_reducible first | exact HB.out | apply below_alloc | apply pw_below_drewN | apply below_drew1 | refine below_set ?_ GE194.out) | exact HB.out)⟩⟩
       ·rw [if_neg c33] at H
        have c33b0 : (a0_2 == 0) = false := beq_eq_false_iff_ne.mpr c33
        have c33b1 : (a0_2 != 0) = true := bne_iff_ne.mpr c33
        have H' := Aside0.mk H
        clear H
        obtain ⟨hcz39_0, hcz39_1, hcz39_2, hcz39_3, -⟩ := cells_4 BK194.out trivial
        obtain ⟨hfz39_0, hfz39_1, hfz39_2, hfz39_3, -⟩ := frz_4 BK194.out
        go_wp2
        repeat (go_quiet (fail); try go_wp2)
        go_meet
        case rel => exact ⟨_, (true), (by first | rfl | (simp; done) | (simp [*]; done)), H', ⟨by first | omega | exact Nat.le_refl _⟩, ⟨by (with_reducible repeat (first | refine blk_drewN ?_ _ | refine blk_drew ?_ | refine blk_alloc ?_ _)); exact BK194.out⟩, ⟨by repeat (first | (with_reducible first | exact HB.out | apply below_alloc | apply pw_below_drewN | apply below_drew1 | refine below_set ?_ GE194.out) | exact HB.out)⟩⟩
 case rest =>
  clear HC5
  try clear c1; try clear c2; try clear p2; try clear c3; try clear c5; try clear p6; try clear c7; try clear c7b0; try clear c8; try clear c8b0; try clear c9; try clear c10; try clear c10b0; try clear c10b1; try clear c12; try clear c13; try clear c13b0; try clear c15; try clear c15b0; try clear c18; try clear c18b0; try clear c18b1; try clear c19; try clear c19b0; try clear c21; try clear c21b0; try clear c25; try clear c25b0; try clear c25b1; try clear c25b2; try clear c27; try clear c28; try clear c28b0; try clear c30; try clear c30b0; try clear c33; try clear c33b0; try clear c33b1; try clear c34; try clear c34b0; try clear c36; try clear c36b0; try clear hcz11_0; try clear hcz11_1; try clear hcz11_2; try clear hcz11_3; try clear hcz14_0; try clear hcz14_1; try clear hcz14_2; try clear hcz14_3; try clear hcz16_0; try clear hcz16_1; try clear hcz16_2; try clear hcz16_3; try clear hcz17_0; try clear hcz17_1; try clear hcz17_2; try clear hcz17_3; try clear hcz20_0; try clear hcz20_1; try clear hcz20_2; try clear hcz20_3; try clear hcz22_0; try clear hcz22_1; try clear hcz22_2; try clear hcz22_3; try clear hcz23_0; try clear hcz23_1; try clear hcz23_2; try clear hcz23_3; try clear hcz24_0; try clear hcz24_1; try clear hcz24_2; try clear hcz24_3; try clear hcz26_0; try clear hcz26_1; try clear hcz26_2; try clear hcz26_3; try clear hcz29_0; try clear hcz29_1; try clear hcz29_2; try clear hcz29_3; try clear hcz31_0; try clear hcz31_1; try clear hcz31_2; try clear hcz31_3; try clear hcz32_0; try clear hcz32_1; try clear hcz32_2; try clear hcz32_3; try clear hcz35_0; try clear hcz35_1; try clear hcz35_2; try clear hcz35_3; try clear hcz37_0; try clear hcz37_1; try clear hcz37_2; try clear hcz37_3; try clear hcz38_0; try clear hcz38_1; try clear hcz38_2; try clear hcz38_3; try clear hcz39_0; try clear hcz39_1; try clear hcz39_2; try clear hcz39_3; try clear hfz11_0; try clear hfz11_1; try clear hfz11_2; try clear hfz11_3; try clear hfz14_0; try clear hfz14_1; try clear hfz14_2; try clear hfz14_3; try clear hfz16_0; try clear hfz16_1; try clear hfz16_2; try clear hfz16_3; try clear hfz17_0; try clear hfz17_1; try clear hfz17_2; try clear hfz17_3; try clear hfz20_0; try clear hfz20_1; try clear hfz20_2; try clear hfz20_3; try clear hfz22_0; try clear hfz22_1; try clear hfz22_2; try clear hfz22_3; try clear hfz23_0; try clear hfz23_1; try clear hfz23_2; try clear hfz23_3; try clear hfz24_0; try clear hfz24_1; try clear hfz24_2; try clear hfz24_3; try clear hfz26_0; try clear hfz26_1; try clear hfz26_2; try clear hfz26_3; try clear hfz29_0; try clear hfz29_1; try clear hfz29_2; try clear hfz29_3; try clear hfz31_0; try clear hfz31_1; try clear hfz31_2; try clear hfz31_3; try clear hfz32_0; try clear hfz32_1; try clear hfz32_2; try clear hfz32_3; try clear hfz35_0; try clear hfz35_1; try clear hfz35_2; try clear hfz35_3; try clear hfz37_0; try clear hfz37_1; try clear hfz37_2; try clear hfz37_3; try clear hfz38_0; try clear hfz38_1; try clear hfz38_2; try clear hfz38_3; try clear hfz39_0; try clear hfz39_1; try clear hfz39_2; try clear hfz39_3
  obtain ⟨kq, x72_4, rfl, HA, HJ4, BK194, HB⟩ := hcut
  cases kq with
  | zero => exact absurd HA.out (by simp [spec_l6ok.j0])
  | succ kj4 =>
   have H := HA.out
   clear HA
   simp only [spec_l6ok.j0] at H
   by_cases c40 : x72_4 = true
   ·subst c40
    have H1 : (some (-1)) = some r := by rw [if_pos rfl] at H; exact H
    clear H
    have H := H1
    clear H1
    obtain rfl := Option.some.inj H
    go_wp2
    repeat (go_quiet (fail); try go_wp2)
    go_ret
    exact ⟨by first | rfl | (simp [errW_none, errW_some] <;> rfl) | (simp [*, errW_none, errW_some] <;> rfl), by repeat (first | (with_reducible first | exact HB.out | apply below_alloc | apply pw_below_drewN | apply below_drew1 | refine below_set ?_ GE194.out) | exact HB.out)⟩
   ·replace c40 := Bool.eq_false_iff.mpr c40
    subst c40
    have H1 : (spec_l6ok.l0 kj4 (wrap64 (a2 - 1)) a3 0 l0_0 a0_1 a0_2 l0_3) = some r := by rw [if_neg (show ¬ (false = true) by decide)] at H; exact H
    clear H
    have H := H1
    clear H1
    have H' := Aside0.mk H
    clear H
    go_wp2
    repeat (go_quiet (fail); try go_wp2)
    go_loopg [2, 9] kj4 (fun kq v2 v9 w' => ∃ (x2_2 : Int) (x9_2 : Int), v2 = .int .i64 x2_2 ∧ v9 = .int .i64 x9_2 ∧ Aside0 (spec_l6ok.l0 kq x2_2 a3 x9_2 l0_0 a0_1 a0_2 l0_3 = some r) ∧ Aside0 (kq ≤ kj4) ∧ Aside0 (w'.heap[gb194]? = some (.cells #[(.slice A0_0 l0_0.length c0_0), .bool a0_1, .int .i64 a0_2, (.slice A0_3 l0_3.length c0_3)] 30 (0, 0))) ∧ Aside0 (Below w.heap.size w w'))
    case atStart => exact ⟨((wrap64 (a2 - 1))), (0), (by first | rfl | (simp; done) | (simp [*]; done)), (by first | rfl | (simp; done) | (simp [*]; done)), H', ⟨Nat.le_refl _⟩, ⟨by (with_reducible repeat (first | refine blk_drewN ?_ _ | refine blk_drew ?_ | refine blk_alloc ?_ _)); exact BK194.out⟩, ⟨by repeat (first | (with_reducible first | exact HB.out | apply below_alloc | apply pw_below_drewN | apply below_drew1 | refine below_set ?_ GE194.out) | exact HB.out)⟩⟩
    case round =>
     clear H'
     try clear c1; try clear c2; try clear p2; try clear c3; try clear c4; try clear c5; try clear p6; try clear c7; try clear c7b0; try clear c8; try clear c8b0; try clear c9; try clear c10; try clear c10b0; try clear c10b1; try clear c12; try clear c13; try clear c13b0; try clear c15; try clear c15b0; try clear c18; try clear c18b0; try clear c18b1; try clear c19; try clear c19b0; try clear c21; try clear c21b0; try clear c25; try clear c25b0; try clear c25b1; try clear c25b2; try clear c27; try clear c28; try clear c28b0; try clear c30; try clear c30b0; try clear c33; try clear c33b0; try clear c33b1; try clear c34; try clear c34b0; try clear c36; try clear c36b0; try clear c40; try clear hcz11_0; try clear hcz11_1; try clear hcz11_2; try clear hcz11_3; try clear hcz14_0; try clear hcz14_1; try clear hcz14_2; try clear hcz14_3; try clear hcz16_0; try clear hcz16_1; try clear hcz16_2; try clear hcz16_3; try clear hcz17_0; try clear hcz17_1; try clear hcz17_2; try clear hcz17_3; try clear hcz20_0; try clear hcz20_1; try clear hcz20_2; try clear hcz20_3; try clear hcz22_0; try clear hcz22_1; try clear hcz22_2; try clear hcz22_3; try clear hcz23_0; try clear hcz23_1; try clear hcz23_2; try clear hcz23_3; try clear hcz24_0; try clear hcz24_1; try clear hcz24_2; try clear hcz24_3; try clear hcz26_0; try clear hcz26_1; try clear hcz26_2; try clear hcz26_3; try clear hcz29_0; try clear hcz29_1; try clear hcz29_2; try clear hcz29_3; try clear hcz31_0; try clear hcz31_1; try clear hcz31_2; try clear hcz31_3; try clear hcz32_0; try clear hcz32_1; try clear hcz32_2; try clear hcz32_3; try clear hcz35_0; try clear hcz35_1; try clear hcz35_2; try clear hcz35_3; try clear hcz37_0; try clear hcz37_1; try clear hcz37_2; try clear hcz37_3; try clear hcz38_0; try clear hcz38_1; try clear hcz38_2; try clear hcz38_3; try clear hcz39_0; try clear hcz39_1; try clear hcz39_2; try clear hcz39_3; try clear hfz11_0; try clear hfz11_1; try clear hfz11_2; try clear hfz11_3; try clear hfz14_0; try clear hfz14_1; try clear hfz14_2; try clear hfz14_3; try clear hfz16_0; try clear hfz16_1; try clear hfz16_2; try clear hfz16_3; try clear hfz17_0; try clear hfz17_1; try clear hfz17_2; try clear hfz17_3; try clear hfz20_0; try clear hfz20_1; try clear hfz20_2; try clear hfz20_3; try clear hfz22_0; try clear hfz22_1; try clear hfz22_2; try clear hfz22_3; try clear hfz23_0; try clear hfz23_1; try clear hfz23_2; try clear hfz23_3; try clear hfz24_0; try clear hfz24_1; try clear hfz24_2; try clear hfz24_3; try clear hfz26_0; try clear hfz26_1; try clear hfz26_2; try clear hfz26_3; try clear hfz29_0; try clear hfz29_1; try clear hfz29_2; try clear hfz29_3; try clear hfz31_0; try clear hfz31_1; try clear hfz31_2; try clear hfz31_3; try clear hfz32_0; try clear hfz32_1; try clear hfz32_2; try clear hfz32_3; try clear hfz35_0; try clear hfz35_1; try clear hfz35_2; try clear hfz35_3; try clear hfz37_0; try clear hfz37_1; try clear hfz37_2; try clear hfz37_3; try clear hfz38_0; try clear hfz38_1; try clear hfz38_2; try clear hfz38_3; try clear hfz39_0; try clear hfz39_1; try clear hfz39_2; try clear hfz39_3; try clear p2; try clear p6
     obtain ⟨x2_2, x9_2, rfl, rfl, HA, HK2, BK194, HB⟩ := hrel
     cases gk with
     | zero => exact absurd HA.out (by simp [spec_l6ok.l0])
     | succ k2 =>
      have H := HA.out
      clear HA
      simp only [spec_l6ok.l0] at H
      by_cases c41 : x9_2 < (l0_3.length : Int)
      ·rw [if_pos c41] at H
       have c41b0 : decide (x9_2 < (l0_3.length : Int)) = true := decide_eq_true c41
       clear c41
       by_cases c42 : 0 ≤ x9_2
       ·rw [if_pos c42] at H
        have c42b0 : decide (0 ≤ x9_2) = true := decide_eq_true c42
        clear c42
        have HC43 := Aside0.mk H
        clear H
        obtain ⟨hcz44_0, hcz44_1, hcz44_2, hcz44_3, -⟩ := cells_4 BK194.out trivial
        obtain ⟨hfz44_0, hfz44_1, hfz44_2, hfz44_3, -⟩ := frz_4 BK194.out
        have p195 : 0 ≤ (x9_2 : Int) := od
        have q195 : x9_2 < (l0_3.length : Int) := od
        obtain ⟨ad195, A195_0, c195_0, A195_3, c195_3, e195, hx195_0, hx195_1, hx195_2, hx195_3, hl195_0, hi195_0, hl195_3, hi195_3⟩ := at_T30 HR0_3.out x9_2 p195 q195
        cases e195
        replace hx195_0 := hxb HB hx195_0
        replace hx195_1 := hxb HB hx195_1
        replace hx195_2 := hxb HB hx195_2
        replace hx195_3 := hxb HB hx195_3
        have HR195_0 := Aside0.mk hi195_0
        have HC195_0 := Aside0.mk hl195_0
        clear hi195_0 hl195_0
        have HR195_3 := Aside0.mk hi195_3
        have HC195_3 := Aside0.mk hl195_3
        clear hi195_3 hl195_3
        replace p195 := eq_true p195
        replace q195 := eq_true q195
        go_upto_region 8 with (first | ((with_reducible refine gate_dst (N := 10) rfl ?_); (try (refine gate_guard (by rfl) ?_; dsimp only)); refine bx_ 10 #[.slice none 0 0, .bool false, .int .i64 0, .slice none 0 0] 30 (h := ?_); intro gb196 hg w45 hbox hb; have BK196 := Aside0.mk (hbox); have GW196 := Aside0.mk ((by rw [hg]; exact (below_size bel) : w.heap.size ≤ gb196)); have GE196 := Aside0.mk ((by rw [hg]; exact (below_size bel) : w.heap.size ≤ gb196)); have NB194_196 := Aside0.mk ((by rw [hg]; exact Nat.ne_of_lt (blt BK194) : gb194 ≠ gb196)); have NB196_194 := Aside0.mk ((by rw [hg]; exact Nat.ne_of_gt (blt BK194) : gb196 ≠ gb194)); replace BK194 := Aside0.mk (blb BK194 hb); replace HB := Aside0.mk (below_step bel hb); clear hb hbox hg; have hnb46 := NB196_194.out; have hnc46 := NB194_196.out; obtain ⟨hcz47_0, hcz47_1, hcz47_2, hcz47_3, -⟩ := cells_4 BK196.out trivial; obtain ⟨hfz47_0, hfz47_1, hfz47_2, hfz47_3, -⟩ := frz_4 BK196.out))
        repeat (go_quiet (first | ((with_reducible refine gate_dst (N := 10) rfl ?_); (try (refine gate_guard (by rfl) ?_; dsimp only)); refine bx_ 10 #[.slice none 0 0, .bool false, .int .i64 0, .slice none 0 0] 30 (h := ?_); intro gb196 hg w45 hbox hb; have BK196 := Aside0.mk (hbox); have GW196 := Aside0.mk ((by rw [hg]; exact (below_size bel) : w.heap.size ≤ gb196)); have GE196 := Aside0.mk ((by rw [hg]; exact (below_size bel) : w.heap.size ≤ gb196)); have NB194_196 := Aside0.mk ((by rw [hg]; exact Nat.ne_of_lt (blt BK194) : gb194 ≠ gb196)); have NB196_194 := Aside0.mk ((by rw [hg]; exact Nat.ne_of_gt (blt BK194) : gb196 ≠ gb194)); replace BK194 := Aside0.mk (blb BK194 hb); replace HB := Aside0.mk (below_step bel hb); clear hb hbox hg; have hnb46 := NB196_194.out; have hnc46 := NB194_196.out; obtain ⟨hcz47_0, hcz47_1, hcz47_2, hcz47_3, -⟩ := cells_4 BK196.out trivial; obtain ⟨hfz47_0, hfz47_1, hfz47_2, hfz47_3, -⟩ := frz_4 BK196.out)); go_upto_region 8 with (first | ((with_reducible refine gate_dst (N := 10) rfl ?_); (try (refine gate_guard (by rfl) ?_; dsimp only)); refine bx_ 10 #[.slice none 0 0, .bool false, .int .i64 0, .slice none 0 0] 30 (h := ?_); intro gb196 hg w45 hbox hb; have BK196 := Aside0.mk (hbox); have GW196 := Aside0.mk ((by rw [hg]; exact (below_size bel) : w.heap.size ≤ gb196)); have GE196 := Aside0.mk ((by rw [hg]; exact (below_size bel) : w.heap.size ≤ gb196)); have NB194_196 := Aside0.mk ((by rw [hg]; exact Nat.ne_of_lt (blt BK194) : gb194 ≠ gb196)); have NB196_194 := Aside0.mk ((by rw [hg]; exact Nat.ne_of_gt (blt BK194) : gb196 ≠ gb194)); replace BK194 := Aside0.mk (blb BK194 hb); replace HB := Aside0.mk (below_step bel hb); clear hb hbox hg; have hnb46 := NB196_194.out; have hnc46 := NB194_196.out; obtain ⟨hcz47_0, hcz47_1, hcz47_2, hcz47_3, -⟩ := cells_4 BK196.out trivial; obtain ⟨hfz47_0, hfz47_1, hfz47_2, hfz47_3, -⟩ := frz_4 BK196.out)))
        (try simp only [Act.put, List.setIfInBounds_toArray, List.set_cons_zero, List.set_cons_succ])
        go_cut [108] (fun v108 wc => ∃ (kq : Nat) (x108_42 : Bool), v108 = .bool x108_42 ∧ Aside0 (spec_l6ok.j2 kq x2_2 a3 x9_2 x108_42 l0_0 a0_1 a0_2 l0_3 ((rd_T30 l0_3 x9_2).f0) ((rd_T30 l0_3 x9_2).f1) ((rd_T30 l0_3 x9_2).f2) ((rd_T30 l0_3 x9_2).f3) = some r) ∧ Aside0 (kq ≤ k2) ∧ Aside0 (wc.heap[gb194]? = some (.cells #[(.slice A0_0 l0_0.length c0_0), .bool a0_1, .int .i64 a0_2, (.slice (some ad195) l0_3.length c0_3)] 30 (0, 0))) ∧ Aside0 (wc.heap[gb196]? = some (.cells #[(.slice A195_0 ((rd_T30 l0_3 x9_2).f0).length c195_0), .bool ((rd_T30 l0_3 x9_2).f1), .int .i64 ((rd_T30 l0_3 x9_2).f2), (.slice A195_3 ((rd_T30 l0_3 x9_2).f3).length c195_3)] 30 (0, 0))) ∧ Aside0 (Below w.heap.size w wc))
        case first =>
         have H := HC43.out
         clear HC43
         by_cases c48 : (((rd_T30 l0_3 x9_2).f0).length : Int) = 0
         ·rw [if_pos c48] at H
          have c48b0 : ((((rd_T30 l0_3 x9_2).f0).length : Int) == 0) = true := beq_iff_eq.mpr c48
          have c48b1 : ((((rd_T30 l0_3 x9_2).f0).length : Int) != 0) = false := bne_eq_false_iff_eq.mpr c48
          clear c48
          (first | rw [c48b0] | (simp only [i64_w, i32_w]; rw [c48b0]) | skip)
          have H' := Aside0.mk H
          clear H
          have hnb49 := NB196_194.out
          have hnc49 := NB194_196.out
          obtain ⟨hcz50_0, hcz50_1, hcz50_2, hcz50_3, -⟩ := cells_4 BK196.out trivial
          obtain ⟨hfz50_0, hfz50_1, hfz50_2, hfz50_3, -⟩ := frz_4 BK196.out
          go_wp2
          repeat (go_quiet (fail); try go_wp2)
          go_meet
          case rel => exact ⟨_, (true), (by first | rfl | (simp; done) | (simp [*]; done)), H', ⟨by have := HJ4.out; have := HK2.out; first | omega | exact Nat.le_refl _⟩, ⟨by (with_reducible repeat (first | refine blk_drewN ?_ _ | refine blk_drew ?_ | refine blk_alloc ?_ _)); refine blk_far ?_ NB194_196.out _; (with_reducible repeat (first | refine blk_drewN ?_ _ | refine blk_drew ?_ | refine blk_alloc ?_ _)); refine blk_far ?_ NB194_196.out _; (with_reducible repeat (first | refine blk_drewN ?_ _ | refine blk_drew ?_ | refine blk_alloc ?_ _)); refine blk_far ?_ NB194_196.out _; (with_reducible repeat (first | refine blk_drewN ?_ _ | refine blk_drew ?_ | refine blk_alloc ?_ _)); refine blk_far ?_ NB194_196.out _; (with_reducible repeat (first | refine blk_drewN ?_ _ | refine blk_drew ?_ | refine blk_alloc ?_ _)); exact BK194.out⟩, ⟨by (with_reducible repeat (first | refine blk_drewN ?_ _ | refine blk_drew ?_ | refine blk_alloc ?_ _)); refine blk_put (cs := #[.slice A195_0 ((rd_T30 l0_3 x9_2).f0).length c195_0, .bool ((rd_T30 l0_3 x9_2).f1), .int .i64 ((rd_T30 l0_3 x9_2).f2), .slice none 0 0]) ?_ 3 _ rfl; (with_reducible repeat (first | refine blk_drewN ?_ _ | refine blk_drew ?_ | refine blk_alloc ?_ _)); refine blk_put (cs := #[.slice A195_0 ((rd_T30 l0_3 x9_2).f0).length c195_0, .bool ((rd_T30 l0_3 x9_2).f1), .int .i64 0, .slice none 0 0]) ?_ 2 _ rfl; (with_reducible repeat (first | refine blk_drewN ?_ _ | refine blk_drew ?_ | refine blk_alloc ?_ _)); refine blk_put (cs := #[.slice A195_0 ((rd_T30 l0_3 x9_2).f0).length c195_0, .bool false, .int .i64 0, .slice none 0 0]) ?_ 1 _ rfl; (with_reducible repeat (first | refine blk_drewN ?_ _ | refine blk_drew ?_ | refine blk_alloc ?_ _)); refine blk_put (cs := #[.slice none 0 0, .bool false, .int .i64 0, .slice none 0 0]) ?_ 0 _ rfl; (with_reducible repeat (first | refine blk_drewN ?_ _ | refine blk_drew ?_ | refine blk_alloc ?_ _)); exact BK196.out⟩, ⟨by repeat (first | (with_reducible first | exact HB.out | apply below_alloc | apply pw_below_drewN | apply below_drew1 | refine below_set ?_ GE194.out | refine below_set ?_ GE196.out) | exact HB.out)⟩⟩
         ·rw [if_neg c48] at H
          have c48b0 : ((((rd_T30 l0_3 x9_2).f0).length : Int) == 0) = false := beq_eq_false_iff_ne.mpr c48
          have c48b1 : ((((rd_T30 l0_3 x9_2).f0).length : Int) != 0) = true := bne_iff_ne.mpr c48
          have c48b2 : ¬ (((rd_T30 l0_3 x9_2).f0) = []) := fun h_ => c48 (by rw [h_]; rfl)
          (first | rw [c48b0] | (simp only [i64_w, i32_w]; rw [c48b0]) | skip)
          by_cases c51 : x9_2 > 0
          ·rw [if_pos c51] at H
           have c51b0 : decide (0 < x9_2) = true := decide_eq_true c51
           clear c51
           obtain ⟨ji52, hji52⟩ : ∃ j_ : Int, (wrap64 (x9_2 - 1)) = j_ := ⟨_, rfl⟩
           replace H : (if 0 ≤ (ji52) then (if (ji52) < (l0_3.length : Int) then (if 0 < (((rd_T30 l0_3 (ji52)).f0).length : Int) then (if 0 < (((rd_T30 l0_3 x9_2).f0).length : Int) then (spec_l6ok.j2 k2 x2_2 a3 x9_2 (decide ((rd ((rd_T30 l0_3 (ji52)).f0) 0) ≥ (rd ((rd_T30 l0_3 x9_2).f0) 0))) l0_0 a0_1 a0_2 l0_3 ((rd_T30 l0_3 x9_2).f0) ((rd_T30 l0_3 x9_2).f1) ((rd_T30 l0_3 x9_2).f2) ((rd_T30 l0_3 x9_2).f3)) else (none)) else (none)) else (none)) else (none)) = some r := by first | (rw [hji52] at H; exact H) | (simp only [hji52] at H ⊢; exact H)
           have hji52w : (IntKind.i64.wrap (x9_2 - 1)) = ji52 := (i64_w _).trans hji52
           by_cases c53 : 0 ≤ (ji52)
           ·rw [if_pos c53] at H
            have c53b0 : decide (0 ≤ (ji52)) = true := decide_eq_true c53
            clear c53
            by_cases c54 : (ji52) < (l0_3.length : Int)
            ·rw [if_pos c54] at H
             have c54b0 : decide ((ji52) < (l0_3.length : Int)) = true := decide_eq_true c54
             clear c54
             by_cases c55 : 0 < (((rd_T30 l0_3 (ji52)).f0).length : Int)
             ·rw [if_pos c55] at H
              have c55b0 : decide (0 < (((rd_T30 l0_3 (ji52)).f0).length : Int)) = true := decide_eq_true c55
              have c55b1 : decide (0 < ((rd_T30 l0_3 (ji52)).f0).length) = true := decide_eq_true (by omega)
              clear c55
              by_cases c56 : 0 < (((rd_T30 l0_3 x9_2).f0).length : Int)
              ·rw [if_pos c56] at H
               have c56b0 : decide (0 < (((rd_T30 l0_3 x9_2).f0).length : Int)) = true := decide_eq_true c56
               have c56b1 : decide (0 < ((rd_T30 l0_3 x9_2).f0).length) = true := decide_eq_true (by omega)
               clear c56
               have H' := Aside0.mk H
               clear H
               have hnb57 := NB196_194.out
               have hnc57 := NB194_196.out
               obtain ⟨hcz58_0, hcz58_1, hcz58_2, hcz58_3, -⟩ := cells_4 BK196.out trivial
               obtain ⟨hfz58_0, hfz58_1, hfz58_2, hfz58_3, -⟩ := frz_4 BK196.out
               obtain ⟨hcz59_0, hcz59_1, hcz59_2, hcz59_3, -⟩ := cells_4 BK194.out trivial
               obtain ⟨hfz59_0, hfz59_1, hfz59_2, hfz59_3, -⟩ := frz_4 BK194.out
               have p197 : 0 ≤ ((ji52) : Int) := od
               have q197 : (ji52) < (l0_3.length : Int) := od
               obtain ⟨ad197, A197_0, c197_0, A197_3, c197_3, e197, hx197_0, hx197_1, hx197_2, hx197_3, hl197_0, hi197_0, hl197_3, hi197_3⟩ := at_T30 HR0_3.out (ji52) p197 q197
               obtain rfl : ad195 = ad197 := (by injection e197)
               have hn197_0 : ad195.block ≠ gb196 := Nat.ne_of_lt (Nat.lt_of_lt_of_le (by have := World.block_lt_of_cell? _ _ hx197_0; first | rwa [add_block] at this | exact this) GW196.out)
               have hn197_1 : ad195.block ≠ gb196 := Nat.ne_of_lt (Nat.lt_of_lt_of_le (by have := World.block_lt_of_cell? _ _ hx197_0; first | rwa [add_block] at this | exact this) GW196.out)
               have hn197_2 : ad195.block ≠ gb196 := Nat.ne_of_lt (Nat.lt_of_lt_of_le (by have := World.block_lt_of_cell? _ _ hx197_0; first | rwa [add_block] at this | exact this) GW196.out)
               have hn197_3 : ad195.block ≠ gb196 := Nat.ne_of_lt (Nat.lt_of_lt_of_le (by have := World.block_lt_of_cell? _ _ hx197_0; first | rwa [add_block] at this | exact this) GW196.out)
               replace hx197_0 := hxb HB hx197_0
               replace hx197_1 := hxb HB hx197_1
               replace hx197_2 := hxb HB hx197_2
               replace hx197_3 := hxb HB hx197_3
               have HR197_0 := Aside0.mk hi197_0
               have HC197_0 := Aside0.mk hl197_0
               clear hi197_0 hl197_0
               have HR197_3 := Aside0.mk hi197_3
               have HC197_3 := Aside0.mk hl197_3
               clear hi197_3 hl197_3
               replace hx197_0 := (cell_far (p := ⟨gb196, 0, none⟩) (by first | (rw [add_block]; exact hn197_0) | (show (Addr.add _ _).block ≠ _; rw [add_block]; exact hn197_0) | exact hn197_0) (.slice A195_0 ((rd_T30 l0_3 x9_2).f0).length c195_0)).trans hx197_0
               replace hx197_1 := (cell_far (p := ⟨gb196, 0, none⟩) (by first | (rw [add_block]; exact hn197_0) | (show (Addr.add _ _).block ≠ _; rw [add_block]; exact hn197_0) | exact hn197_0) (.slice A195_0 ((rd_T30 l0_3 x9_2).f0).length c195_0)).trans hx197_1
               replace hx197_2 := (cell_far (p := ⟨gb196, 0, none⟩) (by first | (rw [add_block]; exact hn197_0) | (show (Addr.add _ _).block ≠ _; rw [add_block]; exact hn197_0) | exact hn197_0) (.slice A195_0 ((rd_T30 l0_3 x9_2).f0).length c195_0)).trans hx197_2
               replace hx197_3 := (cell_far (p := ⟨gb196, 0, none⟩) (by first | (rw [add_block]; exact hn197_0) | (show (Addr.add _ _).block ≠ _; rw [add_block]; exact hn197_0) | exact hn197_0) (.slice A195_0 ((rd_T30 l0_3 x9_2).f0).length c195_0)).trans hx197_3
               replace hx197_0 := (cell_far (p := ⟨gb196, 1, none⟩) (by first | (rw [add_block]; exact hn197_1) | (show (Addr.add _ _).block ≠ _; rw [add_block]; exact hn197_1) | exact hn197_1) (.bool ((rd_T30 l0_3 x9_2).f1))).trans hx197_0
               replace hx197_1 := (cell_far (p := ⟨gb196, 1, none⟩) (by first | (rw [add_block]; exact hn197_1) | (show (Addr.add _ _).block ≠ _; rw [add_block]; exact hn197_1) | exact hn197_1) (.bool ((rd_T30 l0_3 x9_2).f1))).trans hx197_1
               replace hx197_2 := (cell_far (p := ⟨gb196, 1, none⟩) (by first | (rw [add_block]; exact hn197_1) | (show (Addr.add _ _).block ≠ _; rw [add_block]; exact hn197_1) | exact hn197_1) (.bool ((rd_T30 l0_3 x9_2).f1))).trans hx197_2
               replace hx197_3 := (cell_far (p := ⟨gb196, 1, none⟩) (by first | (rw [add_block]; exact hn197_1) | (show (Addr.add _ _).block ≠ _; rw [add_block]; exact hn197_1) | exact hn197_1) (.bool ((rd_T30 l0_3 x9_2).f1))).trans hx197_3
               replace hx197_0 := (cell_far (p := ⟨gb196, 2, none⟩) (by first | (rw [add_block]; exact hn197_2) | (show (Addr.add _ _).block ≠ _; rw [add_block]; exact hn197_2) | exact hn197_2) (.int .i64 ((rd_T30 l0_3 x9_2).f2))).trans hx197_0
               replace hx197_1 := (cell_far (p := ⟨gb196, 2, none⟩) (by first | (rw [add_block]; exact hn197_2) | (show (Addr.add _ _).block ≠ _; rw [add_block]; exact hn197_2) | exact hn197_2) (.int .i64 ((rd_T30 l0_3 x9_2).f2))).trans hx197_1
               replace hx197_2 := (cell_far (p := ⟨gb196, 2, none⟩) (by first | (rw [add_block]; exact hn197_2) | (show (Addr.add _ _).block ≠ _; rw [add_block]; exact hn197_2) | exact hn197_2) (.int .i64 ((rd_T30 l0_3 x9_2).f2))).trans hx197_2
               replace hx197_3 := (cell_far (p := ⟨gb196, 2, none⟩) (by first | (rw [add_block]; exact hn197_2) | (show (Addr.add _ _).block ≠ _; rw [add_block]; exact hn197_2) | exact hn197_2) (.int .i64 ((rd_T30 l0_3 x9_2).f2))).trans hx197_3
               replace hx197_0 := (cell_far (p := ⟨gb196, 3, none⟩) (by first | (rw [add_block]; exact hn197_3) | (show (Addr.add _ _).block ≠ _; rw [add_block]; exact hn197_3) | exact hn197_3) (.slice A195_3 ((rd_T30 l0_3 x9_2).f3).length c195_3)).trans hx197_0
               replace hx197_1 := (cell_far (p := ⟨gb196, 3, none⟩) (by first | (rw [add_block]; exact hn197_3) | (show (Addr.add _ _).block ≠ _; rw [add_block]; exact hn197_3) | exact hn197_3) (.slice A195_3 ((rd_T30 l0_3 x9_2).f3).length c195_3)).trans hx197_1
               replace hx197_2 := (cell_far (p := ⟨gb196, 3, none⟩) (by first | (rw [add_block]; exact hn197_3) | (show (Addr.add _ _).block ≠ _; rw [add_block]; exact hn197_3) | exact hn197_3) (.slice A195_3 ((rd_T30 l0_3 x9_2).f3).length c195_3)).trans hx197_2
               replace hx197_3 := (cell_far (p := ⟨gb196, 3, none⟩) (by first | (rw [add_block]; exact hn197_3) | (show (Addr.add _ _).block ≠ _; rw [add_block]; exact hn197_3) | exact hn197_3) (.slice A195_3 ((rd_T30 l0_3 x9_2).f3).length c195_3)).trans hx197_3
               (try have hy197_0 := fun (n_ : Nat) => (show ((((((w45.drewN n_).setCell ⟨gb196, 0, none⟩ (.slice A195_0 ((rd_T30 l0_3 x9_2).f0).length c195_0)).setCell ⟨gb196, 1, none⟩ (.bool ((rd_T30 l0_3 x9_2).f1))).setCell ⟨gb196, 2, none⟩ (.int .i64 ((rd_T30 l0_3 x9_2).f2))).setCell ⟨gb196, 3, none⟩ (.slice A195_3 ((rd_T30 l0_3 x9_2).f3).length c195_3))).cell? _ = some _ from hx197_0))
               (try have hy197_1 := fun (n_ : Nat) => (show ((((((w45.drewN n_).setCell ⟨gb196, 0, none⟩ (.slice A195_0 ((rd_T30 l0_3 x9_2).f0).length c195_0)).setCell ⟨gb196, 1, none⟩ (.bool ((rd_T30 l0_3 x9_2).f1))).setCell ⟨gb196, 2, none⟩ (.int .i64 ((rd_T30 l0_3 x9_2).f2))).setCell ⟨gb196, 3, none⟩ (.slice A195_3 ((rd_T30 l0_3 x9_2).f3).length c195_3))).cell? _ = some _ from hx197_1))
               (try have hy197_2 := fun (n_ : Nat) => (show ((((((w45.drewN n_).setCell ⟨gb196, 0, none⟩ (.slice A195_0 ((rd_T30 l0_3 x9_2).f0).length c195_0)).setCell ⟨gb196, 1, none⟩ (.bool ((rd_T30 l0_3 x9_2).f1))).setCell ⟨gb196, 2, none⟩ (.int .i64 ((rd_T30 l0_3 x9_2).f2))).setCell ⟨gb196, 3, none⟩ (.slice A195_3 ((rd_T30 l0_3 x9_2).f3).length c195_3))).cell? _ = some _ from hx197_2))
               (try have hy197_3 := fun (n_ : Nat) => (show ((((((w45.drewN n_).setCell ⟨gb196, 0, none⟩ (.slice A195_0 ((rd_T30 l0_3 x9_2).f0).length c195_0)).setCell ⟨gb196, 1, none⟩ (.bool ((rd_T30 l0_3 x9_2).f1))).setCell ⟨gb196, 2, none⟩ (.int .i64 ((rd_T30 l0_3 x9_2).f2))).setCell ⟨gb196, 3, none⟩ (.slice A195_3 ((rd_T30 l0_3 x9_2).f3).length c195_3))).cell? _ = some _ from hx197_3))
               clear hn197_0
               clear hn197_1
               clear hn197_2
               clear hn197_3
               replace p197 := eq_true p197
               replace q197 := eq_true q197
               have p198 : 0 ≤ (0 : Int) := (by omega)
               have q198 : 0 < (((rd_T30 l0_3 (ji52)).f0).length : Int) := od
               obtain ⟨ad198, e198, hx198_0⟩ := Kd.at_int HR197_0.out 0 p198 q198
               cases e198
               have qi198 : (0 < ((rd_T30 l0_3 (ji52)).f0).length) = True := eq_true (by omega)
               (try rw [show ((0 : Int)).toNat = 0 from rfl] at hx198_0)
               (try rw [Addr.add_zero'] at hx198_0)
               have hn198_0 : ad198.block ≠ gb196 := Nat.ne_of_lt (Nat.lt_of_lt_of_le (by have := World.block_lt_of_cell? _ _ hx198_0; first | rwa [add_block] at this | exact this) GW196.out)
               have hn198_1 : ad198.block ≠ gb196 := Nat.ne_of_lt (Nat.lt_of_lt_of_le (by have := World.block_lt_of_cell? _ _ hx198_0; first | rwa [add_block] at this | exact this) GW196.out)
               have hn198_2 : ad198.block ≠ gb196 := Nat.ne_of_lt (Nat.lt_of_lt_of_le (by have := World.block_lt_of_cell? _ _ hx198_0; first | rwa [add_block] at this | exact this) GW196.out)
               have hn198_3 : ad198.block ≠ gb196 := Nat.ne_of_lt (Nat.lt_of_lt_of_le (by have := World.block_lt_of_cell? _ _ hx198_0; first | rwa [add_block] at this | exact this) GW196.out)
               replace hx198_0 := hxb HB hx198_0
               replace hx198_0 := (cell_far (p := ⟨gb196, 0, none⟩) (by first | (rw [add_block]; exact hn198_0) | (show (Addr.add _ _).block ≠ _; rw [add_block]; exact hn198_0) | exact hn198_0) (.slice A195_0 ((rd_T30 l0_3 x9_2).f0).length c195_0)).trans hx198_0
               replace hx198_0 := (cell_far (p := ⟨gb196, 1, none⟩) (by first | (rw [add_block]; exact hn198_1) | (show (Addr.add _ _).block ≠ _; rw [add_block]; exact hn198_1) | exact hn198_1) (.bool ((rd_T30 l0_3 x9_2).f1))).trans hx198_0
               replace hx198_0 := (cell_far (p := ⟨gb196, 2, none⟩) (by first | (rw [add_block]; exact hn198_2) | (show (Addr.add _ _).block ≠ _; rw [add_block]; exact hn198_2) | exact hn198_2) (.int .i64 ((rd_T30 l0_3 x9_2).f2))).trans hx198_0
               replace hx198_0 := (cell_far (p := ⟨gb196, 3, none⟩) (by first | (rw [add_block]; exact hn198_3) | (show (Addr.add _ _).block ≠ _; rw [add_block]; exact hn198_3) | exact hn198_3) (.slice A195_3 ((rd_T30 l0_3 x9_2).f3).length c195_3)).trans hx198_0
               (try have hy198_0 := fun (n_ : Nat) => (show ((((((w45.drewN n_).setCell ⟨gb196, 0, none⟩ (.slice A195_0 ((rd_T30 l0_3 x9_2).f0).length c195_0)).setCell ⟨gb196, 1, none⟩ (.bool ((rd_T30 l0_3 x9_2).f1))).setCell ⟨gb196, 2, none⟩ (.int .i64 ((rd_T30 l0_3 x9_2).f2))).setCell ⟨gb196, 3, none⟩ (.slice A195_3 ((rd_T30 l0_3 x9_2).f3).length c195_3))).cell? _ = some _ from hx198_0))
               clear hn198_0
               clear hn198_1
               clear hn198_2
               clear hn198_3
               replace p198 := eq_true p198
               replace q198 := eq_true q198
               have p199 : 0 ≤ (0 : Int) := (by omega)
               have q199 : 0 < (((rd_T30 l0_3 x9_2).f0).length : Int) := od
               obtain ⟨ad199, e199, hx199_0⟩ := Kd.at_int HR195_0.out 0 p199 q199
               cases e199
               have qi199 : (0 < ((rd_T30 l0_3 x9_2).f0).length) = True := eq_true (by omega)
               (try rw [show ((0 : Int)).toNat = 0 from rfl] at hx199_0)
               (try rw [Addr.add_zero'] at hx199_0)
               have hn199_0 : ad199.block ≠ gb196 := Nat.ne_of_lt (Nat.lt_of_lt_of_le (by have := World.block_lt_of_cell? _ _ hx199_0; first | rwa [add_block] at this | exact this) GW196.out)
               have hn199_1 : ad199.block ≠ gb196 := Nat.ne_of_lt (Nat.lt_of_lt_of_le (by have := World.block_lt_of_cell? _ _ hx199_0; first | rwa [add_block] at this | exact this) GW196.out)
               have hn199_2 : ad199.block ≠ gb196 := Nat.ne_of_lt (Nat.lt_of_lt_of_le (by have := World.block_lt_of_cell? _ _ hx199_0; first | rwa [add_block] at this | exact this) GW196.out)
               have hn199_3 : ad199.block ≠ gb196 := Nat.ne_of_lt (Nat.lt_of_lt_of_le (by have := World.block_lt_of_cell? _ _ hx199_0; first | rwa [add_block] at this | exact this) GW196.out)
               replace hx199_0 := hxb HB hx199_0
               replace hx199_0 := (cell_far (p := ⟨gb196, 0, none⟩) (by first | (rw [add_block]; exact hn199_0) | (show (Addr.add _ _).block ≠ _; rw [add_block]; exact hn199_0) | exact hn199_0) (.slice (some ad199) ((rd_T30 l0_3 x9_2).f0).length c195_0)).trans hx199_0
               replace hx199_0 := (cell_far (p := ⟨gb196, 1, none⟩) (by first | (rw [add_block]; exact hn199_1) | (show (Addr.add _ _).block ≠ _; rw [add_block]; exact hn199_1) | exact hn199_1) (.bool ((rd_T30 l0_3 x9_2).f1))).trans hx199_0
               replace hx199_0 := (cell_far (p := ⟨gb196, 2, none⟩) (by first | (rw [add_block]; exact hn199_2) | (show (Addr.add _ _).block ≠ _; rw [add_block]; exact hn199_2) | exact hn199_2) (.int .i64 ((rd_T30 l0_3 x9_2).f2))).trans hx199_0
               replace hx199_0 := (cell_far (p := ⟨gb196, 3, none⟩) (by first | (rw [add_block]; exact hn199_3) | (show (Addr.add _ _).block ≠ _; rw [add_block]; exact hn199_3) | exact hn199_3) (.slice A195_3 ((rd_T30 l0_3 x9_2).f3).length c195_3)).trans hx199_0
               (try have hy199_0 := fun (n_ : Nat) => (show ((((((w45.drewN n_).setCell ⟨gb196, 0, none⟩ (.slice (some ad199) ((rd_T30 l0_3 x9_2).f0).length c195_0)).setCell ⟨gb196, 1, none⟩ (.bool ((rd_T30 l0_3 x9_2).f1))).setCell ⟨gb196, 2, none⟩ (.int .i64 ((rd_T30 l0_3 x9_2).f2))).setCell ⟨gb196, 3, none⟩ (.slice A195_3 ((rd_T30 l0_3 x9_2).f3).length c195_3))).cell? _ = some _ from hx199_0))
               clear hn199_0
               clear hn199_1
               clear hn199_2
               clear hn199_3
               replace p199 := eq_true p199
               replace q199 := eq_true q199
               go_wp2
               repeat (go_quiet (fail); try go_wp2)
               go_meet
               case rel => exact ⟨_, (decide ((rd ((rd_T30 l0_3 (ji52)).f0) 0) ≥ (rd ((rd_T30 l0_3 x9_2).f0) 0))), (by first | rfl | (simp; done) | (simp only [← hji52] <;> (first | rfl | simp)) | (simp [*]; done)), H', ⟨by have := HJ4.out; have := HK2.out; first | omega | exact Nat.le_refl _⟩, ⟨by (with_reducible repeat (first | refine blk_drewN ?_ _ | refine blk_drew ?_ | refine blk_alloc ?_ _)); refine blk_far ?_ NB194_196.out _; (with_reducible repeat (first | refine blk_drewN ?_ _ | refine blk_drew ?_ | refine blk_alloc ?_ _)); refine blk_far ?_ NB194_196.out _; (with_reducible repeat (first | refine blk_drewN ?_ _ | refine blk_drew ?_ | refine blk_alloc ?_ _)); refine blk_far ?_ NB194_196.out _; (with_reducible repeat (first | refine blk_drewN ?_ _ | refine blk_drew ?_ | refine blk_alloc ?_ _)); refine blk_far ?_ NB194_196.out _; (with_reducible repeat (first | refine blk_drewN ?_ _ | refine blk_drew ?_ | refine blk_alloc ?_ _)); exact BK194.out⟩, ⟨by (with_reducible repeat (first | refine blk_drewN ?_ _ | refine blk_drew ?_ | refine blk_alloc ?_ _)); refine blk_put (cs := #[.slice (some ad199) ((rd_T30 l0_3 x9_2).f0).length c195_0, .bool ((rd_T30 l0_3 x9_2).f1), .int .i64 ((rd_T30 l0_3 x9_2).f2), .slice none 0 0]) ?_ 3 _ rfl; (with_reducible repeat (first | refine blk_drewN ?_ _ | refine blk_drew ?_ | refine blk_alloc ?_ _)); refine blk_put (cs := #[.slice (some ad199) ((rd_T30 l0_3 x9_2).f0).length c195_0, .bool ((rd_T30 l0_3 x9_2).f1), .int .i64 0, .slice none 0 0]) ?_ 2 _ rfl; (with_reducible repeat (first | refine blk_drewN ?_ _ | refine blk_drew ?_ | refine blk_alloc ?_ _)); refine blk_put (cs := #[.slice (some ad199) ((rd_T30 l0_3 x9_2).f0).length c195_0, .bool false, .int .i64 0, .slice none 0 0]) ?_ 1 _ rfl; (with_reducible repeat (first | refine blk_drewN ?_ _ | refine blk_drew ?_ | refine blk_alloc ?_ _)); refine blk_put (cs := #[.slice none 0 0, .bool false, .int .i64 0, .slice none 0 0]) ?_ 0 _ rfl; (with_reducible repeat (first | refine blk_drewN ?_ _ | refine blk_drew ?_ | refine blk_alloc ?_ _)); exact BK196.out⟩, ⟨by repeat (first | (with_reducible first | exact HB.out | apply below_alloc | apply pw_below_drewN | apply below_drew1 | refine below_set ?_ GE194.out | refine below_set ?_ GE196.out) | exact HB.out)⟩⟩
              ·rw [if_neg c56] at H
               exact absurd H (by simp)
             ·rw [if_neg c55] at H
              exact absurd H (by simp)
            ·rw [if_neg c54] at H
             exact absurd H (by simp)
           ·rw [if_neg c53] at H
            exact absurd H (by simp)
          ·rw [if_neg c51] at H
           have c51b0 : decide (0 < x9_2) = false := decide_eq_false c51
           clear c51
           have H' := Aside0.mk H
           clear H
           have hnb60 := NB196_194.out
           have hnc60 := NB194_196.out
           obtain ⟨hcz61_0, hcz61_1, hcz61_2, hcz61_3, -⟩ := cells_4 BK196.out trivial
           obtain ⟨hfz61_0, hfz61_1, hfz61_2, hfz61_3, -⟩ := frz_4 BK196.out
           go_wp2
           repeat (go_quiet (fail); try go_wp2)
           go_meet
           case rel => exact ⟨_, (false), (by first | rfl | (simp; done) | (simp [*]; done)), H', ⟨by have := HJ4.out; have := HK2.out; first | omega | exact Nat.le_refl _⟩, ⟨by (with_reducible repeat (first | refine blk_drewN ?_ _ | refine blk_drew ?_ | refine blk_alloc ?_ _)); refine blk_far ?_ NB194_196.out _; (with_reducible repeat (first | refine blk_drewN ?_ _ | refine blk_drew ?_ | refine blk_alloc ?_ _)); refine blk_far ?_ NB194_196.out _; (with_reducible repeat (first | refine blk_drewN ?_ _ | refine blk_drew ?_ | refine blk_alloc ?_ _)); refine blk_far ?_ NB194_196.out _; (with_reducible repeat (first | refine blk_drewN ?_ _ | refine blk_drew ?_ | refine blk_alloc ?_ _)); refine blk_far ?_ NB194_196.out _; (with_reducible repeat (first | refine blk_drewN ?_ _ | refine blk_drew ?_ | refine blk_alloc ?_ _)); exact BK194.out⟩, ⟨by (with_reducible repeat (first | refine blk_drewN ?_ _ | refine blk_drew ?_ | refine blk_alloc ?_ _)); refine blk_put (cs := #[.slice A195_0 ((rd_T30 l0_3 x9_2).f0).length c195_0, .bool ((rd_T30 l0_3 x9_2).f1), .int .i64 ((rd_T30 l0_3 x9_2).f2), .slice none 0 0]) ?_ 3 _ rfl; (with_reducible repeat (first | refine blk_drewN ?_ _ | refine blk_drew ?_ | refine blk_alloc ?_ _)); refine blk_put (cs := #[.slice A195_0 ((rd_T30 l0_3 x9_2).f0).length c195_0, .bool ((rd_T30 l0_3 x9_2).f1), .int .i64 0, .slice none 0 0]) ?_ 2 _ rfl; (with_reducible repeat (first | refine blk_drewN ?_ _ | refine blk_drew ?_ | refine blk_alloc ?_ _)); refine blk_put (cs := #[.slice A195_0 ((rd_T30 l0_3 x9_2).f0).length c195_0, .bool false, .int .i64 0, .slice none 0 0]) ?_ 1 _ rfl; (with_reducible repeat (first | refine blk_drewN ?_ _ | refine blk_drew ?_ | refine blk_alloc ?_ _)); refine blk_put (cs := #[.slice none 0 0, .bool false, .int .i64 0, .slice none 0 0]) ?_ 0 _ rfl; (with_reducible repeat (first | refine blk_drewN ?_ _ | refine blk_drew ?_ | refine blk_alloc ?_ _)); exact BK196.out⟩, ⟨by repeat (first | (with_reducible first | exact HB.out | apply below_alloc | apply pw_below_drewN | apply below_drew1 | refine below_set ?_ GE194.out | refine below_set ?_ GE196.out) | exact HB.out)⟩⟩
        case rest =>
         clear HC43
         try clear c1; try clear p1; try clear q1; try clear hx1; try clear qi1; try clear c2; try clear p2; try clear c3; try clear c4; try clear c5; try clear c6; try clear p6; try clear c7; try clear c7b0; try clear c8; try clear c8b0; try clear c9; try clear c10; try clear c10b0; try clear c10b1; try clear c12; try clear c13; try clear c13b0; try clear c15; try clear c15b0; try clear c18; try clear c18b0; try clear c18b1; try clear c19; try clear c19b0; try clear p19; try clear q19; try clear hx19; try clear qi19; try clear c21; try clear c21b0; try clear c25; try clear c25b0; try clear c25b1; try clear c25b2; try clear c27; try clear c28; try clear c28b0; try clear c30; try clear c30b0; try clear c33; try clear c33b0; try clear c33b1; try clear c34; try clear c34b0; try clear c36; try clear c36b0; try clear c40; try clear c41; try clear c41b0; try clear c42; try clear c42b0; try clear c46; try clear c48; try clear c48b0; try clear c48b1; try clear c48b2; try clear c49; try clear c51; try clear c51b0; try clear c53; try clear c53b0; try clear c54; try clear c54b0; try clear c55; try clear c55b0; try clear c55b1; try clear c56; try clear c56b0; try clear c56b1; try clear c57; try clear c60; try clear hcz11_0; try clear hcz11_1; try clear hcz11_2; try clear hcz11_3; try clear hcz14_0; try clear hcz14_1; try clear hcz14_2; try clear hcz14_3; try clear hcz16_0; try clear hcz16_1; try clear hcz16_2; try clear hcz16_3; try clear hcz17_0; try clear hcz17_1; try clear hcz17_2; try clear hcz17_3; try clear hcz20_0; try clear hcz20_1; try clear hcz20_2; try clear hcz20_3; try clear hcz22_0; try clear hcz22_1; try clear hcz22_2; try clear hcz22_3; try clear hcz23_0; try clear hcz23_1; try clear hcz23_2; try clear hcz23_3; try clear hcz24_0; try clear hcz24_1; try clear hcz24_2; try clear hcz24_3; try clear hcz26_0; try clear hcz26_1; try clear hcz26_2; try clear hcz26_3; try clear hcz29_0; try clear hcz29_1; try clear hcz29_2; try clear hcz29_3; try clear hcz31_0; try clear hcz31_1; try clear hcz31_2; try clear hcz31_3; try clear hcz32_0; try clear hcz32_1; try clear hcz32_2; try clear hcz32_3; try clear hcz35_0; try clear hcz35_1; try clear hcz35_2; try clear hcz35_3; try clear hcz37_0; try clear hcz37_1; try clear hcz37_2; try clear hcz37_3; try clear hcz38_0; try clear hcz38_1; try clear hcz38_2; try clear hcz38_3; try clear hcz39_0; try clear hcz39_1; try clear hcz39_2; try clear hcz39_3; try clear hcz44_0; try clear hcz44_1; try clear hcz44_2; try clear hcz44_3; try clear hcz47_0; try clear hcz47_1; try clear hcz47_2; try clear hcz47_3; try clear hcz50_0; try clear hcz50_1; try clear hcz50_2; try clear hcz50_3; try clear hcz58_0; try clear hcz58_1; try clear hcz58_2; try clear hcz58_3; try clear hcz59_0; try clear hcz59_1; try clear hcz59_2; try clear hcz59_3; try clear hcz61_0; try clear hcz61_1; try clear hcz61_2; try clear hcz61_3; try clear hfz11_0; try clear hfz11_1; try clear hfz11_2; try clear hfz11_3; try clear hfz14_0; try clear hfz14_1; try clear hfz14_2; try clear hfz14_3; try clear hfz16_0; try clear hfz16_1; try clear hfz16_2; try clear hfz16_3; try clear hfz17_0; try clear hfz17_1; try clear hfz17_2; try clear hfz17_3; try clear hfz20_0; try clear hfz20_1; try clear hfz20_2; try clear hfz20_3; try clear hfz22_0; try clear hfz22_1; try clear hfz22_2; try clear hfz22_3; try clear hfz23_0; try clear hfz23_1; try clear hfz23_2; try clear hfz23_3; try clear hfz24_0; try clear hfz24_1; try clear hfz24_2; try clear hfz24_3; try clear hfz26_0; try clear hfz26_1; try clear hfz26_2; try clear hfz26_3; try clear hfz29_0; try clear hfz29_1; try clear hfz29_2; try clear hfz29_3; try clear hfz31_0; try clear hfz31_1; try clear hfz31_2; try clear hfz31_3; try clear hfz32_0; try clear hfz32_1; try clear hfz32_2; try clear hfz32_3; try clear hfz35_0; try clear hfz35_1; try clear hfz35_2; try clear hfz35_3; try clear hfz37_0; try clear hfz37_1; try clear hfz37_2; try clear hfz37_3; try clear hfz38_0; try clear hfz38_1; try clear hfz38_2; try clear hfz38_3; try clear hfz39_0; try clear hfz39_1; try clear hfz39_2; try clear hfz39_3; try clear hfz44_0; try clear hfz44_1; try clear hfz44_2; try clear hfz44_3; try clear hfz47_0; try clear hfz47_1; try clear hfz47_2; try clear hfz47_3; try clear hfz50_0; try clear hfz50_1; try clear hfz50_2; try clear hfz50_3; try clear hfz58_0; try clear hfz58_1; try clear hfz58_2; try clear hfz58_3; try clear hfz59_0; try clear hfz59_1; try clear hfz59_2; try clear hfz59_3; try clear hfz61_0; try clear hfz61_1; try clear hfz61_2; try clear hfz61_3; try clear hx195_0; try clear hx195_1; try clear hx195_2; try clear hx195_3; try clear hx197_0; try clear hx197_1; try clear hx197_2; try clear hx197_3; try clear hx198_0; try clear hx199_0; try clear p195; try clear p197; try clear p198; try clear p199; try clear p2; try clear p6; try clear q195; try clear q197; try clear q198; try clear q199
         obtain ⟨kq, x108_42, rfl, HA, HJ42, BK194, BK196, HB⟩ := hcut
         cases kq with
         | zero => exact absurd HA.out (by simp [spec_l6ok.j2])
         | succ kj42 =>
          have H := HA.out
          clear HA
          simp only [spec_l6ok.j2] at H
          by_cases c62 : x108_42 = true
          ·subst c62
           have H1 : (some (-1)) = some r := by rw [if_pos rfl] at H; exact H
           clear H
           have H := H1
           clear H1
           obtain rfl := Option.some.inj H
           go_wp2
           repeat (go_quiet (fail); try go_wp2)
           go_ret
           exact ⟨by first | rfl | (simp [errW_none, errW_some] <;> rfl) | (simp [*, errW_none, errW_some] <;> rfl), by repeat (first | (with_reducible first | exact HB.out | apply below_alloc | apply pw_below_drewN | apply below_drew1 | refine below_set ?_ GE194.out | refine below_set ?_ GE196.out) | exact HB.out)⟩
          ·replace c62 := Bool.eq_false_iff.mpr c62
           subst c62
           have H1 : ((spec_l6ok.f kj42 ((rd_T30 l0_3 x9_2).f0) ((rd_T30 l0_3 x9_2).f1) ((rd_T30 l0_3 x9_2).f2) ((rd_T30 l0_3 x9_2).f3) false x2_2 (wrap64 (a3 + 1))).bind fun t200 => (if t200 < 0 then (some (-1)) else (spec_l6ok.l0 kj42 t200 a3 (wrap64 (x9_2 + 1)) l0_0 a0_1 a0_2 l0_3))) = some r := by rw [if_neg (show ¬ (false = true) by decide)] at H; exact H
           clear H
           have H := H1
           clear H1
           replace H := Option.bind_eq_some_iff.mp H
           obtain ⟨t200, A630, H⟩ := H
           replace H : (if t200 < 0 then (some (-1)) else (spec_l6ok.l0 kj42 t200 a3 (wrap64 (x9_2 + 1)) l0_0 a0_1 a0_2 l0_3)) = some r := H
           have A63 := Aside0.mk A630
           clear A630
           by_cases c64 : t200 < 0
           ·rw [if_pos c64] at H
            have c64b0 : decide (t200 < 0) = true := decide_eq_true c64
            clear c64
            obtain rfl := Option.some.inj H
            have hnb65 := NB196_194.out
            have hnc65 := NB194_196.out
            have hcz66_0 : wc.cell? ⟨gb196, 0, none⟩ = some (.slice A195_0 ((rd_T30 l0_3 x9_2).f0).length c195_0) := (blk_cell BK196.out 0).trans rfl
            have hcz66_1 : wc.cell? ⟨gb196, 1, none⟩ = some (.bool ((rd_T30 l0_3 x9_2).f1)) := (blk_cell BK196.out 1).trans rfl
            have hcz66_2 : wc.cell? ⟨gb196, 2, none⟩ = some (.int .i64 ((rd_T30 l0_3 x9_2).f2)) := (blk_cell BK196.out 2).trans rfl
            have hcz66_3 : wc.cell? ⟨gb196, 3, none⟩ = some (.slice A195_3 ((rd_T30 l0_3 x9_2).f3).length c195_3) := (blk_cell BK196.out 3).trans rfl
            obtain ⟨hfz66_0, hfz66_1, hfz66_2, hfz66_3, -⟩ := frz_4 BK196.out
            go_wp2_with (first | (go_at_call 59; (with_reducible refine (ih kj42 (by have := HJ4.out; have := HK2.out; have := HJ42.out; omega) _ _ ((rd_T30 l0_3 x9_2).f0) ((rd_T30 l0_3 x9_2).f1) ((rd_T30 l0_3 x9_2).f2) _ _ ((rd_T30 l0_3 x9_2).f3) false x2_2 (wrap64 (a3 + 1)) t200 _ ?side1 ?side2 ?side3 ?side4 A63.out).mono ?_); (case side1 => exact kcb); (case side2 => exact HC195_0.out); (case side3 => exact kcb); (case side4 => exact HC195_3.out); rintro e w67 ⟨rfl, hb⟩; replace BK194 := Aside0.mk (blb BK194 hb); replace BK196 := Aside0.mk (blb BK196 hb); replace HB := Aside0.mk (below_step bel hb); (try clear hb); (try clear hb2); (try clear hk); (try clear hi)))
            repeat (go_quiet (first | (go_at_call 59; (with_reducible refine (ih kj42 (by have := HJ4.out; have := HK2.out; have := HJ42.out; omega) _ _ ((rd_T30 l0_3 x9_2).f0) ((rd_T30 l0_3 x9_2).f1) ((rd_T30 l0_3 x9_2).f2) _ _ ((rd_T30 l0_3 x9_2).f3) false x2_2 (wrap64 (a3 + 1)) t200 _ ?side1 ?side2 ?side3 ?side4 A63.out).mono ?_); (case side1 => exact kcb); (case side2 => exact HC195_0.out); (case side3 => exact kcb); (case side4 => exact HC195_3.out); rintro e w67 ⟨rfl, hb⟩; replace BK194 := Aside0.mk (blb BK194 hb); replace BK196 := Aside0.mk (blb BK196 hb); replace HB := Aside0.mk (below_step bel hb); (try clear hb); (try clear hb2); (try clear hk); (try clear hi))); try go_wp2_with (first | (go_at_call 59; (with_reducible refine (ih kj42 (by have := HJ4.out; have := HK2.out; have := HJ42.out; omega) _ _ ((rd_T30 l0_3 x9_2).f0) ((rd_T30 l0_3 x9_2).f1) ((rd_T30 l0_3 x9_2).f2) _ _ ((rd_T30 l0_3 x9_2).f3) false x2_2 (wrap64 (a3 + 1)) t200 _ ?side1 ?side2 ?side3 ?side4 A63.out).mono ?_); (case side1 => exact kcb); (case side2 => exact HC195_0.out); (case side3 => exact kcb); (case side4 => exact HC195_3.out); rintro e w67 ⟨rfl, hb⟩; replace BK194 := Aside0.mk (blb BK194 hb); replace BK196 := Aside0.mk (blb BK196 hb); replace HB := Aside0.mk (below_step bel hb); (try clear hb); (try clear hb2); (try clear hk); (try clear hi))))
            go_ret
            exact ⟨by first | rfl | (simp [errW_none, errW_some] <;> rfl) | (simp [*, errW_none, errW_some] <;> rfl), by repeat (first | (with_reducible first | exact HB.out | apply below_alloc | apply pw_below_drewN | apply below_drew1 | refine below_set ?_ GE194.out | refine below_set ?_ GE196.out) | exact HB.out)⟩
           ·rw [if_neg c64] at H
            have c64b0 : decide (t200 < 0) = false := decide_eq_false c64
            clear c64
            have H' := Aside0.mk H
            clear H
            have hnb68 := NB196_194.out
            have hnc68 := NB194_196.out
            have hcz69_0 : wc.cell? ⟨gb196, 0, none⟩ = some (.slice A195_0 ((rd_T30 l0_3 x9_2).f0).length c195_0) := (blk_cell BK196.out 0).trans rfl
            have hcz69_1 : wc.cell? ⟨gb196, 1, none⟩ = some (.bool ((rd_T30 l0_3 x9_2).f1)) := (blk_cell BK196.out 1).trans rfl
            have hcz69_2 : wc.cell? ⟨gb196, 2, none⟩ = some (.int .i64 ((rd_T30 l0_3 x9_2).f2)) := (blk_cell BK196.out 2).trans rfl
            have hcz69_3 : wc.cell? ⟨gb196, 3, none⟩ = some (.slice A195_3 ((rd_T30 l0_3 x9_2).f3).length c195_3) := (blk_cell BK196.out 3).trans rfl
            obtain ⟨hfz69_0, hfz69_1, hfz69_2, hfz69_3, -⟩ := frz_4 BK196.out
            go_wp2_with (first | (go_at_call 59; (with_reducible refine (ih kj42 (by have := HJ4.out; have := HK2.out; have := HJ42.out; omega) _ _ ((rd_T30 l0_3 x9_2).f0) ((rd_T30 l0_3 x9_2).f1) ((rd_T30 l0_3 x9_2).f2) _ _ ((rd_T30 l0_3 x9_2).f3) false x2_2 (wrap64 (a3 + 1)) t200 _ ?side1 ?side2 ?side3 ?side4 A63.out).mono ?_); (case side1 => exact kcb); (case side2 => exact HC195_0.out); (case side3 => exact kcb); (case side4 => exact HC195_3.out); rintro e w70 ⟨rfl, hb⟩; replace BK194 := Aside0.mk (blb BK194 hb); replace BK196 := Aside0.mk (blb BK196 hb); replace HB := Aside0.mk (below_step bel hb); (try clear hb); (try clear hb2); (try clear hk); (try clear hi)))
            repeat (go_quiet (first | (go_at_call 59; (with_reducible refine (ih kj42 (by have := HJ4.out; have := HK2.out; have := HJ42.out; omega) _ _ ((rd_T30 l0_3 x9_2).f0) ((rd_T30 l0_3 x9_2).f1) ((rd_T30 l0_3 x9_2).f2) _ _ ((rd_T30 l0_3 x9_2).f3) false x2_2 (wrap64 (a3 + 1)) t200 _ ?side1 ?side2 ?side3 ?side4 A63.out).mono ?_); (case side1 => exact kcb); (case side2 => exact HC195_0.out); (case side3 => exact kcb); (case side4 => exact HC195_3.out); rintro e w70 ⟨rfl, hb⟩; replace BK194 := Aside0.mk (blb BK194 hb); replace BK196 := Aside0.mk (blb BK196 hb); replace HB := Aside0.mk (below_step bel hb); (try clear hb); (try clear hb2); (try clear hk); (try clear hi))); try go_wp2_with (first | (go_at_call 59; (with_reducible refine (ih kj42 (by have := HJ4.out; have := HK2.out; have := HJ42.out; omega) _ _ ((rd_T30 l0_3 x9_2).f0) ((rd_T30 l0_3 x9_2).f1) ((rd_T30 l0_3 x9_2).f2) _ _ ((rd_T30 l0_3 x9_2).f3) false x2_2 (wrap64 (a3 + 1)) t200 _ ?side1 ?side2 ?side3 ?side4 A63.out).mono ?_); (case side1 => exact kcb); (case side2 => exact HC195_0.out); (case side3 => exact kcb); (case side4 => exact HC195_3.out); rintro e w70 ⟨rfl, hb⟩; replace BK194 := Aside0.mk (blb BK194 hb); replace BK196 := Aside0.mk (blb BK196 hb); replace HB := Aside0.mk (below_step bel hb); (try clear hb); (try clear hb2); (try clear hk); (try clear hi))))
            go_roundg kj42
            case measure => have := HJ4.out; have := HK2.out; have := HJ42.out; omega
            case rel => exact ⟨(t200), (wrap64 (x9_2 + 1)), (by first | rfl | (simp; done) | (simp [*]; done)), (by first | rfl | (simp; done) | (simp [*]; done)), H', ⟨by have := HJ4.out; have := HK2.out; have := HJ42.out; omega⟩, ⟨by (with_reducible repeat (first | refine blk_drewN ?_ _ | refine blk_drew ?_ | refine blk_alloc ?_ _)); exact BK194.out⟩, ⟨by repeat (first | (with_reducible first | exact HB.out | apply below_alloc | apply pw_below_drewN | apply below_drew1 | refine below_set ?_ GE194.out | refine below_set ?_ GE196.out) | exact HB.out)⟩⟩
       ·rw [if_neg c42] at H
        exact absurd H (by simp)
      ·rw [if_neg c41] at H
       have c41b0 : decide (x9_2 < (l0_3.length : Int)) = false := decide_eq_false c41
       clear c41
       obtain rfl := Option.some.inj H
       obtain ⟨hcz71_0, hcz71_1, hcz71_2, hcz71_3, -⟩ := cells_4 BK194.out trivial
       obtain ⟨hfz71_0, hfz71_1, hfz71_2, hfz71_3, -⟩ := frz_4 BK194.out
       go_wp2
       repeat (go_quiet (fail); try go_wp2)
       go_ret
       exact ⟨by first | rfl | (simp [errW_none, errW_some] <;> rfl) | (simp [*, errW_none, errW_some] <;> rfl), by repeat (first | (with_reducible first | exact HB.out | apply below_alloc | apply pw_below_drewN | apply below_drew1 | refine below_set ?_ GE194.out) | exact HB.out)⟩

/-! ### spec_l6long: function 60 -/
mutual
def spec_l6long.l0 : Nat → Int → Int → List Int → Bool → Int → List (S30) → Option (Int)
 | 0, _, _, _, _, _, _ => none
 | k + 1, x3, x4, x202000, x202001, x202002, x202003 => if x4 < (x202003.length : Int) then (if 0 ≤ x4 then ((spec_l6long.f k ((rd_T30 x202003 x4).f0) ((rd_T30 x202003 x4).f1) ((rd_T30 x202003 x4).f2) ((rd_T30 x202003 x4).f3)).bind fun t203 => (if t203 > x3 then (spec_l6long.l0 k t203 (wrap64 (x4 + 1)) x202000 x202001 x202002 x202003) else (spec_l6long.l0 k x3 (wrap64 (x4 + 1)) x202000 x202001 x202002 x202003))) else (none)) else (some (wrap64 (x3 + (x202000.length : Int))))
def spec_l6long.f : Nat → List Int → Bool → Int → List (S30) → Option (Int)
 | 0, _, _, _, _ => none
 | k + 1, l0_0, a0_1, a0_2, l0_3 => spec_l6long.l0 k 0 0 l0_0 a0_1 a0_2 l0_3
end
set_option maxHeartbeats 8000000 in
set_option maxRecDepth 100000 in
theorem spec_l6long.calls (k : Nat) : ∀ (A0_0 : Option Addr) (c0_0 : Nat) (l0_0 : List Int) (a0_1 : Bool) (a0_2 : Int) (A0_3 : Option Addr) (c0_3 : Nat) (l0_3 : List (S30)) (r : Int) (w : World) (hr0_0 : Kd.C (Kd.int .u8) w A0_0 l0_0.length l0_0) (hc0_0 : l0_0.length ≤ c0_0) (hr0_3 : Kd.C k30 w A0_3 l0_3.length l0_3) (hc0_3 : l0_3.length ≤ c0_3) (h : spec_l6long.f k l0_0 a0_1 a0_2 l0_3 = some r),
  Calls Try.prog 60 #[.agg #[.slice A0_0 l0_0.length c0_0, .bool a0_1, .int .i64 a0_2, .slice A0_3 l0_3.length c0_3]] w fun e w' => e = .returned (.int .i64 r) ∧ Below w.heap.size w w' := by
 induction k using Nat.strongRecOn with
 | _ k ih =>
 intro A0_0 c0_0 l0_0 a0_1 a0_2 A0_3 c0_3 l0_3 r w hr0_0 hc0_0 hr0_3 hc0_3 h
 cases k with
 | zero => exact absurd h (by simp [spec_l6long.f])
 | succ k =>
 simp only [spec_l6long.f] at h
 have hu30 := Try.underlying30
 have HR0_0 := Aside0.mk hr0_0
 have HC0_0 := Aside0.mk hc0_0
 clear hr0_0 hc0_0
 have HR0_3 := Aside0.mk hr0_3
 have HC0_3 := Aside0.mk hc0_3
 clear hr0_3 hc0_3
 have HB := Aside0.mk (Below.refl w.heap.size w)
 have H : (spec_l6long.l0 k 0 0 l0_0 a0_1 a0_2 l0_3) = some r := h
 clear h
 have H' := Aside0.mk H
 clear H
 go_enter Try.func60, Try.ntmps60
 go_wp2_with (first | ((with_reducible refine gate_dst (N := 1) rfl ?_); refine bx_ 1 #[.slice A0_0 l0_0.length c0_0, .bool a0_1, .int .i64 a0_2, .slice A0_3 l0_3.length c0_3] 30 (h := ?_); intro gb201 hg w2 hbox hb; have BK201 := Aside0.mk (hbox); have GW201 := Aside0.mk ((by rw [hg]; exact (below_size bel) : w.heap.size ≤ gb201)); have GE201 := Aside0.mk ((by rw [hg]; exact (below_size bel) : w.heap.size ≤ gb201)); replace HB := Aside0.mk (below_step bel hb); clear hb hbox hg))
 go_loopg [3, 4] k (fun kq v3 v4 w' => ∃ (x3_1 : Int) (x4_1 : Int), v3 = .int .i64 x3_1 ∧ v4 = .int .i64 x4_1 ∧ Aside0 (spec_l6long.l0 kq x3_1 x4_1 l0_0 a0_1 a0_2 l0_3 = some r) ∧ Aside0 (kq ≤ k) ∧ Aside0 (w'.heap[gb201]? = some (.cells #[(.slice A0_0 l0_0.length c0_0), .bool a0_1, .int .i64 a0_2, (.slice A0_3 l0_3.length c0_3)] 30 (0, 0))) ∧ Aside0 (Below w.heap.size w w'))
 case atStart => exact ⟨(0), (0), (by first | rfl | (simp; done) | (simp [*]; done)), (by first | rfl | (simp; done) | (simp [*]; done)), H', ⟨Nat.le_refl _⟩, ⟨by (with_reducible repeat (first | refine blk_drewN ?_ _ | refine blk_drew ?_ | refine blk_alloc ?_ _)); exact BK201.out⟩, ⟨by repeat (first | (with_reducible first | exact HB.out | apply below_alloc | apply pw_below_drewN | apply below_drew1 | refine below_set ?_ GE201.out) | exact HB.out)⟩⟩
 case round =>
  clear H'
  try clear p2
  obtain ⟨x3_1, x4_1, rfl, rfl, HA, HK1, BK201, HB⟩ := hrel
  cases gk with
  | zero => exact absurd HA.out (by simp [spec_l6long.l0])
  | succ k1 =>
   have H := HA.out
   clear HA
   simp only [spec_l6long.l0] at H
   by_cases c3 : x4_1 < (l0_3.length : Int)
   ·rw [if_pos c3] at H
    have c3b0 : decide (x4_1 < (l0_3.length : Int)) = true := decide_eq_true c3
    clear c3
    by_cases c4 : 0 ≤ x4_1
    ·rw [if_pos c4] at H
     have c4b0 : decide (0 ≤ x4_1) = true := decide_eq_true c4
     clear c4
     replace H := Option.bind_eq_some_iff.mp H
     obtain ⟨t203, A50, H⟩ := H
     replace H : (if t203 > x3_1 then (spec_l6long.l0 k1 t203 (wrap64 (x4_1 + 1)) l0_0 a0_1 a0_2 l0_3) else (spec_l6long.l0 k1 x3_1 (wrap64 (x4_1 + 1)) l0_0 a0_1 a0_2 l0_3)) = some r := H
     have A5 := Aside0.mk A50
     clear A50
     by_cases c6 : t203 > x3_1
     ·rw [if_pos c6] at H
      have c6b0 : decide (x3_1 < t203) = true := decide_eq_true c6
      clear c6
      have H' := Aside0.mk H
      clear H
      obtain ⟨hcz7_0, hcz7_1, hcz7_2, hcz7_3, -⟩ := cells_4 BK201.out trivial
      obtain ⟨hfz7_0, hfz7_1, hfz7_2, hfz7_3, -⟩ := frz_4 BK201.out
      have p202 : 0 ≤ (x4_1 : Int) := od
      have q202 : x4_1 < (l0_3.length : Int) := od
      obtain ⟨ad202, A202_0, c202_0, A202_3, c202_3, e202, hx202_0, hx202_1, hx202_2, hx202_3, hl202_0, hi202_0, hl202_3, hi202_3⟩ := at_T30 HR0_3.out x4_1 p202 q202
      cases e202
      replace hx202_0 := hxb HB hx202_0
      replace hx202_1 := hxb HB hx202_1
      replace hx202_2 := hxb HB hx202_2
      replace hx202_3 := hxb HB hx202_3
      have HR202_0 := Aside0.mk hi202_0
      have HC202_0 := Aside0.mk hl202_0
      clear hi202_0 hl202_0
      have HR202_3 := Aside0.mk hi202_3
      have HC202_3 := Aside0.mk hl202_3
      clear hi202_3 hl202_3
      replace p202 := eq_true p202
      replace q202 := eq_true q202
      go_wp2_with (first | ((with_reducible refine gate_callee (f := 60) rfl ?_); refine gl_ (some 18) Try.func60 #[.agg #[.slice A202_0 ((rd_T30 l0_3 x4_1).f0).length c202_0, .bool ((rd_T30 l0_3 x4_1).f1), .int .i64 ((rd_T30 l0_3 x4_1).f2), .slice A202_3 ((rd_T30 l0_3 x4_1).f3).length c202_3]] (h := ?_); (with_reducible refine (ih k1 (by have := HK1.out; omega) _ _ ((rd_T30 l0_3 x4_1).f0) ((rd_T30 l0_3 x4_1).f1) ((rd_T30 l0_3 x4_1).f2) _ _ ((rd_T30 l0_3 x4_1).f3) t203 _ ?side1 ?side2 ?side3 ?side4 A5.out).mono ?_); (case side1 => exact kcb); (case side2 => exact HC202_0.out); (case side3 => exact kcb); (case side4 => exact HC202_3.out); rintro e w8 ⟨rfl, hb⟩; refine ⟨_, rfl, ?_⟩; replace BK201 := Aside0.mk (blb BK201 hb); replace HB := Aside0.mk (below_step bel hb); (try clear hb); (try clear hb2); (try clear hk); (try clear hi)))
      go_roundg k1
      case measure => have := HK1.out; omega
      case rel => exact ⟨(t203), (wrap64 (x4_1 + 1)), (by first | rfl | (simp; done) | (simp [*]; done)), (by first | rfl | (simp; done) | (simp [*]; done)), H', ⟨by have := HK1.out; omega⟩, ⟨by (with_reducible repeat (first | refine blk_drewN ?_ _ | refine blk_drew ?_ | refine blk_alloc ?_ _)); exact BK201.out⟩, ⟨by repeat (first | (with_reducible first | exact HB.out | apply below_alloc | apply pw_below_drewN | apply below_drew1 | refine below_set ?_ GE201.out) | exact HB.out)⟩⟩
     ·rw [if_neg c6] at H
      have c6b0 : decide (x3_1 < t203) = false := decide_eq_false c6
      clear c6
      have H' := Aside0.mk H
      clear H
      obtain ⟨hcz9_0, hcz9_1, hcz9_2, hcz9_3, -⟩ := cells_4 BK201.out trivial
      obtain ⟨hfz9_0, hfz9_1, hfz9_2, hfz9_3, -⟩ := frz_4 BK201.out
      have p202 : 0 ≤ (x4_1 : Int) := od
      have q202 : x4_1 < (l0_3.length : Int) := od
      obtain ⟨ad202, A202_0, c202_0, A202_3, c202_3, e202, hx202_0, hx202_1, hx202_2, hx202_3, hl202_0, hi202_0, hl202_3, hi202_3⟩ := at_T30 HR0_3.out x4_1 p202 q202
      cases e202
      replace hx202_0 := hxb HB hx202_0
      replace hx202_1 := hxb HB hx202_1
      replace hx202_2 := hxb HB hx202_2
      replace hx202_3 := hxb HB hx202_3
      have HR202_0 := Aside0.mk hi202_0
      have HC202_0 := Aside0.mk hl202_0
      clear hi202_0 hl202_0
      have HR202_3 := Aside0.mk hi202_3
      have HC202_3 := Aside0.mk hl202_3
      clear hi202_3 hl202_3
      replace p202 := eq_true p202
      replace q202 := eq_true q202
      go_wp2_with (first | ((with_reducible refine gate_callee (f := 60) rfl ?_); refine gl_ (some 18) Try.func60 #[.agg #[.slice A202_0 ((rd_T30 l0_3 x4_1).f0).length c202_0, .bool ((rd_T30 l0_3 x4_1).f1), .int .i64 ((rd_T30 l0_3 x4_1).f2), .slice A202_3 ((rd_T30 l0_3 x4_1).f3).length c202_3]] (h := ?_); (with_reducible refine (ih k1 (by have := HK1.out; omega) _ _ ((rd_T30 l0_3 x4_1).f0) ((rd_T30 l0_3 x4_1).f1) ((rd_T30 l0_3 x4_1).f2) _ _ ((rd_T30 l0_3 x4_1).f3) t203 _ ?side1 ?side2 ?side3 ?side4 A5.out).mono ?_); (case side1 => exact kcb); (case side2 => exact HC202_0.out); (case side3 => exact kcb); (case side4 => exact HC202_3.out); rintro e w10 ⟨rfl, hb⟩; refine ⟨_, rfl, ?_⟩; replace BK201 := Aside0.mk (blb BK201 hb); replace HB := Aside0.mk (below_step bel hb); (try clear hb); (try clear hb2); (try clear hk); (try clear hi)))
      go_roundg k1
      case measure => have := HK1.out; omega
      case rel => exact ⟨(x3_1), (wrap64 (x4_1 + 1)), (by first | rfl | (simp; done) | (simp [*]; done)), (by first | rfl | (simp; done) | (simp [*]; done)), H', ⟨by have := HK1.out; omega⟩, ⟨by (with_reducible repeat (first | refine blk_drewN ?_ _ | refine blk_drew ?_ | refine blk_alloc ?_ _)); exact BK201.out⟩, ⟨by repeat (first | (with_reducible first | exact HB.out | apply below_alloc | apply pw_below_drewN | apply below_drew1 | refine below_set ?_ GE201.out) | exact HB.out)⟩⟩
    ·rw [if_neg c4] at H
     exact absurd H (by simp)
   ·rw [if_neg c3] at H
    have c3b0 : decide (x4_1 < (l0_3.length : Int)) = false := decide_eq_false c3
    clear c3
    obtain rfl := Option.some.inj H
    obtain ⟨hcz11_0, hcz11_1, hcz11_2, hcz11_3, -⟩ := cells_4 BK201.out trivial
    obtain ⟨hfz11_0, hfz11_1, hfz11_2, hfz11_3, -⟩ := frz_4 BK201.out
    go_wp2
    go_ret
    exact ⟨by first | rfl | (simp [errW_none, errW_some] <;> rfl) | (simp [*, errW_none, errW_some] <;> rfl), by repeat (first | (with_reducible first | exact HB.out | apply below_alloc | apply pw_below_drewN | apply below_drew1 | refine below_set ?_ GE201.out) | exact HB.out)⟩

end Go.Proofs.Ytoaddpfoecggpaa.PT
