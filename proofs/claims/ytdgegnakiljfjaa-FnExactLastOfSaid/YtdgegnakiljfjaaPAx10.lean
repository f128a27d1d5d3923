-- Written for this claim by the session's program pp.py, out of the kit's print and the seat's translation.
import Derived.Test.YtdgegnakiljfjaaPAx0
import Derived.Test.YtdgegnakiljfjaaPAx3
import Derived.Test.YtdgegnakiljfjaaPAx6
namespace Go.Proofs.Ytdgegnakiljfjaa.PA
open Go.RowKit Go.Proofs.YtdgegnakiljfjaaW.PrintWords Go.Proofs.YtdgegnakiljfjaaW.PrintLast Go.Proofs.YtdgegnakiljfjaaW.PrintMore
attribute [local go_sem] max2_int min2_int max_two min_two max_three min_three max_four min_four   -- for this text's walks alone
set_option linter.unusedVariables false
set_option linter.unusedSimpArgs false

/-! ### spec_LastOf: function 40 -/
def spec_LastOf.l0 : Nat → Int → Int → Int → List (S92) → List (S94) → Int → List (S109) → List (S75) → Option (Int × Int × Int × Int × Bool)
 | 0, _, _, _, _, _, _, _, _ => none
 | k + 1, x1, x6, x356000, x356001, x356002, x356003, x356004, x356005 => if x6 < (x356005.length : Int) then (if 0 ≤ x6 then (if ((rd_T75 x356005 x6).f0) = x1 then (some ((rd_T75 x356005 x6).f0, (rd_T75 x356005 x6).f1, (rd_T75 x356005 x6).f2.f0, (rd_T75 x356005 x6).f2.f1, true)) else (spec_LastOf.l0 k x1 (wrap64 (x6 + 1)) x356000 x356001 x356002 x356003 x356004 x356005)) else (none)) else (some (0, 0, 0, 0, false))
def spec_LastOf.f (k : Nat) (a0_0 : Int) (l0_1 : List (S92)) (l0_2 : List (S94)) (a0_3 : Int) (l0_4 : List (S109)) (l0_5 : List (S75)) (a1 : Int) : Option (Int × Int × Int × Int × Bool) := (spec_StateOk.f k a0_0 l0_1 l0_2 a0_3 l0_4 l0_5).bind fun t357 => (if t357 = true then (spec_LastOf.l0 k a1 0 a0_0 l0_1 l0_2 a0_3 l0_4 l0_5) else (some (0, 0, 0, 0, false)))
set_option maxHeartbeats 8000000 in
set_option maxRecDepth 100000 in
theorem spec_LastOf.calls (k : Nat) (a0_0 : Int) (A0_1 : Option Addr) (c0_1 : Nat) (l0_1 : List (S92)) (A0_2 : Option Addr) (c0_2 : Nat) (l0_2 : List (S94)) (a0_3 : Int) (A0_4 : Option Addr) (c0_4 : Nat) (l0_4 : List (S109)) (A0_5 : Option Addr) (c0_5 : Nat) (l0_5 : List (S75)) (a1 : Int) (r1 : Int) (r2 : Int) (r3 : Int) (r4 : Int) (r5 : Bool) (w : World) (hr0_1 : Kd.C k92 w A0_1 l0_1.length l0_1) (hc0_1 : l0_1.length ≤ c0_1) (hr0_2 : Kd.C k94 w A0_2 l0_2.length l0_2) (hc0_2 : l0_2.length ≤ c0_2) (hr0_4 : Kd.C k109 w A0_4 l0_4.length l0_4) (hc0_4 : l0_4.length ≤ c0_4) (hr0_5 : Kd.C k75 w A0_5 l0_5.length l0_5) (hc0_5 : l0_5.length ≤ c0_5) (h : spec_LastOf.f k a0_0 l0_1 l0_2 a0_3 l0_4 l0_5 a1 = some (r1, r2, r3, r4, r5)) :
  Calls Try.prog 40 #[.agg #[.int .i64 a0_0, .slice A0_1 l0_1.length c0_1, .slice A0_2 l0_2.length c0_2, .int .i64 a0_3, .slice A0_4 l0_4.length c0_4, .slice A0_5 l0_5.length c0_5], .int .i64 a1] w fun e w' => e = .returned (.tuple #[.agg #[.int .i64 r1, .int .i64 r2, .int .i64 r3, .int .i64 r4], .bool r5]) ∧ Below w.heap.size w w' := by
 have hu35 := Try.underlying35
 have hu75 := Try.underlying75
 have HR0_1 := Aside0.mk hr0_1
 have HC0_1 := Aside0.mk hc0_1
 clear hr0_1 hc0_1
 have HR0_2 := Aside0.mk hr0_2
 have HC0_2 := Aside0.mk hc0_2
 clear hr0_2 hc0_2
 have HR0_4 := Aside0.mk hr0_4
 have HC0_4 := Aside0.mk hc0_4
 clear hr0_4 hc0_4
 have HR0_5 := Aside0.mk hr0_5
 have HC0_5 := Aside0.mk hc0_5
 clear hr0_5 hc0_5
 have HB := Aside0.mk (Below.refl w.heap.size w)
 have H : ((spec_StateOk.f k a0_0 l0_1 l0_2 a0_3 l0_4 l0_5).bind fun t357 => (if t357 = true then (spec_LastOf.l0 k a1 0 a0_0 l0_1 l0_2 a0_3 l0_4 l0_5) else (some (0, 0, 0, 0, false)))) = some (r1, r2, r3, r4, r5) := h
 clear h
 replace H := Option.bind_eq_some_iff.mp H
 obtain ⟨t357, A30, H⟩ := H
 replace H : (if t357 = true then (spec_LastOf.l0 k a1 0 a0_0 l0_1 l0_2 a0_3 l0_4 l0_5) else (some (0, 0, 0, 0, false))) = some (r1, r2, r3, r4, r5) := H
 have A3 := Aside0.mk A30
 clear A30
 by_cases c4 : t357 = true
 ·subst c4
  have H1 : (spec_LastOf.l0 k a1 0 a0_0 l0_1 l0_2 a0_3 l0_4 l0_5) = some (r1, r2, r3, r4, r5) := by rw [if_pos rfl] at H; exact H
  clear H
  have H := H1
  clear H1
  have H' := Aside0.mk H
  clear H
  go_enter Try.func40, Try.ntmps40
  go_wp2_with (first | ((with_reducible refine gate_dst (N := 2) rfl ?_); refine bx_ 2 #[.int .i64 a0_0, .slice A0_1 l0_1.length c0_1, .slice A0_2 l0_2.length c0_2, .int .i64 a0_3, .slice A0_4 l0_4.length c0_4, .slice A0_5 l0_5.length c0_5] 35 (h := ?_); intro gb355 hg w5 hbox hb; have BK355 := Aside0.mk (hbox); have GW355 := Aside0.mk ((by rw [hg]; exact (below_size bel) : w.heap.size ≤ gb355)); have GE355 := GW355; replace HB := Aside0.mk (below_step bel hb); clear hb hbox hg) | ((with_reducible refine gate_dst (N := 4) rfl ?_); refine bx_ 4 #[.int .i64 0, .int .i64 0, .int .i64 0, .int .i64 0] 75 (h := ?_); intro gb356 hg w6 hbox hb; have BK356 := Aside0.mk (hbox); have GW356 := Aside0.mk ((by rw [hg]; exact (below_size bel) : w.heap.size ≤ gb356)); have GE356 := GW356; have NB355_356 := Aside0.mk ((by rw [hg]; exact Nat.ne_of_lt (blt BK355) : gb355 ≠ gb356)); have NB356_355 := Aside0.mk NB355_356.out.symm; replace BK355 := Aside0.mk (blb BK355 hb); replace HB := Aside0.mk (below_step bel hb); clear hb hbox hg; have hnb7 := NB355_356.out; have hnc7 := NB356_355.out; obtain ⟨hcz8_0, hcz8_1, hcz8_2, hcz8_3, hcz8_4, hcz8_5, -⟩ := cells_6 BK355.out trivial; obtain ⟨hfz8_0, hfz8_1, hfz8_2, hfz8_3, hfz8_4, hfz8_5, -⟩ := frz_6 BK355.out) | ((with_reducible refine gate_callee (f := 16) rfl ?_); refine gl_ (some 8) Try.func16 #[.agg #[.int .i64 a0_0, .slice A0_1 l0_1.length c0_1, .slice A0_2 l0_2.length c0_2, .int .i64 a0_3, .slice A0_4 l0_4.length c0_4, .slice A0_5 l0_5.length c0_5]] (h := ?_); (with_reducible refine (spec_StateOk.calls k a0_0 _ _ l0_1 _ _ l0_2 a0_3 _ _ l0_4 _ _ l0_5 true _ ?side1 ?side2 ?side3 ?side4 ?side5 ?side6 ?side7 ?side8 A3.out).mono ?_); (case side1 => exact kcb); (case side2 => exact HC0_1.out); (case side3 => exact kcb); (case side4 => exact HC0_2.out); (case side5 => exact kcb); (case side6 => exact HC0_4.out); (case side7 => exact kcb); (case side8 => exact HC0_5.out); rintro e w9 ⟨rfl, hb⟩; refine ⟨_, rfl, ?_⟩; replace BK355 := Aside0.mk (blb BK355 hb); replace BK356 := Aside0.mk (blb BK356 hb); replace HB := Aside0.mk (below_step bel hb); (try clear hb); (try clear hb2); (try clear hk); (try clear hi)))
  go_loopg [6] k (fun kq v6 w' => ∃ (x6_1 : Int) (x357000_1 : Int) (x357001_1 : Int) (x357002_1 : Int) (x357003_1 : Int), v6 = .int .i64 x6_1 ∧ Aside0 (spec_LastOf.l0 kq a1 x6_1 a0_0 l0_1 l0_2 a0_3 l0_4 l0_5 = some (r1, r2, r3, r4, r5)) ∧ Aside0 (kq ≤ k) ∧ Aside0 (w'.heap[gb355]? = some (.cells #[.int .i64 a0_0, (.slice A0_1 l0_1.length c0_1), (.slice A0_2 l0_2.length c0_2), .int .i64 a0_3, (.slice A0_4 l0_4.length c0_4), (.slice A0_5 l0_5.length c0_5)] 35 (0, 0))) ∧ Aside0 (w'.heap[gb356]? = some (.cells #[.int .i64 x357000_1, .int .i64 x357001_1, .int .i64 x357002_1, .int .i64 x357003_1] 75 (0, 0))) ∧ Aside0 (Below w.heap.size w w'))
  case atStart => exact ⟨(0), (0), (0), (0), (0), rs_, H', ⟨Nat.le_refl _⟩, ⟨by (with_reducible repeat (first | refine blk_drewN ?_ _ | refine blk_drew ?_ | refine blk_alloc ?_ _)); exact BK355.out⟩, ⟨by (with_reducible repeat (first | refine blk_drewN ?_ _ | refine blk_drew ?_ | refine blk_alloc ?_ _)); exact BK356.out⟩, ⟨bel⟩⟩
  case round =>
   clear H'
   try clear c1; try clear p2; try clear c4; try clear c7; try clear hcz8_0; try clear hcz8_1; try clear hcz8_2; try clear hcz8_3; try clear hcz8_4; try clear hcz8_5; try clear hfz8_0; try clear hfz8_1; try clear hfz8_2; try clear hfz8_3; try clear hfz8_4; try clear hfz8_5
   obtain ⟨x6_1, x357000_1, x357001_1, x357002_1, x357003_1, rfl, HA, HK1, BK355, BK356, HB⟩ := hrel
   cases gk with
   | zero => exact absurd HA.out (by simp [spec_LastOf.l0])
   | succ k1 =>
    have H := HA.out
    clear HA
    simp only [spec_LastOf.l0] at H
    by_cases c10 : x6_1 < (l0_5.length : Int)
    ·rw [if_pos c10] at H
     have c10b0 : decide (x6_1 < (l0_5.length : Int)) = true := decide_eq_true c10
     clear c10
     by_cases c11 : 0 ≤ x6_1
     ·rw [if_pos c11] at H
      have c11b0 : decide (0 ≤ x6_1) = true := decide_eq_true c11
      clear c11
      by_cases c12 : ((rd_T75 l0_5 x6_1).f0) = a1
      ·rw [if_pos c12] at H
       have c12b0 : (((rd_T75 l0_5 x6_1).f0) == a1) = true := beq_iff_eq.mpr c12
       have c12b1 : (((rd_T75 l0_5 x6_1).f0) != a1) = false := bne_eq_false_iff_eq.mpr c12
       clear c12
       simp only [Option.some.injEq, Prod.mk.injEq] at H
       obtain ⟨rfl, rfl, rfl, rfl, rfl⟩ := H
       have hnb13 := NB355_356.out
       have hnc13 := NB356_355.out
       obtain ⟨hcz14_0, hcz14_1, hcz14_2, hcz14_3, hcz14_4, hcz14_5, -⟩ := cells_6 BK355.out trivial
       obtain ⟨hfz14_0, hfz14_1, hfz14_2, hfz14_3, hfz14_4, hfz14_5, -⟩ := frz_6 BK355.out
       have p358 : 0 ≤ (x6_1 : Int) := od
       have q358 : x6_1 < (l0_5.length : Int) := od
       obtain ⟨ad358, e358, hx358_0, hx358_1, hx358_2, hx358_3⟩ := at_T75 HR0_5.out x6_1 p358 q358
       cases e358
       replace hx358_0 := hxb HB hx358_0
       replace hx358_1 := hxb HB hx358_1
       replace hx358_2 := hxb HB hx358_2
       replace hx358_3 := hxb HB hx358_3
       replace p358 := eq_true p358
       replace q358 := eq_true q358
       have p359 : 0 ≤ (x6_1 : Int) := od
       have q359 : x6_1 < (l0_5.length : Int) := od
       obtain ⟨ad359, e359, hx359_0, hx359_1, hx359_2, hx359_3⟩ := at_T75 HR0_5.out x6_1 p359 q359
       obtain rfl : ad358 = ad359 := (by injection e359)
       replace hx359_0 := hxb HB hx359_0
       replace hx359_1 := hxb HB hx359_1
       replace hx359_2 := hxb HB hx359_2
       replace hx359_3 := hxb HB hx359_3
       replace p359 := eq_true p359
       replace q359 := eq_true q359
       obtain ⟨hcz15_0, hcz15_1, hcz15_2, hcz15_3, -⟩ := cells_4 BK356.out trivial
       obtain ⟨hfz15_0, hfz15_1, hfz15_2, hfz15_3, -⟩ := frz_4 BK356.out
       go_wp2
       refine bodyPost_ret (results_ct rfl _ _ gb356 75 #[.int .i64 ((rd_T75 l0_5 x6_1).f0), .int .i64 ((rd_T75 l0_5 x6_1).f1), .int .i64 ((rd_T75 l0_5 x6_1).f2.f0), .int .i64 ((rd_T75 l0_5 x6_1).f2.f1)] (0, 0) _ rfl (by (with_reducible repeat (first | refine blk_drewN ?_ _ | refine blk_drew ?_ | refine blk_alloc ?_ _)); refine blk_put (cs := #[.int .i64 ((rd_T75 l0_5 x6_1).f0), .int .i64 ((rd_T75 l0_5 x6_1).f1), .int .i64 ((rd_T75 l0_5 x6_1).f2.f0), .int .i64 x357003_1]) ?_ 3 _ rfl; (with_reducible repeat (first | refine blk_drewN ?_ _ | refine blk_drew ?_ | refine blk_alloc ?_ _)); refine blk_put (cs := #[.int .i64 ((rd_T75 l0_5 x6_1).f0), .int .i64 ((rd_T75 l0_5 x6_1).f1), .int .i64 x357002_1, .int .i64 x357003_1]) ?_ 2 _ rfl; (with_reducible repeat (first | refine blk_drewN ?_ _ | refine blk_drew ?_ | refine blk_alloc ?_ _)); refine blk_put (cs := #[.int .i64 ((rd_T75 l0_5 x6_1).f0), .int .i64 x357001_1, .int .i64 x357002_1, .int .i64 x357003_1]) ?_ 1 _ rfl; (with_reducible repeat (first | refine blk_drewN ?_ _ | refine blk_drew ?_ | refine blk_alloc ?_ _)); refine blk_put (cs := #[.int .i64 x357000_1, .int .i64 x357001_1, .int .i64 x357002_1, .int .i64 x357003_1]) ?_ 0 _ rfl; (with_reducible repeat (first | refine blk_drewN ?_ _ | refine blk_drew ?_ | refine blk_alloc ?_ _)); exact BK356.out) Try.underlying75 rfl (by kernel_rfl)) rfl ?_
       exact ⟨rz_, bel⟩
      rw [if_neg c12] at H
      have c12b0 : (((rd_T75 l0_5 x6_1).f0) == a1) = false := beq_eq_false_iff_ne.mpr c12
      have c12b1 : (((rd_T75 l0_5 x6_1).f0) != a1) = true := bne_iff_ne.mpr c12
      have H' := Aside0.mk H
      clear H
      have hnb16 := NB355_356.out
      have hnc16 := NB356_355.out
      obtain ⟨hcz17_0, hcz17_1, hcz17_2, hcz17_3, hcz17_4, hcz17_5, -⟩ := cells_6 BK355.out trivial
      obtain ⟨hfz17_0, hfz17_1, hfz17_2, hfz17_3, hfz17_4, hfz17_5, -⟩ := frz_6 BK355.out
      have p358 : 0 ≤ (x6_1 : Int) := od
      have q358 : x6_1 < (l0_5.length : Int) := od
      obtain ⟨ad358, e358, hx358_0, hx358_1, hx358_2, hx358_3⟩ := at_T75 HR0_5.out x6_1 p358 q358
      cases e358
      replace hx358_0 := hxb HB hx358_0
      replace hx358_1 := hxb HB hx358_1
      replace hx358_2 := hxb HB hx358_2
      replace hx358_3 := hxb HB hx358_3
      replace p358 := eq_true p358
      replace q358 := eq_true q358
      go_wp2
      go_roundg k1
      case measure => have := HK1.out; omega
      case rel => exact ⟨(wrap64 (x6_1 + 1)), (x357000_1), (x357001_1), (x357002_1), (x357003_1), rs_, H', ⟨by have := HK1.out; omega⟩, ⟨by (with_reducible repeat (first | refine blk_drewN ?_ _ | refine blk_drew ?_ | refine blk_alloc ?_ _)); exact BK355.out⟩, ⟨by (with_reducible repeat (first | refine blk_drewN ?_ _ | refine blk_drew ?_ | refine blk_alloc ?_ _)); exact BK356.out⟩, ⟨bel⟩⟩
     rw [if_neg c11] at H
     exact absurd H (by simp)
    rw [if_neg c10] at H
    have c10b0 : decide (x6_1 < (l0_5.length : Int)) = false := decide_eq_false c10
    clear c10
    simp only [Option.some.injEq, Prod.mk.injEq] at H
    obtain ⟨rfl, rfl, rfl, rfl, rfl⟩ := H
    have hnb18 := NB355_356.out
    have hnc18 := NB356_355.out
    obtain ⟨hcz19_0, hcz19_1, hcz19_2, hcz19_3, hcz19_4, hcz19_5, -⟩ := cells_6 BK355.out trivial
    obtain ⟨hfz19_0, hfz19_1, hfz19_2, hfz19_3, hfz19_4, hfz19_5, -⟩ := frz_6 BK355.out
    obtain ⟨hcz20_0, hcz20_1, hcz20_2, hcz20_3, -⟩ := cells_4 BK356.out trivial
    obtain ⟨hfz20_0, hfz20_1, hfz20_2, hfz20_3, -⟩ := frz_4 BK356.out
    go_wp2
    refine bodyPost_ret (results_ct rfl _ _ gb356 75 #[.int .i64 0, .int .i64 0, .int .i64 0, .int .i64 0] (0, 0) _ rfl (by (with_reducible repeat (first | refine blk_drewN ?_ _ | refine blk_drew ?_ | refine blk_alloc ?_ _)); refine blk_put (cs := #[.int .i64 0, .int .i64 0, .int .i64 0, .int .i64 x357003_1]) ?_ 3 _ rfl; (with_reducible repeat (first | refine blk_drewN ?_ _ | refine blk_drew ?_ | refine blk_alloc ?_ _)); refine blk_put (cs := #[.int .i64 0, .int .i64 0, .int .i64 x357002_1, .int .i64 x357003_1]) ?_ 2 _ rfl; (with_reducible repeat (first | refine blk_drewN ?_ _ | refine blk_drew ?_ | refine blk_alloc ?_ _)); refine blk_put (cs := #[.int .i64 0, .int .i64 x357001_1, .int .i64 x357002_1, .int .i64 x357003_1]) ?_ 1 _ rfl; (with_reducible repeat (first | refine blk_drewN ?_ _ | refine blk_drew ?_ | refine blk_alloc ?_ _)); refine blk_put (cs := #[.int .i64 x357000_1, .int .i64 x357001_1, .int .i64 x357002_1, .int .i64 x357003_1]) ?_ 0 _ rfl; (with_reducible repeat (first | refine blk_drewN ?_ _ | refine blk_drew ?_ | refine blk_alloc ?_ _)); exact BK356.out) Try.underlying75 rfl (by kernel_rfl)) rfl ?_
    exact ⟨rz_, bel⟩
 replace c4 := Bool.eq_false_iff.mpr c4
 subst c4
 have H1 : (some (0, 0, 0, 0, false)) = some (r1, r2, r3, r4, r5) := by rw [if_neg (show ¬ (false = true) by decide)] at H; exact H
 clear H
 have H := H1
 clear H1
 simp only [Option.some.injEq, Prod.mk.injEq] at H
 obtain ⟨rfl, rfl, rfl, rfl, rfl⟩ := H
 go_enter Try.func40, Try.ntmps40
 go_wp2_with (first | ((with_reducible refine gate_dst (N := 2) rfl ?_); refine bx_ 2 #[.int .i64 a0_0, .slice A0_1 l0_1.length c0_1, .slice A0_2 l0_2.length c0_2, .int .i64 a0_3, .slice A0_4 l0_4.length c0_4, .slice A0_5 l0_5.length c0_5] 35 (h := ?_); intro gb355 hg w21 hbox hb; have BK355 := Aside0.mk (hbox); have GW355 := Aside0.mk ((by rw [hg]; exact (below_size bel) : w.heap.size ≤ gb355)); have GE355 := GW355; replace HB := Aside0.mk (below_step bel hb); clear hb hbox hg) | ((with_reducible refine gate_dst (N := 4) rfl ?_); refine bx_ 4 #[.int .i64 0, .int .i64 0, .int .i64 0, .int .i64 0] 75 (h := ?_); intro gb356 hg w22 hbox hb; have BK356 := Aside0.mk (hbox); have GW356 := Aside0.mk ((by rw [hg]; exact (below_size bel) : w.heap.size ≤ gb356)); have GE356 := GW356; have NB355_356 := Aside0.mk ((by rw [hg]; exact Nat.ne_of_lt (blt BK355) : gb355 ≠ gb356)); have NB356_355 := Aside0.mk NB355_356.out.symm; replace BK355 := Aside0.mk (blb BK355 hb); replace HB := Aside0.mk (below_step bel hb); clear hb hbox hg; have hnb23 := NB355_356.out; have hnc23 := NB356_355.out; obtain ⟨hcz24_0, hcz24_1, hcz24_2, hcz24_3, hcz24_4, hcz24_5, -⟩ := cells_6 BK355.out trivial; obtain ⟨hfz24_0, hfz24_1, hfz24_2, hfz24_3, hfz24_4, hfz24_5, -⟩ := frz_6 BK355.out) | ((with_reducible refine gate_callee (f := 16) rfl ?_); refine gl_ (some 8) Try.func16 #[.agg #[.int .i64 a0_0, .slice A0_1 l0_1.length c0_1, .slice A0_2 l0_2.length c0_2, .int .i64 a0_3, .slice A0_4 l0_4.length c0_4, .slice A0_5 l0_5.length c0_5]] (h := ?_); (with_reducible refine (spec_StateOk.calls k a0_0 _ _ l0_1 _ _ l0_2 a0_3 _ _ l0_4 _ _ l0_5 false _ ?side1 ?side2 ?side3 ?side4 ?side5 ?side6 ?side7 ?side8 A3.out).mono ?_); (case side1 => exact kcb); (case side2 => exact HC0_1.out); (case side3 => exact kcb); (case side4 => exact HC0_2.out); (case side5 => exact kcb); (case side6 => exact HC0_4.out); (case side7 => exact kcb); (case side8 => exact HC0_5.out); rintro e w25 ⟨rfl, hb⟩; refine ⟨_, rfl, ?_⟩; replace BK355 := Aside0.mk (blb BK355 hb); replace BK356 := Aside0.mk (blb BK356 hb); replace HB := Aside0.mk (below_step bel hb); (try clear hb); (try clear hb2); (try clear hk); (try clear hi); obtain ⟨hcz26_0, hcz26_1, hcz26_2, hcz26_3, -⟩ := cells_4 BK356.out trivial; obtain ⟨hfz26_0, hfz26_1, hfz26_2, hfz26_3, -⟩ := frz_4 BK356.out))
 refine bodyPost_ret (results_ct rfl _ _ gb356 75 #[.int .i64 0, .int .i64 0, .int .i64 0, .int .i64 0] (0, 0) _ rfl (by (with_reducible repeat (first | refine blk_drewN ?_ _ | refine blk_drew ?_ | refine blk_alloc ?_ _)); refine blk_put (cs := #[.int .i64 0, .int .i64 0, .int .i64 0, .int .i64 0]) ?_ 3 _ rfl; (with_reducible repeat (first | refine blk_drewN ?_ _ | refine blk_drew ?_ | refine blk_alloc ?_ _)); refine blk_put (cs := #[.int .i64 0, .int .i64 0, .int .i64 0, .int .i64 0]) ?_ 2 _ rfl; (with_reducible repeat (first | refine blk_drewN ?_ _ | refine blk_drew ?_ | refine blk_alloc ?_ _)); refine blk_put (cs := #[.int .i64 0, .int .i64 0, .int .i64 0, .int .i64 0]) ?_ 1 _ rfl; (with_reducible repeat (first | refine blk_drewN ?_ _ | refine blk_drew ?_ | refine blk_alloc ?_ _)); refine blk_put (cs := #[.int .i64 0, .int .i64 0, .int .i64 0, .int .i64 0]) ?_ 0 _ rfl; (with_reducible repeat (first | refine blk_drewN ?_ _ | refine blk_drew ?_ | refine blk_alloc ?_ _)); exact BK356.out) Try.underlying75 rfl (by kernel_rfl)) rfl ?_
 exact ⟨rz_, bel⟩

/-! ### impl_LastOf: function 41 -/
def impl_LastOf.l0 : Nat → Int → List (S75) → Int → Int → Option (Int × Int × Int × Int × Bool)
 | 0, _, _, _, _ => none
 | k + 1, x1, x13, x14, x15 => if x15 < x14 then (if 0 ≤ x15 then (if x15 < (x13.length : Int) then (if ((rd_T75 x13 x15).f0) = x1 then (some ((rd_T75 x13 x15).f0, (rd_T75 x13 x15).f1, (rd_T75 x13 x15).f2.f0, (rd_T75 x13 x15).f2.f1, true)) else (impl_LastOf.l0 k x1 x13 x14 (wrap64 (x15 + 1)))) else (none)) else (none)) else (some (0, 0, 0, 0, false))
def impl_LastOf.f (k : Nat) (a0_0 : Int) (l0_1 : List (S92)) (l0_2 : List (S94)) (a0_3 : Int) (l0_4 : List (S109)) (l0_5 : List (S75)) (a1 : Int) : Option (Int × Int × Int × Int × Bool) := (impl_StateOk.f k a0_0 l0_1 l0_2 a0_3 l0_4 l0_5).bind fun t362 => (if t362 = true then (impl_LastOf.l0 k a1 l0_5 (l0_5.length : Int) 0) else (some (0, 0, 0, 0, false)))
set_option maxHeartbeats 8000000 in
set_option maxRecDepth 100000 in
theorem impl_LastOf.calls (k : Nat) (a0_0 : Int) (A0_1 : Option Addr) (c0_1 : Nat) (l0_1 : List (S92)) (A0_2 : Option Addr) (c0_2 : Nat) (l0_2 : List (S94)) (a0_3 : Int) (A0_4 : Option Addr) (c0_4 : Nat) (l0_4 : List (S109)) (A0_5 : Option Addr) (c0_5 : Nat) (l0_5 : List (S75)) (a1 : Int) (r1 : Int) (r2 : Int) (r3 : Int) (r4 : Int) (r5 : Bool) (w : World) (hr0_1 : Kd.C k92 w A0_1 l0_1.length l0_1) (hc0_1 : l0_1.length ≤ c0_1) (hr0_2 : Kd.C k94 w A0_2 l0_2.length l0_2) (hc0_2 : l0_2.length ≤ c0_2) (hr0_4 : Kd.C k109 w A0_4 l0_4.length l0_4) (hc0_4 : l0_4.length ≤ c0_4) (hr0_5 : Kd.C k75 w A0_5 l0_5.length l0_5) (hc0_5 : l0_5.length ≤ c0_5) (h : impl_LastOf.f k a0_0 l0_1 l0_2 a0_3 l0_4 l0_5 a1 = some (r1, r2, r3, r4, r5)) :
  Calls Try.prog 41 #[.agg #[.int .i64 a0_0, .slice A0_1 l0_1.length c0_1, .slice A0_2 l0_2.length c0_2, .int .i64 a0_3, .slice A0_4 l0_4.length c0_4, .slice A0_5 l0_5.length c0_5], .int .i64 a1] w fun e w' => e = .returned (.tuple #[.agg #[.int .i64 r1, .int .i64 r2, .int .i64 r3, .int .i64 r4], .bool r5]) ∧ Below w.heap.size w w' := by
 have hu35 := Try.underlying35
 have hu75 := Try.underlying75
 have HR0_1 := Aside0.mk hr0_1
 have HC0_1 := Aside0.mk hc0_1
 clear hr0_1 hc0_1
 have HR0_2 := Aside0.mk hr0_2
 have HC0_2 := Aside0.mk hc0_2
 clear hr0_2 hc0_2
 have HR0_4 := Aside0.mk hr0_4
 have HC0_4 := Aside0.mk hc0_4
 clear hr0_4 hc0_4
 have HR0_5 := Aside0.mk hr0_5
 have HC0_5 := Aside0.mk hc0_5
 clear hr0_5 hc0_5
 have HB := Aside0.mk (Below.refl w.heap.size w)
 have H : ((impl_StateOk.f k a0_0 l0_1 l0_2 a0_3 l0_4 l0_5).bind fun t362 => (if t362 = true then (impl_LastOf.l0 k a1 l0_5 (l0_5.length : Int) 0) else (some (0, 0, 0, 0, false)))) = some (r1, r2, r3, r4, r5) := h
 clear h
 replace H := Option.bind_eq_some_iff.mp H
 obtain ⟨t362, A30, H⟩ := H
 replace H : (if t362 = true then (impl_LastOf.l0 k a1 l0_5 (l0_5.length : Int) 0) else (some (0, 0, 0, 0, false))) = some (r1, r2, r3, r4, r5) := H
 have A3 := Aside0.mk A30
 clear A30
 by_cases c4 : t362 = true
 ·subst c4
  have H1 : (impl_LastOf.l0 k a1 l0_5 (l0_5.length : Int) 0) = some (r1, r2, r3, r4, r5) := by rw [if_pos rfl] at H; exact H
  clear H
  have H := H1
  clear H1
  have H' := Aside0.mk H
  clear H
  go_enter Try.func41, Try.ntmps41
  go_wp2_with (first | ((with_reducible refine gate_dst (N := 2) rfl ?_); refine bx_ 2 #[.int .i64 a0_0, .slice A0_1 l0_1.length c0_1, .slice A0_2 l0_2.length c0_2, .int .i64 a0_3, .slice A0_4 l0_4.length c0_4, .slice A0_5 l0_5.length c0_5] 35 (h := ?_); intro gb360 hg w5 hbox hb; have BK360 := Aside0.mk (hbox); have GW360 := Aside0.mk ((by rw [hg]; exact (below_size bel) : w.heap.size ≤ gb360)); have GE360 := GW360; replace HB := Aside0.mk (below_step bel hb); clear hb hbox hg) | ((with_reducible refine gate_dst (N := 4) rfl ?_); refine bx_ 4 #[.int .i64 0, .int .i64 0, .int .i64 0, .int .i64 0] 75 (h := ?_); intro gb361 hg w6 hbox hb; have BK361 := Aside0.mk (hbox); have GW361 := Aside0.mk ((by rw [hg]; exact (below_size bel) : w.heap.size ≤ gb361)); have GE361 := GW361; have NB360_361 := Aside0.mk ((by rw [hg]; exact Nat.ne_of_lt (blt BK360) : gb360 ≠ gb361)); have NB361_360 := Aside0.mk NB360_361.out.symm; replace BK360 := Aside0.mk (blb BK360 hb); replace HB := Aside0.mk (below_step bel hb); clear hb hbox hg; have hnb7 := NB360_361.out; have hnc7 := NB361_360.out; obtain ⟨hcz8_0, hcz8_1, hcz8_2, hcz8_3, hcz8_4, hcz8_5, -⟩ := cells_6 BK360.out trivial; obtain ⟨hfz8_0, hfz8_1, hfz8_2, hfz8_3, hfz8_4, hfz8_5, -⟩ := frz_6 BK360.out) | ((with_reducible refine gate_callee (f := 18) rfl ?_); refine gl_ (some 9) Try.func18 #[.agg #[.int .i64 a0_0, .slice A0_1 l0_1.length c0_1, .slice A0_2 l0_2.length c0_2, .int .i64 a0_3, .slice A0_4 l0_4.length c0_4, .slice A0_5 l0_5.length c0_5]] (h := ?_); (with_reducible refine (impl_StateOk.calls k a0_0 _ _ l0_1 _ _ l0_2 a0_3 _ _ l0_4 _ _ l0_5 true _ ?side1 ?side2 ?side3 ?side4 ?side5 ?side6 ?side7 ?side8 A3.out).mono ?_); (case side1 => exact kcb); (case side2 => exact HC0_1.out); (case side3 => exact kcb); (case side4 => exact HC0_2.out); (case side5 => exact kcb); (case side6 => exact HC0_4.out); (case side7 => exact kcb); (case side8 => exact HC0_5.out); rintro e w9 ⟨rfl, hb⟩; refine ⟨_, rfl, ?_⟩; replace BK360 := Aside0.mk (blb BK360 hb); replace BK361 := Aside0.mk (blb BK361 hb); replace HB := Aside0.mk (below_step bel hb); (try clear hb); (try clear hb2); (try clear hk); (try clear hi); obtain ⟨hcz10_0, hcz10_1, hcz10_2, hcz10_3, hcz10_4, hcz10_5, -⟩ := cells_6 BK360.out trivial; obtain ⟨hfz10_0, hfz10_1, hfz10_2, hfz10_3, hfz10_4, hfz10_5, -⟩ := frz_6 BK360.out))
  go_loopg [15] k (fun kq v15 w' => ∃ (x15_1 : Int) (x362000_1 : Int) (x362001_1 : Int) (x362002_1 : Int) (x362003_1 : Int), v15 = .int .i64 x15_1 ∧ Aside0 (impl_LastOf.l0 kq a1 l0_5 (l0_5.length : Int) x15_1 = some (r1, r2, r3, r4, r5)) ∧ Aside0 (kq ≤ k) ∧ Aside0 (w'.heap[gb360]? = some (.cells #[.int .i64 a0_0, (.slice A0_1 l0_1.length c0_1), (.slice A0_2 l0_2.length c0_2), .int .i64 a0_3, (.slice A0_4 l0_4.length c0_4), (.slice A0_5 l0_5.length c0_5)] 35 (0, 0))) ∧ Aside0 (w'.heap[gb361]? = some (.cells #[.int .i64 x362000_1, .int .i64 x362001_1, .int .i64 x362002_1, .int .i64 x362003_1] 75 (0, 0))) ∧ Aside0 (Below w.heap.size w w'))
  case atStart => exact ⟨(0), (0), (0), (0), (0), rs_, H', ⟨Nat.le_refl _⟩, ⟨by (with_reducible repeat (first | refine blk_drewN ?_ _ | refine blk_drew ?_ | refine blk_alloc ?_ _)); exact BK360.out⟩, ⟨by (with_reducible repeat (first | refine blk_drewN ?_ _ | refine blk_drew ?_ | refine blk_alloc ?_ _)); exact BK361.out⟩, ⟨bel⟩⟩
  case round =>
   clear H'
   try clear c1; try clear p2; try clear c4; try clear c7; try clear hcz10_0; try clear hcz10_1; try clear hcz10_2; try clear hcz10_3; try clear hcz10_4; try clear hcz10_5; try clear hcz8_0; try clear hcz8_1; try clear hcz8_2; try clear hcz8_3; try clear hcz8_4; try clear hcz8_5; try clear hfz10_0; try clear hfz10_1; try clear hfz10_2; try clear hfz10_3; try clear hfz10_4; try clear hfz10_5; try clear hfz8_0; try clear hfz8_1; try clear hfz8_2; try clear hfz8_3; try clear hfz8_4; try clear hfz8_5
   obtain ⟨x15_1, x362000_1, x362001_1, x362002_1, x362003_1, rfl, HA, HK1, BK360, BK361, HB⟩ := hrel
   cases gk with
   | zero => exact absurd HA.out (by simp [impl_LastOf.l0])
   | succ k1 =>
    have H := HA.out
    clear HA
    simp only [impl_LastOf.l0] at H
    by_cases c11 : x15_1 < (l0_5.length : Int)
    ·rw [if_pos c11] at H
     have c11b0 : decide (x15_1 < (l0_5.length : Int)) = true := decide_eq_true c11
     clear c11
     by_cases c12 : 0 ≤ x15_1
     ·rw [if_pos c12] at H
      have c12b0 : decide (0 ≤ x15_1) = true := decide_eq_true c12
      clear c12
      by_cases c13 : x15_1 < (l0_5.length : Int)
      ·rw [if_pos c13] at H
       have c13b0 : decide (x15_1 < (l0_5.length : Int)) = true := decide_eq_true c13
       clear c13
       by_cases c14 : ((rd_T75 l0_5 x15_1).f0) = a1
       ·rw [if_pos c14] at H
        have c14b0 : (((rd_T75 l0_5 x15_1).f0) == a1) = true := beq_iff_eq.mpr c14
        have c14b1 : (((rd_T75 l0_5 x15_1).f0) != a1) = false := bne_eq_false_iff_eq.mpr c14
        clear c14
        simp only [Option.some.injEq, Prod.mk.injEq] at H
        obtain ⟨rfl, rfl, rfl, rfl, rfl⟩ := H
        have p363 : 0 ≤ (x15_1 : Int) := od
        have q363 : x15_1 < (l0_5.length : Int) := od
        obtain ⟨ad363, e363, hx363_0, hx363_1, hx363_2, hx363_3⟩ := at_T75 HR0_5.out x15_1 p363 q363
        cases e363
        replace hx363_0 := hxb HB hx363_0
        replace hx363_1 := hxb HB hx363_1
        replace hx363_2 := hxb HB hx363_2
        replace hx363_3 := hxb HB hx363_3
        replace p363 := eq_true p363
        replace q363 := eq_true q363
        go_wp2_with (first | ((with_reducible refine gate_dst (N := 7) rfl ?_); refine bx_ 7 #[.int .i64 0, .int .i64 0, .int .i64 0, .int .i64 0] 75 (h := ?_); intro gb364 hg w15 hbox hb; have BK364 := Aside0.mk (hbox); have GW364 := Aside0.mk ((by rw [hg]; exact (below_size bel) : w.heap.size ≤ gb364)); have GE364 := GW364; have NB360_364 := Aside0.mk ((by rw [hg]; exact Nat.ne_of_lt (blt BK360) : gb360 ≠ gb364)); have NB364_360 := Aside0.mk NB360_364.out.symm; have NB361_364 := Aside0.mk ((by rw [hg]; exact Nat.ne_of_lt (blt BK361) : gb361 ≠ gb364)); have NB364_361 := Aside0.mk NB361_364.out.symm; replace BK360 := Aside0.mk (blb BK360 hb); replace BK361 := Aside0.mk (blb BK361 hb); replace HB := Aside0.mk (below_step bel hb); clear hb hbox hg; have hnb16 := NB364_360.out; have hnc16 := NB360_364.out; have hnb17 := NB364_361.out; have hnc17 := NB361_364.out; obtain ⟨hcz18_0, hcz18_1, hcz18_2, hcz18_3, -⟩ := cells_4 BK364.out trivial; obtain ⟨hfz18_0, hfz18_1, hfz18_2, hfz18_3, -⟩ := frz_4 BK364.out; have hnb19 := NB361_360.out; have hnc19 := NB360_361.out; obtain ⟨hcz20_0, hcz20_1, hcz20_2, hcz20_3, -⟩ := cells_4 BK361.out trivial; obtain ⟨hfz20_0, hfz20_1, hfz20_2, hfz20_3, -⟩ := frz_4 BK361.out))
        refine bodyPost_ret (results_ct rfl _ _ gb361 75 #[.int .i64 ((rd_T75 l0_5 x15_1).f0), .int .i64 ((rd_T75 l0_5 x15_1).f1), .int .i64 ((rd_T75 l0_5 x15_1).f2.f0), .int .i64 ((rd_T75 l0_5 x15_1).f2.f1)] (0, 0) _ rfl (by (with_reducible repeat (first | refine blk_drewN ?_ _ | refine blk_drew ?_ | refine blk_alloc ?_ _)); refine blk_put (cs := #[.int .i64 ((rd_T75 l0_5 x15_1).f0), .int .i64 ((rd_T75 l0_5 x15_1).f1), .int .i64 ((rd_T75 l0_5 x15_1).f2.f0), .int .i64 x362003_1]) ?_ 3 _ rfl; (with_reducible repeat (first | refine blk_drewN ?_ _ | refine blk_drew ?_ | refine blk_alloc ?_ _)); refine blk_put (cs := #[.int .i64 ((rd_T75 l0_5 x15_1).f0), .int .i64 ((rd_T75 l0_5 x15_1).f1), .int .i64 x362002_1, .int .i64 x362003_1]) ?_ 2 _ rfl; (with_reducible repeat (first | refine blk_drewN ?_ _ | refine blk_drew ?_ | refine blk_alloc ?_ _)); refine blk_put (cs := #[.int .i64 ((rd_T75 l0_5 x15_1).f0), .int .i64 x362001_1, .int .i64 x362002_1, .int .i64 x362003_1]) ?_ 1 _ rfl; (with_reducible repeat (first | refine blk_drewN ?_ _ | refine blk_drew ?_ | refine blk_alloc ?_ _)); refine blk_put (cs := #[.int .i64 x362000_1, .int .i64 x362001_1, .int .i64 x362002_1, .int .i64 x362003_1]) ?_ 0 _ rfl; (with_reducible repeat (first | refine blk_drewN ?_ _ | refine blk_drew ?_ | refine blk_alloc ?_ _)); refine blk_far ?_ NB361_364.out _; (with_reducible repeat (first | refine blk_drewN ?_ _ | refine blk_drew ?_ | refine blk_alloc ?_ _)); refine blk_far ?_ NB361_364.out _; (with_reducible repeat (first | refine blk_drewN ?_ _ | refine blk_drew ?_ | refine blk_alloc ?_ _)); refine blk_far ?_ NB361_364.out _; (with_reducible repeat (first | refine blk_drewN ?_ _ | refine blk_drew ?_ | refine blk_alloc ?_ _)); refine blk_far ?_ NB361_364.out _; (with_reducible repeat (first | refine blk_drewN ?_ _ | refine blk_drew ?_ | refine blk_alloc ?_ _)); exact BK361.out) Try.underlying75 rfl (by kernel_rfl)) rfl ?_
        exact ⟨rz_, bel⟩
       rw [if_neg c14] at H
       have c14b0 : (((rd_T75 l0_5 x15_1).f0) == a1) = false := beq_eq_false_iff_ne.mpr c14
       have c14b1 : (((rd_T75 l0_5 x15_1).f0) != a1) = true := bne_iff_ne.mpr c14
       have H' := Aside0.mk H
       clear H
       have p363 : 0 ≤ (x15_1 : Int) := od
       have q363 : x15_1 < (l0_5.length : Int) := od
       obtain ⟨ad363, e363, hx363_0, hx363_1, hx363_2, hx363_3⟩ := at_T75 HR0_5.out x15_1 p363 q363
       cases e363
       replace hx363_0 := hxb HB hx363_0
       replace hx363_1 := hxb HB hx363_1
       replace hx363_2 := hxb HB hx363_2
       replace hx363_3 := hxb HB hx363_3
       replace p363 := eq_true p363
       replace q363 := eq_true q363
       go_wp2_with (first | ((with_reducible refine gate_dst (N := 7) rfl ?_); refine bx_ 7 #[.int .i64 0, .int .i64 0, .int .i64 0, .int .i64 0] 75 (h := ?_); intro gb364 hg w21 hbox hb; have BK364 := Aside0.mk (hbox); have GW364 := Aside0.mk ((by rw [hg]; exact (below_size bel) : w.heap.size ≤ gb364)); have GE364 := GW364; have NB360_364 := Aside0.mk ((by rw [hg]; exact Nat.ne_of_lt (blt BK360) : gb360 ≠ gb364)); have NB364_360 := Aside0.mk NB360_364.out.symm; have NB361_364 := Aside0.mk ((by rw [hg]; exact Nat.ne_of_lt (blt BK361) : gb361 ≠ gb364)); have NB364_361 := Aside0.mk NB361_364.out.symm; replace BK360 := Aside0.mk (blb BK360 hb); replace BK361 := Aside0.mk (blb BK361 hb); replace HB := Aside0.mk (below_step bel hb); clear hb hbox hg; have hnb22 := NB364_360.out; have hnc22 := NB360_364.out; have hnb23 := NB364_361.out; have hnc23 := NB361_364.out; obtain ⟨hcz24_0, hcz24_1, hcz24_2, hcz24_3, -⟩ := cells_4 BK364.out trivial; obtain ⟨hfz24_0, hfz24_1, hfz24_2, hfz24_3, -⟩ := frz_4 BK364.out))
       go_roundg k1
       case measure => have := HK1.out; omega
       case rel => exact ⟨(wrap64 (x15_1 + 1)), (x362000_1), (x362001_1), (x362002_1), (x362003_1), rs_, H', ⟨by have := HK1.out; omega⟩, ⟨by (with_reducible repeat (first | refine blk_drewN ?_ _ | refine blk_drew ?_ | refine blk_alloc ?_ _)); refine blk_far ?_ NB360_364.out _; (with_reducible repeat (first | refine blk_drewN ?_ _ | refine blk_drew ?_ | refine blk_alloc ?_ _)); refine blk_far ?_ NB360_364.out _; (with_reducible repeat (first | refine blk_drewN ?_ _ | refine blk_drew ?_ | refine blk_alloc ?_ _)); refine blk_far ?_ NB360_364.out _; (with_reducible repeat (first | refine blk_drewN ?_ _ | refine blk_drew ?_ | refine blk_alloc ?_ _)); refine blk_far ?_ NB360_364.out _; (with_reducible repeat (first | refine blk_drewN ?_ _ | refine blk_drew ?_ | refine blk_alloc ?_ _)); exact BK360.out⟩, ⟨by (with_reducible repeat (first | refine blk_drewN ?_ _ | refine blk_drew ?_ | refine blk_alloc ?_ _)); refine blk_far ?_ NB361_364.out _; (with_reducible repeat (first | refine blk_drewN ?_ _ | refine blk_drew ?_ | refine blk_alloc ?_ _)); refine blk_far ?_ NB361_364.out _; (with_reducible repeat (first | refine blk_drewN ?_ _ | refine blk_drew ?_ | refine blk_alloc ?_ _)); refine blk_far ?_ NB361_364.out _; (with_reducible repeat (first | refine blk_drewN ?_ _ | refine blk_drew ?_ | refine blk_alloc ?_ _)); refine blk_far ?_ NB361_364.out _; (with_reducible repeat (first | refine blk_drewN ?_ _ | refine blk_drew ?_ | refine blk_alloc ?_ _)); exact BK361.out⟩, ⟨bel⟩⟩
      rw [if_neg c13] at H
      exact absurd H (by simp)
     rw [if_neg c12] at H
     exact absurd H (by simp)
    rw [if_neg c11] at H
    have c11b0 : decide (x15_1 < (l0_5.length : Int)) = false := decide_eq_false c11
    clear c11
    simp only [Option.some.injEq, Prod.mk.injEq] at H
    obtain ⟨rfl, rfl, rfl, rfl, rfl⟩ := H
    have hnb25 := NB361_360.out
    have hnc25 := NB360_361.out
    obtain ⟨hcz26_0, hcz26_1, hcz26_2, hcz26_3, -⟩ := cells_4 BK361.out trivial
    obtain ⟨hfz26_0, hfz26_1, hfz26_2, hfz26_3, -⟩ := frz_4 BK361.out
    go_wp2
    refine bodyPost_ret (results_ct rfl _ _ gb361 75 #[.int .i64 0, .int .i64 0, .int .i64 0, .int .i64 0] (0, 0) _ rfl (by (with_reducible repeat (first | refine blk_drewN ?_ _ | refine blk_drew ?_ | refine blk_alloc ?_ _)); refine blk_put (cs := #[.int .i64 0, .int .i64 0, .int .i64 0, .int .i64 x362003_1]) ?_ 3 _ rfl; (with_reducible repeat (first | refine blk_drewN ?_ _ | refine blk_drew ?_ | refine blk_alloc ?_ _)); refine blk_put (cs := #[.int .i64 0, .int .i64 0, .int .i64 x362002_1, .int .i64 x362003_1]) ?_ 2 _ rfl; (with_reducible repeat (first | refine blk_drewN ?_ _ | refine blk_drew ?_ | refine blk_alloc ?_ _)); refine blk_put (cs := #[.int .i64 0, .int .i64 x362001_1, .int .i64 x362002_1, .int .i64 x362003_1]) ?_ 1 _ rfl; (with_reducible repeat (first | refine blk_drewN ?_ _ | refine blk_drew ?_ | refine blk_alloc ?_ _)); refine blk_put (cs := #[.int .i64 x362000_1, .int .i64 x362001_1, .int .i64 x362002_1, .int .i64 x362003_1]) ?_ 0 _ rfl; (with_reducible repeat (first | refine blk_drewN ?_ _ | refine blk_drew ?_ | refine blk_alloc ?_ _)); exact BK361.out) Try.underlying75 rfl (by kernel_rfl)) rfl ?_
    exact ⟨rz_, bel⟩
 replace c4 := Bool.eq_false_iff.mpr c4
 subst c4
 have H1 : (some (0, 0, 0, 0, false)) = some (r1, r2, r3, r4, r5) := by rw [if_neg (show ¬ (false = true) by decide)] at H; exact H
 clear H
 have H := H1
 clear H1
 simp only [Option.some.injEq, Prod.mk.injEq] at H
 obtain ⟨rfl, rfl, rfl, rfl, rfl⟩ := H
 go_enter Try.func41, Try.ntmps41
 go_wp2_with (first | ((with_reducible refine gate_dst (N := 2) rfl ?_); refine bx_ 2 #[.int .i64 a0_0, .slice A0_1 l0_1.length c0_1, .slice A0_2 l0_2.length c0_2, .int .i64 a0_3, .slice A0_4 l0_4.length c0_4, .slice A0_5 l0_5.length c0_5] 35 (h := ?_); intro gb360 hg w27 hbox hb; have BK360 := Aside0.mk (hbox); have GW360 := Aside0.mk ((by rw [hg]; exact (below_size bel) : w.heap.size ≤ gb360)); have GE360 := GW360; replace HB := Aside0.mk (below_step bel hb); clear hb hbox hg) | ((with_reducible refine gate_dst (N := 4) rfl ?_); refine bx_ 4 #[.int .i64 0, .int .i64 0, .int .i64 0, .int .i64 0] 75 (h := ?_); intro gb361 hg w28 hbox hb; have BK361 := Aside0.mk (hbox); have GW361 := Aside0.mk ((by rw [hg]; exact (below_size bel) : w.heap.size ≤ gb361)); have GE361 := GW361; have NB360_361 := Aside0.mk ((by rw [hg]; exact Nat.ne_of_lt (blt BK360) : gb360 ≠ gb361)); have NB361_360 := Aside0.mk NB360_361.out.symm; replace BK360 := Aside0.mk (blb BK360 hb); replace HB := Aside0.mk (below_step bel hb); clear hb hbox hg; have hnb29 := NB360_361.out; have hnc29 := NB361_360.out; obtain ⟨hcz30_0, hcz30_1, hcz30_2, hcz30_3, hcz30_4, hcz30_5, -⟩ := cells_6 BK360.out trivial; obtain ⟨hfz30_0, hfz30_1, hfz30_2, hfz30_3, hfz30_4, hfz30_5, -⟩ := frz_6 BK360.out) | ((with_reducible refine gate_callee (f := 18) rfl ?_); refine gl_ (some 9) Try.func18 #[.agg #[.int .i64 a0_0, .slice A0_1 l0_1.length c0_1, .slice A0_2 l0_2.length c0_2, .int .i64 a0_3, .slice A0_4 l0_4.length c0_4, .slice A0_5 l0_5.length c0_5]] (h := ?_); (with_reducible refine (impl_StateOk.calls k a0_0 _ _ l0_1 _ _ l0_2 a0_3 _ _ l0_4 _ _ l0_5 false _ ?side1 ?side2 ?side3 ?side4 ?side5 ?side6 ?side7 ?side8 A3.out).mono ?_); (case side1 => exact kcb); (case side2 => exact HC0_1.out); (case side3 => exact kcb); (case side4 => exact HC0_2.out); (case side5 => exact kcb); (case side6 => exact HC0_4.out); (case side7 => exact kcb); (case side8 => exact HC0_5.out); rintro e w31 ⟨rfl, hb⟩; refine ⟨_, rfl, ?_⟩; replace BK360 := Aside0.mk (blb BK360 hb); replace BK361 := Aside0.mk (blb BK361 hb); replace HB := Aside0.mk (below_step bel hb); (try clear hb); (try clear hb2); (try clear hk); (try clear hi); obtain ⟨hcz32_0, hcz32_1, hcz32_2, hcz32_3, -⟩ := cells_4 BK361.out trivial; obtain ⟨hfz32_0, hfz32_1, hfz32_2, hfz32_3, -⟩ := frz_4 BK361.out))
 refine bodyPost_ret (results_ct rfl _ _ gb361 75 #[.int .i64 0, .int .i64 0, .int .i64 0, .int .i64 0] (0, 0) _ rfl (by (with_reducible repeat (first | refine blk_drewN ?_ _ | refine blk_drew ?_ | refine blk_alloc ?_ _)); refine blk_put (cs := #[.int .i64 0, .int .i64 0, .int .i64 0, .int .i64 0]) ?_ 3 _ rfl; (with_reducible repeat (first | refine blk_drewN ?_ _ | refine blk_drew ?_ | refine blk_alloc ?_ _)); refine blk_put (cs := #[.int .i64 0, .int .i64 0, .int .i64 0, .int .i64 0]) ?_ 2 _ rfl; (with_reducible repeat (first | refine blk_drewN ?_ _ | refine blk_drew ?_ | refine blk_alloc ?_ _)); refine blk_put (cs := #[.int .i64 0, .int .i64 0, .int .i64 0, .int .i64 0]) ?_ 1 _ rfl; (with_reducible repeat (first | refine blk_drewN ?_ _ | refine blk_drew ?_ | refine blk_alloc ?_ _)); refine blk_put (cs := #[.int .i64 0, .int .i64 0, .int .i64 0, .int .i64 0]) ?_ 0 _ rfl; (with_reducible repeat (first | refine blk_drewN ?_ _ | refine blk_drew ?_ | refine blk_alloc ?_ _)); exact BK361.out) Try.underlying75 rfl (by kernel_rfl)) rfl ?_
 exact ⟨rz_, bel⟩

end Go.Proofs.Ytdgegnakiljfjaa.PA
