-- Written for this claim by the session's program pp.py, out of the kit's print and the seat's translation.
import Derived.Test.YtoaddpfoecggpaaPTx0
import Derived.Test.YtoaddpfoecggpaaPTx4
import Derived.Test.YtoaddpfoecggpaaPTx7
namespace Go.Proofs.Ytoaddpfoecggpaa.PT
open Go.RowKit Go.Proofs.YtoaddpfoecggpaaW.PrintWords Go.Proofs.YtoaddpfoecggpaaW.PrintLast Go.Proofs.YtoaddpfoecggpaaW.PrintMore
attribute [local go_sem] max2_int min2_int max_two min_two max_three min_three max_four min_four   -- for this text's walks alone
set_option linter.unusedVariables false
set_option linter.unusedSimpArgs false

/-! ### impl_TreeLongest: function 28 -/
def impl_TreeLongest.l0 : Nat → List Int → List Int → Bool → List (List Int) → Int → Int → Option (List Int × Bool)
 | 0, _, _, _, _, _, _ => none
 | k + 1, x1, x6, x7, x11, x12, x13 => if x13 < x12 then (if 0 ≤ x13 then (if x13 < (x11.length : Int) then ((impl_HasPrefix.f x1 (rd_L1 x11 x13)).bind fun t314 => (if t314 = true then (impl_TreeLongest.l0 k x1 (rd_L1 x11 x13) true x11 x12 (wrap64 (x13 + 1))) else (impl_TreeLongest.l0 k x1 x6 x7 x11 x12 (wrap64 (x13 + 1))))) else (none)) else (none)) else (some (x6, x7))
def impl_TreeLongest.f (k : Nat) (l0_0 : List Int) (a0_1 : Bool) (a0_2 : Int) (l0_3 : List (S30)) (l1 : List Int) : Option (List Int × Bool) := (impl_TreeKeys.f k l0_0 a0_1 a0_2 l0_3 ([] : List Int)).bind fun t310 => (impl_TreeLongest.l0 k l1 ([] : List Int) false t310 (t310.length : Int) 0)
set_option maxHeartbeats 8000000 in
set_option maxRecDepth 100000 in
theorem impl_TreeLongest.calls (k : Nat) (A0_0 : Option Addr) (c0_0 : Nat) (l0_0 : List Int) (a0_1 : Bool) (a0_2 : Int) (A0_3 : Option Addr) (c0_3 : Nat) (l0_3 : List (S30)) (A1 : Option Addr) (c1 : Nat) (l1 : List Int) (r1 : List Int) (r2 : Bool) (w : World) (hr0_0 : Kd.C (Kd.int .u8) w A0_0 l0_0.length l0_0) (hc0_0 : l0_0.length ≤ c0_0) (hr0_3 : Kd.C k30 w A0_3 l0_3.length l0_3) (hc0_3 : l0_3.length ≤ c0_3) (hr1 : Kd.C (Kd.int .u8) w A1 l1.length l1) (hc1 : l1.length ≤ c1) (h : impl_TreeLongest.f k l0_0 a0_1 a0_2 l0_3 l1 = some (r1, r2)) :
  Calls Try.prog 28 #[.agg #[.slice A0_0 l0_0.length c0_0, .bool a0_1, .int .i64 a0_2, .slice A0_3 l0_3.length c0_3], .slice A1 l1.length c1] w fun e w' => ∃ v0_ : Value, e = .returned (.tuple #[v0_, .bool r2]) ∧ Kd.R (Kd.int .u8) 5 w' w.heap.size (fun k_ => (w.heap.size ≤ k_)) v0_ r1 ∧ Below w.heap.size w w' := by
 have hu30 := Try.underlying30
 have HR0_0 := Aside0.mk hr0_0
 have HC0_0 := Aside0.mk hc0_0
 clear hr0_0 hc0_0
 have HR0_3 := Aside0.mk hr0_3
 have HC0_3 := Aside0.mk hc0_3
 clear hr0_3 hc0_3
 have HR1 := Aside0.mk hr1
 have HC1 := Aside0.mk hc1
 clear hr1 hc1
 have HB := Aside0.mk (Below.refl w.heap.size w)
 have H : ((impl_TreeKeys.f k l0_0 a0_1 a0_2 l0_3 ([] : List Int)).bind fun t310 => (impl_TreeLongest.l0 k l1 ([] : List Int) false t310 (t310.length : Int) 0)) = some (r1, r2) := h
 clear h
 replace H := Option.bind_eq_some_iff.mp H
 obtain ⟨t310, A30, H⟩ := H
 replace H : (impl_TreeLongest.l0 k l1 ([] : List Int) false t310 (t310.length : Int) 0) = some (r1, r2) := H
 have A3 := Aside0.mk A30
 clear A30
 have H' := Aside0.mk H
 clear H
 go_enter Try.func28, Try.ntmps28
 go_wp2_with (first | ((with_reducible refine gate_dst (N := 2) rfl ?_); refine bx_ 2 #[.slice A0_0 l0_0.length c0_0, .bool a0_1, .int .i64 a0_2, .slice A0_3 l0_3.length c0_3] 30 (h := ?_); intro gb309 hg w4 hbox hb; have BK309 := Aside0.mk (hbox); have GW309 := Aside0.mk ((by rw [hg]; exact (below_size bel) : w.heap.size ≤ gb309)); have GE309 := Aside0.mk ((by rw [hg]; exact (below_size bel) : w.heap.size ≤ gb309)); replace HB := Aside0.mk (below_step bel hb); clear hb hbox hg; obtain ⟨hcz5_0, hcz5_1, hcz5_2, hcz5_3, -⟩ := cells_4 BK309.out trivial; obtain ⟨hfz5_0, hfz5_1, hfz5_2, hfz5_3, -⟩ := frz_4 BK309.out) | ((with_reducible refine gate_callee (f := 27) rfl ?_); refine gl_ (some 11) Try.func27 #[.agg #[.slice A0_0 l0_0.length c0_0, .bool a0_1, .int .i64 a0_2, .slice A0_3 l0_3.length c0_3], .slice none 0 0] (h := ?_); (refine (impl_TreeKeys.calls k _ _ l0_0 a0_1 a0_2 _ _ l0_3 _ _ ([] : List Int) t310 _ ?side1 ?side2 ?side3 ?side4 ?side5 ?side6 A3.out).mono ?_); (case side1 => exact kcb); (case side2 => exact HC0_0.out); (case side3 => exact kcb); (case side4 => exact HC0_3.out); (case side5 => exact Kd.C_nil _ _); (case side6 => exact Nat.le_refl _); rintro e w6 ⟨v311, rfl, ho0, hb⟩; refine ⟨_, rfl, ?_⟩; have HO312 := Aside0.mk (Kd.R_lower (Kd.R_mono (ok' := fun k_ => (w.heap.size ≤ k_) ∧ k_ ≠ gb309) ho0 (fun k_ hk_ => ⟨(Nat.le_trans (below_size bel) hk_), (Kd.freshB (g := gb309) (o := .cells #[.slice A0_0 l0_0.length c0_0, .bool a0_1, .int .i64 a0_2, .slice A0_3 l0_3.length c0_3] 30 (0, 0)) (by (with_reducible repeat (first | refine blk_drewN ?_ _ | refine blk_drew ?_ | refine blk_alloc ?_ _)); exact BK309.out) k_ hk_)⟩)) (below_size bel)); replace BK309 := Aside0.mk (blb BK309 hb); replace HB := Aside0.mk (below_step bel hb); (try clear hb); (try clear hb2); (try clear hk); (try clear hi); (try clear ho0); obtain ⟨Ao7, co7, eo7⟩ := Kd.R_slice HO312.out; subst eo7))
 go_loopg [6, 7, 13] k (fun kq v6 v7 v13 w' => ∃ (x6_1 : List Int) (x7_1 : Bool) (x13_1 : Int), v7 = .bool x7_1 ∧ v13 = .int .i64 x13_1 ∧ Aside0 (impl_TreeLongest.l0 kq l1 x6_1 x7_1 t310 (t310.length : Int) x13_1 = some (r1, r2)) ∧ Aside0 (kq ≤ k) ∧ Aside0 (Kd.R (Kd.int .u8) 5 w' w.heap.size (fun k_ => (w.heap.size ≤ k_) ∧ some k_ ≠ ((.slice Ao7 t310.length co7) : Value).ownBlock ∧ k_ ≠ gb309) v6 x6_1) ∧ Aside0 (Kd.R (Kd.slice 5 (Kd.int .u8)) 22 w' w.heap.size (fun k_ => (w.heap.size ≤ k_) ∧ k_ ≠ gb309) (.slice Ao7 t310.length co7) t310) ∧ Aside0 (w'.heap[gb309]? = some (.cells #[(.slice A0_0 l0_0.length c0_0), .bool a0_1, .int .i64 a0_2, (.slice A0_3 l0_3.length c0_3)] 30 (0, 0))) ∧ Aside0 (Below w.heap.size w w'))
 case atStart => exact ⟨(([] : List Int)), (false), (0), (by first | rfl | (simp; done) | (simp [*]; done)), (by first | rfl | (simp; done) | (simp [*]; done)), H', ⟨Nat.le_refl _⟩, ⟨Kd.R_F (by first | exact Kd.R_nil _ _ _ _ _ | exact Kd.R_nil _ _ _ _ _ | exact Kd.R_nil _ _ _ _ _ | exact Kd.Q_nil _ _ _ _ _ | exact Kd.S_nil _ _ _ _ _)⟩, ⟨by (with_reducible repeat (first | apply Kd.R_alloc | apply Kd.R_drewN | apply Kd.R_drew)); exact HO312.out⟩, ⟨by (with_reducible repeat (first | refine blk_drewN ?_ _ | refine blk_drew ?_ | refine blk_alloc ?_ _)); exact BK309.out⟩, ⟨by repeat (first | (with_reducible first | exact HB.out | apply below_alloc | apply pw_below_drewN | apply below_drew1 | refine below_set ?_ GE309.out) | exact HB.out)⟩⟩
 case round =>
  clear H'
  try clear c1; try clear c2; try clear p2; try clear hcz5_0; try clear hcz5_1; try clear hcz5_2; try clear hcz5_3; try clear hfz5_0; try clear hfz5_1; try clear hfz5_2; try clear hfz5_3
  obtain ⟨x6_1, x7_1, x13_1, rfl, rfl, HA, HK1, HO_6, HO_11, BK309, HB⟩ := hrel
  cases gk with
  | zero => exact absurd HA.out (by simp [impl_TreeLongest.l0])
  | succ k1 =>
   have H := HA.out
   clear HA
   simp only [impl_TreeLongest.l0] at H
   by_cases c8 : x13_1 < (t310.length : Int)
   ·rw [if_pos c8] at H
    have c8b0 : decide (x13_1 < (t310.length : Int)) = true := decide_eq_true c8
    clear c8
    by_cases c9 : 0 ≤ x13_1
    ·rw [if_pos c9] at H
     have c9b0 : decide (0 ≤ x13_1) = true := decide_eq_true c9
     clear c9
     by_cases c10 : x13_1 < (t310.length : Int)
     ·rw [if_pos c10] at H
      have c10b0 : decide (x13_1 < (t310.length : Int)) = true := decide_eq_true c10
      clear c10
      replace H := Option.bind_eq_some_iff.mp H
      obtain ⟨t314, A110, H⟩ := H
      replace H : (if t314 = true then (impl_TreeLongest.l0 k1 l1 (rd_L1 t310 x13_1) true t310 (t310.length : Int) (wrap64 (x13_1 + 1))) else (impl_TreeLongest.l0 k1 l1 x6_1 x7_1 t310 (t310.length : Int) (wrap64 (x13_1 + 1)))) = some (r1, r2) := H
      have A11 := Aside0.mk A110
      clear A110
      by_cases c12 : t314 = true
      ·subst c12
       have H1 : (impl_TreeLongest.l0 k1 l1 (rd_L1 t310 x13_1) true t310 (t310.length : Int) (wrap64 (x13_1 + 1))) = some (r1, r2) := by rw [if_pos rfl] at H; exact H
       clear H
       have H := H1
       clear H1
       have H' := Aside0.mk H
       clear H
       have p313 : 0 ≤ (x13_1 : Int) := od
       have q313 : x13_1 < (t310.length : Int) := od
       obtain ⟨ad313, A313_0, c313_0, e313, hx313_0, hl313_0, hi313_0⟩ := at_L1 (Kd.R_reads' HO_11.out).2.2 x13_1 p313 q313
       cases e313
       obtain ⟨ce313, hce313, hMe313, hcc313⟩ := Kd.R_get HO_11.out [] x13_1 p313 (by first | exact q313 | exact od | (have e_ := (Kd.R_reads' HO_11.out).1; omega))
       obtain ⟨ua313_0, uc313_0, rfl, ul313_0, ge313_0⟩ := Kd.M_slice_open hMe313
       have hv313_0 := hcc313 0 _ rfl
       rw [Nat.add_zero, show ((Kd.slice 5 (Kd.int .u8))).sz = 1 from rfl, Nat.mul_one] at hv313_0
       replace hv313_0 := Option.some.inj (hv313_0.symm.trans hx313_0)
       injection hv313_0 with hva_ hvn_ hvc_
       rw [hva_] at ge313_0
       rw [hvc_] at ul313_0 ge313_0
       have HL313_0 := Aside0.mk (show Kd.R (Kd.int .u8) 5 _ w.heap.size _ _ (rd_L1 t310 x13_1) from Kd.R_mk ul313_0 ge313_0)
       clear hva_ hvn_ hvc_ ge313_0 ul313_0
       clear hcc313 hce313
       have HR313_0 := Aside0.mk hi313_0
       have HC313_0 := Aside0.mk hl313_0
       clear hi313_0 hl313_0
       replace p313 := eq_true p313
       replace q313 := eq_true q313
       go_wp2_with (first | ((with_reducible refine gate_callee (f := 31) rfl ?_); refine gl_ (some 19) Try.func31 #[.slice A1 l1.length c1, .slice A313_0 (rd_L1 t310 x13_1).length c313_0] (h := ?_); (with_reducible refine (impl_HasPrefix.calls _ _ l1 _ _ (rd_L1 t310 x13_1) true _ ?side1 ?side2 ?side3 ?side4 A11.out).mono ?_); (case side1 => exact kcb); (case side2 => exact HC1.out); (case side3 => repeat (first | exact (by repeat (first | (with_reducible exact HR313_0.out) | (with_reducible refine Kd.C_alloc ?_ _) | (with_reducible refine Kd.C_drewN ?_ _) | (with_reducible refine Kd.C_drew ?_) | exact HR313_0.out)) | (with_reducible refine Kd.C_alloc ?_ _) | (with_reducible refine Kd.C_drewN ?_ _) | (with_reducible refine Kd.C_drew ?_))); (case side4 => exact HC313_0.out); rintro e w' ⟨rfl, ⟨nd, rfl⟩⟩; refine ⟨_, rfl, ?_⟩))
       go_roundg k1
       case measure => have := HK1.out; omega
       case rel => exact ⟨(rd_L1 t310 x13_1), (true), (wrap64 (x13_1 + 1)), (by first | rfl | (simp; done) | (simp [*]; done)), (by first | rfl | (simp; done) | (simp [*]; done)), H', ⟨by have := HK1.out; omega⟩, ⟨by (with_reducible repeat (first | apply Kd.R_alloc | apply Kd.R_drewN | apply Kd.R_drew)); exact Kd.R_mono HL313_0.out (fun _ hk => ⟨hk.1.1, ⟨hk.2, hk.1.2⟩⟩)⟩, ⟨by (with_reducible repeat (first | apply Kd.R_alloc | apply Kd.R_drewN | apply Kd.R_drew)); exact HO_11.out⟩, ⟨by (with_reducible repeat (first | refine blk_drewN ?_ _ | refine blk_drew ?_ | refine blk_alloc ?_ _)); exact BK309.out⟩, ⟨by repeat (first | (with_reducible first | exact HB.out | apply below_alloc | apply pw_below_drewN | apply below_drew1 | refine below_set ?_ GE309.out) | exact HB.out)⟩⟩
      ·replace c12 := Bool.eq_false_iff.mpr c12
       subst c12
       have H1 : (impl_TreeLongest.l0 k1 l1 x6_1 x7_1 t310 (t310.length : Int) (wrap64 (x13_1 + 1))) = some (r1, r2) := by rw [if_neg (show ¬ (false = true) by decide)] at H; exact H
       clear H
       have H := H1
       clear H1
       have H' := Aside0.mk H
       clear H
       have p313 : 0 ≤ (x13_1 : Int) := od
       have q313 : x13_1 < (t310.length : Int) := od
       obtain ⟨ad313, A313_0, c313_0, e313, hx313_0, hl313_0, hi313_0⟩ := at_L1 (Kd.R_reads' HO_11.out).2.2 x13_1 p313 q313
       cases e313
       obtain ⟨ce313, hce313, hMe313, hcc313⟩ := Kd.R_get HO_11.out [] x13_1 p313 (by first | exact q313 | exact od | (have e_ := (Kd.R_reads' HO_11.out).1; omega))
       obtain ⟨ua313_0, uc313_0, rfl, ul313_0, ge313_0⟩ := Kd.M_slice_open hMe313
       have hv313_0 := hcc313 0 _ rfl
       rw [Nat.add_zero, show ((Kd.slice 5 (Kd.int .u8))).sz = 1 from rfl, Nat.mul_one] at hv313_0
       replace hv313_0 := Option.some.inj (hv313_0.symm.trans hx313_0)
       injection hv313_0 with hva_ hvn_ hvc_
       rw [hva_] at ge313_0
       rw [hvc_] at ul313_0 ge313_0
       have HL313_0 := Aside0.mk (show Kd.R (Kd.int .u8) 5 _ w.heap.size _ _ (rd_L1 t310 x13_1) from Kd.R_mk ul313_0 ge313_0)
       clear hva_ hvn_ hvc_ ge313_0 ul313_0
       clear hcc313 hce313
       have HR313_0 := Aside0.mk hi313_0
       have HC313_0 := Aside0.mk hl313_0
       clear hi313_0 hl313_0
       replace p313 := eq_true p313
       replace q313 := eq_true q313
       go_wp2_with (first | ((with_reducible refine gate_callee (f := 31) rfl ?_); refine gl_ (some 19) Try.func31 #[.slice A1 l1.length c1, .slice A313_0 (rd_L1 t310 x13_1).length c313_0] (h := ?_); (with_reducible refine (impl_HasPrefix.calls _ _ l1 _ _ (rd_L1 t310 x13_1) false _ ?side1 ?side2 ?side3 ?side4 A11.out).mono ?_); (case side1 => exact kcb); (case side2 => exact HC1.out); (case side3 => repeat (first | exact (by repeat (first | (with_reducible exact HR313_0.out) | (with_reducible refine Kd.C_alloc ?_ _) | (with_reducible refine Kd.C_drewN ?_ _) | (with_reducible refine Kd.C_drew ?_) | exact HR313_0.out)) | (with_reducible refine Kd.C_alloc ?_ _) | (with_reducible refine Kd.C_drewN ?_ _) | (with_reducible refine Kd.C_drew ?_))); (case side4 => exact HC313_0.out); rintro e w' ⟨rfl, ⟨nd, rfl⟩⟩; refine ⟨_, rfl, ?_⟩))
       go_roundg k1
       case measure => have := HK1.out; omega
       case rel => exact ⟨(x6_1), (x7_1), (wrap64 (x13_1 + 1)), (by first | rfl | (simp; done) | (simp [*]; done)), (by first | rfl | (simp; done) | (simp [*]; done)), H', ⟨by have := HK1.out; omega⟩, ⟨by (with_reducible repeat (first | apply Kd.R_alloc | apply Kd.R_drewN | apply Kd.R_drew)); exact HO_6.out⟩, ⟨by (with_reducible repeat (first | apply Kd.R_alloc | apply Kd.R_drewN | apply Kd.R_drew)); exact HO_11.out⟩, ⟨by (with_reducible repeat (first | refine blk_drewN ?_ _ | refine blk_drew ?_ | refine blk_alloc ?_ _)); exact BK309.out⟩, ⟨by repeat (first | (with_reducible first | exact HB.out | apply below_alloc | apply pw_below_drewN | apply below_drew1 | refine below_set ?_ GE309.out) | exact HB.out)⟩⟩
     ·rw [if_neg c10] at H
      exact absurd H (by simp)
    ·rw [if_neg c9] at H
     exact absurd H (by simp)
   ·rw [if_neg c8] at H
    have c8b0 : decide (x13_1 < (t310.length : Int)) = false := decide_eq_false c8
    clear c8
    simp only [Option.some.injEq, Prod.mk.injEq] at H
    obtain ⟨rfl, rfl⟩ := H
    go_wp2
    go_ret2
    exact ⟨_, by first | rfl | (simp [errW_none, errW_some] <;> rfl) | (simp [*, errW_none, errW_some] <;> rfl), by (with_reducible repeat (first | apply Kd.R_alloc | apply Kd.R_drewN | apply Kd.R_drew)); exact Kd.R_mono HO_6.out (fun _ hk => hk.1), by repeat (first | (with_reducible first | exact HB.out | apply below_alloc | apply pw_below_drewN | apply below_drew1 | refine below_set ?_ GE309.out) | exact HB.out)⟩

/-! ### spec_TreeLongest: function 36 -/
def spec_TreeLongest.l0 : Nat → List Int → List (List Int) → Int → Int → Option (List Int × Bool)
 | 0, _, _, _, _ => none
 | k + 1, x1, x6, x7, x8 => if x8 < (x6.length : Int) then (if 0 ≤ x8 then ((spec_HasPrefix.f x1 (rd_L1 x6 x8)).bind fun t321 => (if t321 = true then (if x7 < 0 then (spec_TreeLongest.l0 k x1 x6 x8 (wrap64 (x8 + 1))) else (if 0 ≤ x7 then (if x7 < (x6.length : Int) then (if ((rd_L1 x6 x8).length : Int) > ((rd_L1 x6 x7).length : Int) then (spec_TreeLongest.l0 k x1 x6 x8 (wrap64 (x8 + 1))) else (spec_TreeLongest.l0 k x1 x6 x7 (wrap64 (x8 + 1)))) else (none)) else (none))) else (spec_TreeLongest.l0 k x1 x6 x7 (wrap64 (x8 + 1))))) else (none)) else (if x7 < 0 then (some (([] : List Int), false)) else (if 0 ≤ x7 then (if x7 < (x6.length : Int) then (some (rd_L1 x6 x7, true)) else (none)) else (none)))
def spec_TreeLongest.f (k : Nat) (l0_0 : List Int) (a0_1 : Bool) (a0_2 : Int) (l0_3 : List (S30)) (l1 : List Int) : Option (List Int × Bool) := (spec_TreeOk.f k l0_0 a0_1 a0_2 l0_3).bind fun t316 => (if t316 = true then ((spec_l6keys.f k l0_0 a0_1 a0_2 l0_3 ([] : List Int) ([] : List Int)).bind fun t317 => (spec_TreeLongest.l0 k l1 t317 (-1) 0)) else (some (([] : List Int), false)))
set_option maxHeartbeats 8000000 in
set_option maxRecDepth 100000 in
theorem spec_TreeLongest.calls (k : Nat) (A0_0 : Option Addr) (c0_0 : Nat) (l0_0 : List Int) (a0_1 : Bool) (a0_2 : Int) (A0_3 : Option Addr) (c0_3 : Nat) (l0_3 : List (S30)) (A1 : Option Addr) (c1 : Nat) (l1 : List Int) (r1 : List Int) (r2 : Bool) (w : World) (hr0_0 : Kd.C (Kd.int .u8) w A0_0 l0_0.length l0_0) (hc0_0 : l0_0.length ≤ c0_0) (hr0_3 : Kd.C k30 w A0_3 l0_3.length l0_3) (hc0_3 : l0_3.length ≤ c0_3) (hr1 : Kd.C (Kd.int .u8) w A1 l1.length l1) (hc1 : l1.length ≤ c1) (h : spec_TreeLongest.f k l0_0 a0_1 a0_2 l0_3 l1 = some (r1, r2)) :
  Calls Try.prog 36 #[.agg #[.slice A0_0 l0_0.length c0_0, .bool a0_1, .int .i64 a0_2, .slice A0_3 l0_3.length c0_3], .slice A1 l1.length c1] w fun e w' => ∃ v0_ : Value, e = .returned (.tuple #[v0_, .bool r2]) ∧ Kd.R (Kd.int .u8) 5 w' w.heap.size (fun k_ => (w.heap.size ≤ k_)) v0_ r1 ∧ Below w.heap.size w w' := by
 have hu30 := Try.underlying30
 have HR0_0 := Aside0.mk hr0_0
 have HC0_0 := Aside0.mk hc0_0
 clear hr0_0 hc0_0
 have HR0_3 := Aside0.mk hr0_3
 have HC0_3 := Aside0.mk hc0_3
 clear hr0_3 hc0_3
 have HR1 := Aside0.mk hr1
 have HC1 := Aside0.mk hc1
 clear hr1 hc1
 have HB := Aside0.mk (Below.refl w.heap.size w)
 have H : ((spec_TreeOk.f k l0_0 a0_1 a0_2 l0_3).bind fun t316 => (if t316 = true then ((spec_l6keys.f k l0_0 a0_1 a0_2 l0_3 ([] : List Int) ([] : List Int)).bind fun t317 => (spec_TreeLongest.l0 k l1 t317 (-1) 0)) else (some (([] : List Int), false)))) = some (r1, r2) := h
 clear h
 replace H := Option.bind_eq_some_iff.mp H
 obtain ⟨t316, A30, H⟩ := H
 replace H : (if t316 = true then ((spec_l6keys.f k l0_0 a0_1 a0_2 l0_3 ([] : List Int) ([] : List Int)).bind fun t317 => (spec_TreeLongest.l0 k l1 t317 (-1) 0)) else (some (([] : List Int), false))) = some (r1, r2) := H
 have A3 := Aside0.mk A30
 clear A30
 by_cases c4 : t316 = true
 ·subst c4
  have H1 : ((spec_l6keys.f k l0_0 a0_1 a0_2 l0_3 ([] : List Int) ([] : List Int)).bind fun t317 => (spec_TreeLongest.l0 k l1 t317 (-1) 0)) = some (r1, r2) := by rw [if_pos rfl] at H; exact H
  clear H
  have H := H1
  clear H1
  replace H := Option.bind_eq_some_iff.mp H
  obtain ⟨t317, A50, H⟩ := H
  replace H : (spec_TreeLongest.l0 k l1 t317 (-1) 0) = some (r1, r2) := H
  have A5 := Aside0.mk A50
  clear A50
  have H' := Aside0.mk H
  clear H
  go_enter Try.func36, Try.ntmps36
  go_wp2_with (first | ((with_reducible refine gate_dst (N := 2) rfl ?_); (try (refine gate_guard (by rfl) ?_; dsimp only)); refine bx_ 2 #[.slice A0_0 l0_0.length c0_0, .bool a0_1, .int .i64 a0_2, .slice A0_3 l0_3.length c0_3] 30 (h := ?_); intro gb315 hg w6 hbox hb; have BK315 := Aside0.mk (hbox); have GW315 := Aside0.mk ((by rw [hg]; exact (below_size bel) : w.heap.size ≤ gb315)); have GE315 := Aside0.mk ((by rw [hg]; exact (below_size bel) : w.heap.size ≤ gb315)); replace HB := Aside0.mk (below_step bel hb); clear hb hbox hg; obtain ⟨hcz7_0, hcz7_1, hcz7_2, hcz7_3, -⟩ := cells_4 BK315.out trivial; obtain ⟨hfz7_0, hfz7_1, hfz7_2, hfz7_3, -⟩ := frz_4 BK315.out) | (go_at_call 16; (with_reducible refine (spec_TreeOk.calls k _ _ l0_0 a0_1 a0_2 _ _ l0_3 true _ ?side1 ?side2 ?side3 ?side4 A3.out).mono ?_); (case side1 => exact kcb); (case side2 => exact HC0_0.out); (case side3 => exact kcb); (case side4 => exact HC0_3.out); rintro e w8 ⟨rfl, hb⟩; replace BK315 := Aside0.mk (blb BK315 hb); replace HB := Aside0.mk (below_step bel hb); (try clear hb); (try clear hb2); (try clear hk); (try clear hi); obtain ⟨hcz9_0, hcz9_1, hcz9_2, hcz9_3, -⟩ := cells_4 BK315.out trivial; obtain ⟨hfz9_0, hfz9_1, hfz9_2, hfz9_3, -⟩ := frz_4 BK315.out) | (go_at_call 73; (refine (spec_l6keys.calls k _ _ l0_0 a0_1 a0_2 _ _ l0_3 _ _ ([] : List Int) _ _ ([] : List Int) t317 _ ?side1 ?side2 ?side3 ?side4 ?side5 ?side6 ?side7 ?side8 A5.out).mono ?_); (case side1 => exact kcb); (case side2 => exact HC0_0.out); (case side3 => exact kcb); (case side4 => exact HC0_3.out); (case side5 => exact Kd.C_nil _ _); (case side6 => exact Nat.le_refl _); (case side7 => exact Kd.C_nil _ _); (case side8 => exact Nat.le_refl _); rintro e w10 ⟨v318, rfl, ho0, hb⟩; have HO319 := Aside0.mk (Kd.R_lower (Kd.R_mono (ok' := fun k_ => (w.heap.size ≤ k_) ∧ k_ ≠ gb315) ho0 (fun k_ hk_ => ⟨(Nat.le_trans (below_size bel) hk_), (Kd.freshB (g := gb315) (o := .cells #[.slice A0_0 l0_0.length c0_0, .bool a0_1, .int .i64 a0_2, .slice A0_3 l0_3.length c0_3] 30 (0, 0)) (by (with_reducible repeat (first | refine blk_drewN ?_ _ | refine blk_drew ?_ | refine blk_alloc ?_ _)); exact BK315.out) k_ hk_)⟩)) (below_size bel)); replace BK315 := Aside0.mk (blb BK315 hb); replace HB := Aside0.mk (below_step bel hb); (try clear hb); (try clear hb2); (try clear hk); (try clear hi); (try clear ho0)))
  repeat (go_quiet (first | ((with_reducible refine gate_dst (N := 2) rfl ?_); (try (refine gate_guard (by rfl) ?_; dsimp only)); refine bx_ 2 #[.slice A0_0 l0_0.length c0_0, .bool a0_1, .int .i64 a0_2, .slice A0_3 l0_3.length c0_3] 30 (h := ?_); intro gb315 hg w6 hbox hb; have BK315 := Aside0.mk (hbox); have GW315 := Aside0.mk ((by rw [hg]; exact (below_size bel) : w.heap.size ≤ gb315)); have GE315 := Aside0.mk ((by rw [hg]; exact (below_size bel) : w.heap.size ≤ gb315)); replace HB := Aside0.mk (below_step bel hb); clear hb hbox hg; obtain ⟨hcz7_0, hcz7_1, hcz7_2, hcz7_3, -⟩ := cells_4 BK315.out trivial; obtain ⟨hfz7_0, hfz7_1, hfz7_2, hfz7_3, -⟩ := frz_4 BK315.out) | (go_at_call 16; (with_reducible refine (spec_TreeOk.calls k _ _ l0_0 a0_1 a0_2 _ _ l0_3 true _ ?side1 ?side2 ?side3 ?side4 A3.out).mono ?_); (case side1 => exact kcb); (case side2 => exact HC0_0.out); (case side3 => exact kcb); (case side4 => exact HC0_3.out); rintro e w8 ⟨rfl, hb⟩; replace BK315 := Aside0.mk (blb BK315 hb); replace HB := Aside0.mk (below_step bel hb); (try clear hb); (try clear hb2); (try clear hk); (try clear hi); obtain ⟨hcz9_0, hcz9_1, hcz9_2, hcz9_3, -⟩ := cells_4 BK315.out trivial; obtain ⟨hfz9_0, hfz9_1, hfz9_2, hfz9_3, -⟩ := frz_4 BK315.out) | (go_at_call 73; (refine (spec_l6keys.calls k _ _ l0_0 a0_1 a0_2 _ _ l0_3 _ _ ([] : List Int) _ _ ([] : List Int) t317 _ ?side1 ?side2 ?side3 ?side4 ?side5 ?side6 ?side7 ?side8 A5.out).mono ?_); (case side1 => exact kcb); (case side2 => exact HC0_0.out); (case side3 => exact kcb); (case side4 => exact HC0_3.out); (case side5 => exact Kd.C_nil _ _); (case side6 => exact Nat.le_refl _); (case side7 => exact Kd.C_nil _ _); (case side8 => exact Nat.le_refl _); rintro e w10 ⟨v318, rfl, ho0, hb⟩; have HO319 := Aside0.mk (Kd.R_lower (Kd.R_mono (ok' := fun k_ => (w.heap.size ≤ k_) ∧ k_ ≠ gb315) ho0 (fun k_ hk_ => ⟨(Nat.le_trans (below_size bel) hk_), (Kd.freshB (g := gb315) (o := .cells #[.slice A0_0 l0_0.length c0_0, .bool a0_1, .int .i64 a0_2, .slice A0_3 l0_3.length c0_3] 30 (0, 0)) (by (with_reducible repeat (first | refine blk_drewN ?_ _ | refine blk_drew ?_ | refine blk_alloc ?_ _)); exact BK315.out) k_ hk_)⟩)) (below_size bel)); replace BK315 := Aside0.mk (blb BK315 hb); replace HB := Aside0.mk (below_step bel hb); (try clear hb); (try clear hb2); (try clear hk); (try clear hi); (try clear ho0))); try go_wp2_with (first | ((with_reducible refine gate_dst (N := 2) rfl ?_); (try (refine gate_guard (by rfl) ?_; dsimp only)); refine bx_ 2 #[.slice A0_0 l0_0.length c0_0, .bool a0_1, .int .i64 a0_2, .slice A0_3 l0_3.length c0_3] 30 (h := ?_); intro gb315 hg w6 hbox hb; have BK315 := Aside0.mk (hbox); have GW315 := Aside0.mk ((by rw [hg]; exact (below_size bel) : w.heap.size ≤ gb315)); have GE315 := Aside0.mk ((by rw [hg]; exact (below_size bel) : w.heap.size ≤ gb315)); replace HB := Aside0.mk (below_step bel hb); clear hb hbox hg; obtain ⟨hcz7_0, hcz7_1, hcz7_2, hcz7_3, -⟩ := cells_4 BK315.out trivial; obtain ⟨hfz7_0, hfz7_1, hfz7_2, hfz7_3, -⟩ := frz_4 BK315.out) | (go_at_call 16; (with_reducible refine (spec_TreeOk.calls k _ _ l0_0 a0_1 a0_2 _ _ l0_3 true _ ?side1 ?side2 ?side3 ?side4 A3.out).mono ?_); (case side1 => exact kcb); (case side2 => exact HC0_0.out); (case side3 => exact kcb); (case side4 => exact HC0_3.out); rintro e w8 ⟨rfl, hb⟩; replace BK315 := Aside0.mk (blb BK315 hb); replace HB := Aside0.mk (below_step bel hb); (try clear hb); (try clear hb2); (try clear hk); (try clear hi); obtain ⟨hcz9_0, hcz9_1, hcz9_2, hcz9_3, -⟩ := cells_4 BK315.out trivial; obtain ⟨hfz9_0, hfz9_1, hfz9_2, hfz9_3, -⟩ := frz_4 BK315.out) | (go_at_call 73; (refine (spec_l6keys.calls k _ _ l0_0 a0_1 a0_2 _ _ l0_3 _ _ ([] : List Int) _ _ ([] : List Int) t317 _ ?side1 ?side2 ?side3 ?side4 ?side5 ?side6 ?side7 ?side8 A5.out).mono ?_); (case side1 => exact kcb); (case side2 => exact HC0_0.out); (case side3 => exact kcb); (case side4 => exact HC0_3.out); (case side5 => exact Kd.C_nil _ _); (case side6 => exact Nat.le_refl _); (case side7 => exact Kd.C_nil _ _); (case side8 => exact Nat.le_refl _); rintro e w10 ⟨v318, rfl, ho0, hb⟩; have HO319 := Aside0.mk (Kd.R_lower (Kd.R_mono (ok' := fun k_ => (w.heap.size ≤ k_) ∧ k_ ≠ gb315) ho0 (fun k_ hk_ => ⟨(Nat.le_trans (below_size bel) hk_), (Kd.freshB (g := gb315) (o := .cells #[.slice A0_0 l0_0.length c0_0, .bool a0_1, .int .i64 a0_2, .slice A0_3 l0_3.length c0_3] 30 (0, 0)) (by (with_reducible repeat (first | refine blk_drewN ?_ _ | refine blk_drew ?_ | refine blk_alloc ?_ _)); exact BK315.out) k_ hk_)⟩)) (below_size bel)); replace BK315 := Aside0.mk (blb BK315 hb); replace HB := Aside0.mk (below_step bel hb); (try clear hb); (try clear hb2); (try clear hk); (try clear hi); (try clear ho0))))
  go_loopg [7, 8] k (fun kq v7 v8 w' => ∃ (x7_1 : Int) (x8_1 : Int), v7 = .int .i64 x7_1 ∧ v8 = .int .i64 x8_1 ∧ Aside0 (spec_TreeLongest.l0 kq l1 t317 x7_1 x8_1 = some (r1, r2)) ∧ Aside0 (kq ≤ k) ∧ Aside0 (Kd.R (Kd.slice 5 (Kd.int .u8)) 22 w' w.heap.size (fun k_ => (w.heap.size ≤ k_) ∧ k_ ≠ gb315) v318 t317) ∧ Aside0 (w'.heap[gb315]? = some (.cells #[(.slice A0_0 l0_0.length c0_0), .bool a0_1, .int .i64 a0_2, (.slice A0_3 l0_3.length c0_3)] 30 (0, 0))) ∧ Aside0 (Below w.heap.size w w'))
  case atStart => exact ⟨((-1)), (0), (by first | rfl | (simp; done) | (simp [*]; done)), (by first | rfl | (simp; done) | (simp [*]; done)), H', ⟨Nat.le_refl _⟩, ⟨by (with_reducible repeat (first | apply Kd.R_alloc | apply Kd.R_drewN | apply Kd.R_drew)); exact HO319.out⟩, ⟨by (with_reducible repeat (first | refine blk_drewN ?_ _ | refine blk_drew ?_ | refine blk_alloc ?_ _)); exact BK315.out⟩, ⟨by repeat (first | (with_reducible first | exact HB.out | apply below_alloc | apply pw_below_drewN | apply below_drew1 | refine below_set ?_ GE315.out) | exact HB.out)⟩⟩
  case round =>
   clear H'
   try clear c1; try clear p2; try clear c3; try clear c4; try clear hcz7_0; try clear hcz7_1; try clear hcz7_2; try clear hcz7_3; try clear hcz9_0; try clear hcz9_1; try clear hcz9_2; try clear hcz9_3; try clear hfz7_0; try clear hfz7_1; try clear hfz7_2; try clear hfz7_3; try clear hfz9_0; try clear hfz9_1; try clear hfz9_2; try clear hfz9_3
   obtain ⟨x7_1, x8_1, rfl, rfl, HA, HK1, HO_6, BK315, HB⟩ := hrel
   cases gk with
   | zero => exact absurd HA.out (by simp [spec_TreeLongest.l0])
   | succ k1 =>
    have H := HA.out
    clear HA
    simp only [spec_TreeLongest.l0] at H
    by_cases c11 : x8_1 < (t317.length : Int)
    ·rw [if_pos c11] at H
     have c11b0 : decide (x8_1 < (t317.length : Int)) = true := decide_eq_true c11
     clear c11
     by_cases c12 : 0 ≤ x8_1
     ·rw [if_pos c12] at H
      have c12b0 : decide (0 ≤ x8_1) = true := decide_eq_true c12
      clear c12
      replace H := Option.bind_eq_some_iff.mp H
      obtain ⟨t321, A130, H⟩ := H
      replace H : (if t321 = true then (if x7_1 < 0 then (spec_TreeLongest.l0 k1 l1 t317 x8_1 (wrap64 (x8_1 + 1))) else (if 0 ≤ x7_1 then (if x7_1 < (t317.length : Int) then (if ((rd_L1 t317 x8_1).length : Int) > ((rd_L1 t317 x7_1).length : Int) then (spec_TreeLongest.l0 k1 l1 t317 x8_1 (wrap64 (x8_1 + 1))) else (spec_TreeLongest.l0 k1 l1 t317 x7_1 (wrap64 (x8_1 + 1)))) else (none)) else (none))) else (spec_TreeLongest.l0 k1 l1 t317 x7_1 (wrap64 (x8_1 + 1)))) = some (r1, r2) := H
      have A13 := Aside0.mk A130
      clear A130
      by_cases c14 : t321 = true
      ·subst c14
       have H1 : (if x7_1 < 0 then (spec_TreeLongest.l0 k1 l1 t317 x8_1 (wrap64 (x8_1 + 1))) else (if 0 ≤ x7_1 then (if x7_1 < (t317.length : Int) then (if ((rd_L1 t317 x8_1).length : Int) > ((rd_L1 t317 x7_1).length : Int) then (spec_TreeLongest.l0 k1 l1 t317 x8_1 (wrap64 (x8_1 + 1))) else (spec_TreeLongest.l0 k1 l1 t317 x7_1 (wrap64 (x8_1 + 1)))) else (none)) else (none))) = some (r1, r2) := by rw [if_pos rfl] at H; exact H
       clear H
       have H := H1
       clear H1
       by_cases c15 : x7_1 < 0
       ·rw [if_pos c15] at H
        have c15b0 : decide (x7_1 < 0) = true := decide_eq_true c15
        clear c15
        have H' := Aside0.mk H
        clear H
        obtain ⟨Ao16, co16, eo16⟩ := Kd.R_slice HO_6.out
        subst eo16
        have p320 : 0 ≤ (x8_1 : Int) := od
        have q320 : x8_1 < (t317.length : Int) := od
        obtain ⟨ad320, A320_0, c320_0, e320, hx320_0, hl320_0, hi320_0⟩ := at_L1 (Kd.R_reads' HO_6.out).2.2 x8_1 p320 q320
        cases e320
        obtain ⟨ce320, hce320, hMe320, hcc320⟩ := Kd.R_get HO_6.out [] x8_1 p320 (by first | exact q320 | exact od | (have e_ := (Kd.R_reads' HO_6.out).1; omega))
        obtain ⟨ua320_0, uc320_0, rfl, ul320_0, ge320_0⟩ := Kd.M_slice_open hMe320
        have hv320_0 := hcc320 0 _ rfl
        rw [Nat.add_zero, show ((Kd.slice 5 (Kd.int .u8))).sz = 1 from rfl, Nat.mul_one] at hv320_0
        replace hv320_0 := Option.some.inj (hv320_0.symm.trans hx320_0)
        injection hv320_0 with hva_ hvn_ hvc_
        rw [hva_] at ge320_0
        rw [hvc_] at ul320_0 ge320_0
        have HL320_0 := Aside0.mk (show Kd.R (Kd.int .u8) 5 _ w.heap.size _ _ (rd_L1 t317 x8_1) from Kd.R_mk ul320_0 ge320_0)
        clear hva_ hvn_ hvc_ ge320_0 ul320_0
        clear hcc320 hce320
        have HR320_0 := Aside0.mk hi320_0
        have HC320_0 := Aside0.mk hl320_0
        clear hi320_0 hl320_0
        replace p320 := eq_true p320
        replace q320 := eq_true q320
        go_wp2_with (first | (go_at_call 75; (with_reducible refine (spec_HasPrefix.calls _ _ l1 _ _ (rd_L1 t317 x8_1) true _ ?side1 ?side2 ?side3 ?side4 A13.out).mono ?_); (case side1 => exact kcb); (case side2 => exact HC1.out); (case side3 => repeat (first | exact (by repeat (first | (with_reducible exact HR320_0.out) | (with_reducible refine Kd.C_alloc ?_ _) | (with_reducible refine Kd.C_drewN ?_ _) | (with_reducible refine Kd.C_drew ?_) | exact HR320_0.out)) | (with_reducible refine Kd.C_alloc ?_ _) | (with_reducible refine Kd.C_drewN ?_ _) | (with_reducible refine Kd.C_drew ?_))); (case side4 => exact HC320_0.out); rintro e w' ⟨rfl, ⟨nd, rfl⟩⟩; (try first | exact ⟨rfl, _, World.drewN_drewN _ _ _⟩ | exact ⟨rfl, _, Eq.trans (World.drewN_drewN _ _ _) (congrArg (World.drewN _) (Nat.add_assoc _ _ _))⟩)))
        repeat (go_quiet (first | (go_at_call 75; (with_reducible refine (spec_HasPrefix.calls _ _ l1 _ _ (rd_L1 t317 x8_1) true _ ?side1 ?side2 ?side3 ?side4 A13.out).mono ?_); (case side1 => exact kcb); (case side2 => exact HC1.out); (case side3 => repeat (first | exact (by repeat (first | (with_reducible exact HR320_0.out) | (with_reducible refine Kd.C_alloc ?_ _) | (with_reducible refine Kd.C_drewN ?_ _) | (with_reducible refine Kd.C_drew ?_) | exact HR320_0.out)) | (with_reducible refine Kd.C_alloc ?_ _) | (with_reducible refine Kd.C_drewN ?_ _) | (with_reducible refine Kd.C_drew ?_))); (case side4 => exact HC320_0.out); rintro e w' ⟨rfl, ⟨nd, rfl⟩⟩; (try first | exact ⟨rfl, _, World.drewN_drewN _ _ _⟩ | exact ⟨rfl, _, Eq.trans (World.drewN_drewN _ _ _) (congrArg (World.drewN _) (Nat.add_assoc _ _ _))⟩))); try go_wp2_with (first | (go_at_call 75; (with_reducible refine (spec_HasPrefix.calls _ _ l1 _ _ (rd_L1 t317 x8_1) true _ ?side1 ?side2 ?side3 ?side4 A13.out).mono ?_); (case side1 => exact kcb); (case side2 => exact HC1.out); (case side3 => repeat (first | exact (by repeat (first | (with_reducible exact HR320_0.out) | (with_reducible refine Kd.C_alloc ?_ _) | (with_reducible refine Kd.C_drewN ?_ _) | (with_reducible refine Kd.C_drew ?_) | exact HR320_0.out)) | (with_reducible refine Kd.C_alloc ?_ _) | (with_reducible refine Kd.C_drewN ?_ _) | (with_reducible refine Kd.C_drew ?_))); (case side4 => exact HC320_0.out); rintro e w' ⟨rfl, ⟨nd, rfl⟩⟩; (try first | exact ⟨rfl, _, World.drewN_drewN _ _ _⟩ | exact ⟨rfl, _, Eq.trans (World.drewN_drewN _ _ _) (congrArg (World.drewN _) (Nat.add_assoc _ _ _))⟩))))
        go_roundg k1
        case measure => have := HK1.out; omega
        case rel => exact ⟨(x8_1), (wrap64 (x8_1 + 1)), (by first | rfl | (simp; done) | (simp [*]; done)), (by first | rfl | (simp; done) | (simp [*]; done)), H', ⟨by have := HK1.out; omega⟩, ⟨by (with_reducible repeat (first | apply Kd.R_alloc | apply Kd.R_drewN | apply Kd.R_drew)); exact HO_6.out⟩, ⟨by (with_reducible repeat (first | refine blk_drewN ?_ _ | refine blk_drew ?_ | refine blk_alloc ?_ _)); exact BK315.out⟩, ⟨by repeat (first | (with_reducible first | exact HB.out | apply below_alloc | apply pw_below_drewN | apply below_drew1 | refine below_set ?_ GE315.out) | exact HB.out)⟩⟩
       ·rw [if_neg c15] at H
        have c15b0 : decide (x7_1 < 0) = false := decide_eq_false c15
        clear c15
        by_cases c17 : 0 ≤ x7_1
        ·rw [if_pos c17] at H
         have c17b0 : decide (0 ≤ x7_1) = true := decide_eq_true c17
         clear c17
         by_cases c18 : x7_1 < (t317.length : Int)
         ·rw [if_pos c18] at H
          have c18b0 : decide (x7_1 < (t317.length : Int)) = true := decide_eq_true c18
          clear c18
          by_cases c19 : ((rd_L1 t317 x8_1).length : Int) > ((rd_L1 t317 x7_1).length : Int)
          ·rw [if_pos c19] at H
           have c19b0 : decide (((rd_L1 t317 x7_1).length : Int) < ((rd_L1 t317 x8_1).length : Int)) = true := decide_eq_true c19
           have c19b1 : decide ((rd_L1 t317 x7_1).length < (rd_L1 t317 x8_1).length) = true := decide_eq_true (Int.ofNat_lt.mp c19)
           clear c19
           have H' := Aside0.mk H
           clear H
           obtain ⟨Ao20, co20, eo20⟩ := Kd.R_slice HO_6.out
           subst eo20
           have p320 : 0 ≤ (x8_1 : Int) := od
           have q320 : x8_1 < (t317.length : Int) := od
           obtain ⟨ad320, A320_0, c320_0, e320, hx320_0, hl320_0, hi320_0⟩ := at_L1 (Kd.R_reads' HO_6.out).2.2 x8_1 p320 q320
           cases e320
           obtain ⟨ce320, hce320, hMe320, hcc320⟩ := Kd.R_get HO_6.out [] x8_1 p320 (by first | exact q320 | exact od | (have e_ := (Kd.R_reads' HO_6.out).1; omega))
           obtain ⟨ua320_0, uc320_0, rfl, ul320_0, ge320_0⟩ := Kd.M_slice_open hMe320
           have hv320_0 := hcc320 0 _ rfl
           rw [Nat.add_zero, show ((Kd.slice 5 (Kd.int .u8))).sz = 1 from rfl, Nat.mul_one] at hv320_0
           replace hv320_0 := Option.some.inj (hv320_0.symm.trans hx320_0)
           injection hv320_0 with hva_ hvn_ hvc_
           rw [hva_] at ge320_0
           rw [hvc_] at ul320_0 ge320_0
           have HL320_0 := Aside0.mk (show Kd.R (Kd.int .u8) 5 _ w.heap.size _ _ (rd_L1 t317 x8_1) from Kd.R_mk ul320_0 ge320_0)
           clear hva_ hvn_ hvc_ ge320_0 ul320_0
           clear hcc320 hce320
           have HR320_0 := Aside0.mk hi320_0
           have HC320_0 := Aside0.mk hl320_0
           clear hi320_0 hl320_0
           replace p320 := eq_true p320
           replace q320 := eq_true q320
           go_wp2_with (first | (go_at_call 75; (with_reducible refine (spec_HasPrefix.calls _ _ l1 _ _ (rd_L1 t317 x8_1) true _ ?side1 ?side2 ?side3 ?side4 A13.out).mono ?_); (case side1 => exact kcb); (case side2 => exact HC1.out); (case side3 => repeat (first | exact (by repeat (first | (with_reducible exact HR320_0.out) | (with_reducible refine Kd.C_alloc ?_ _) | (with_reducible refine Kd.C_drewN ?_ _) | (with_reducible refine Kd.C_drew ?_) | exact HR320_0.out)) | (with_reducible refine Kd.C_alloc ?_ _) | (with_reducible refine Kd.C_drewN ?_ _) | (with_reducible refine Kd.C_drew ?_))); (case side4 => exact HC320_0.out); rintro e w' ⟨rfl, ⟨nd, rfl⟩⟩; (try first | exact ⟨rfl, _, World.drewN_drewN _ _ _⟩ | exact ⟨rfl, _, Eq.trans (World.drewN_drewN _ _ _) (congrArg (World.drewN _) (Nat.add_assoc _ _ _))⟩); have p322 : 0 ≤ (x8_1 : Int) := od; have q322 : x8_1 < (t317.length : Int) := od; obtain ⟨ad322, A322_0, c322_0, e322, hx322_0, hl322_0, hi322_0⟩ := at_L1 (Kd.R_reads' HO_6.out).2.2 x8_1 p322 q322; obtain rfl : ad320 = ad322 := (by injection e322); obtain ⟨ce322, hce322, hMe322, hcc322⟩ := Kd.R_get HO_6.out [] x8_1 p322 (by first | exact q322 | exact od | (have e_ := (Kd.R_reads' HO_6.out).1; omega)); obtain ⟨ua322_0, uc322_0, rfl, ul322_0, ge322_0⟩ := Kd.M_slice_open hMe322; have hv322_0 := hcc322 0 _ rfl; rw [Nat.add_zero, show ((Kd.slice 5 (Kd.int .u8))).sz = 1 from rfl, Nat.mul_one] at hv322_0; replace hv322_0 := Option.some.inj (hv322_0.symm.trans hx322_0); injection hv322_0 with hva_ hvn_ hvc_; rw [hva_] at ge322_0; rw [hvc_] at ul322_0 ge322_0; have HL322_0 := Aside0.mk (show Kd.R (Kd.int .u8) 5 _ w.heap.size _ _ (rd_L1 t317 x8_1) from Kd.R_mk ul322_0 ge322_0); clear hva_ hvn_ hvc_ ge322_0 ul322_0; clear hcc322 hce322; have HR322_0 := Aside0.mk hi322_0; have HC322_0 := Aside0.mk hl322_0; clear hi322_0 hl322_0; replace p322 := eq_true p322; replace q322 := eq_true q322; have ea_ := Option.some.inj (hx320_0.symm.trans hx322_0); injection ea_ with ea_ en_ ec_; subst ea_; subst ec_; clear en_; have p323 : 0 ≤ (x7_1 : Int) := od; have q323 : x7_1 < (t317.length : Int) := od; obtain ⟨ad323, A323_0, c323_0, e323, hx323_0, hl323_0, hi323_0⟩ := at_L1 (Kd.R_reads' HO_6.out).2.2 x7_1 p323 q323; obtain rfl : ad320 = ad323 := (by injection e323); obtain ⟨ce323, hce323, hMe323, hcc323⟩ := Kd.R_get HO_6.out [] x7_1 p323 (by first | exact q323 | exact od | (have e_ := (Kd.R_reads' HO_6.out).1; omega)); obtain ⟨ua323_0, uc323_0, rfl, ul323_0, ge323_0⟩ := Kd.M_slice_open hMe323; have hv323_0 := hcc323 0 _ rfl; rw [Nat.add_zero, show ((Kd.slice 5 (Kd.int .u8))).sz = 1 from rfl, Nat.mul_one] at hv323_0; replace hv323_0 := Option.some.inj (hv323_0.symm.trans hx323_0); injection hv323_0 with hva_ hvn_ hvc_; rw [hva_] at ge323_0; rw [hvc_] at ul323_0 ge323_0; have HL323_0 := Aside0.mk (show Kd.R (Kd.int .u8) 5 _ w.heap.size _ _ (rd_L1 t317 x7_1) from Kd.R_mk ul323_0 ge323_0); clear hva_ hvn_ hvc_ ge323_0 ul323_0; clear hcc323 hce323; have HR323_0 := Aside0.mk hi323_0; have HC323_0 := Aside0.mk hl323_0; clear hi323_0 hl323_0; replace p323 := eq_true p323; replace q323 := eq_true q323))
           repeat (go_quiet (first | (go_at_call 75; (with_reducible refine (spec_HasPrefix.calls _ _ l1 _ _ (rd_L1 t317 x8_1) true _ ?side1 ?side2 ?side3 ?side4 A13.out).mono ?_); (case side1 => exact kcb); (case side2 => exact HC1.out); (case side3 => repeat (first | exact (by repeat (first | (with_reducible exact HR320_0.out) | (with_reducible refine Kd.C_alloc ?_ _) | (with_reducible refine Kd.C_drewN ?_ _) | (with_reducible refine Kd.C_drew ?_) | exact HR320_0.out)) | (with_reducible refine Kd.C_alloc ?_ _) | (with_reducible refine Kd.C_drewN ?_ _) | (with_reducible refine Kd.C_drew ?_))); (case side4 => exact HC320_0.out); rintro e w' ⟨rfl, ⟨nd, rfl⟩⟩; (try first | exact ⟨rfl, _, World.drewN_drewN _ _ _⟩ | exact ⟨rfl, _, Eq.trans (World.drewN_drewN _ _ _) (congrArg (World.drewN _) (Nat.add_assoc _ _ _))⟩); have p322 : 0 ≤ (x8_1 : Int) := od; have q322 : x8_1 < (t317.length : Int) := od; obtain ⟨ad322, A322_0, c322_0, e322, hx322_0, hl322_0, hi322_0⟩ := at_L1 (Kd.R_reads' HO_6.out).2.2 x8_1 p322 q322; obtain rfl : ad320 = ad322 := (by injection e322); obtain ⟨ce322, hce322, hMe322, hcc322⟩ := Kd.R_get HO_6.out [] x8_1 p322 (by first | exact q322 | exact od | (have e_ := (Kd.R_reads' HO_6.out).1; omega)); obtain ⟨ua322_0, uc322_0, rfl, ul322_0, ge322_0⟩ := Kd.M_slice_open hMe322; have hv322_0 := hcc322 0 _ rfl; rw [Nat.add_zero, show ((Kd.slice 5 (Kd.int .u8))).sz = 1 from rfl, Nat.mul_one] at hv322_0; replace hv322_0 := Option.some.inj (hv322_0.symm.trans hx322_0); injection hv322_0 with hva_ hvn_ hvc_; rw [hva_] at ge322_0; rw [hvc_] at ul322_0 ge322_0; have HL322_0 := Aside0.mk (show Kd.R (Kd.int .u8) 5 _ w.heap.size _ _ (rd_L1 t317 x8_1) from Kd.R_mk ul322_0 ge322_0); clear hva_ hvn_ hvc_ ge322_0 ul322_0; clear hcc322 hce322; have HR322_0 := Aside0.mk hi322_0; have HC322_0 := Aside0.mk hl322_0; clear hi322_0 hl322_0; replace p322 := eq_true p322; replace q322 := eq_true q322; have ea_ := Option.some.inj (hx320_0.symm.trans hx322_0); injection ea_ with ea_ en_ ec_; subst ea_; subst ec_; clear en_; have p323 : 0 ≤ (x7_1 : Int) := od; have q323 : x7_1 < (t317.length : Int) := od; obtain ⟨ad323, A323_0, c323_0, e323, hx323_0, hl323_0, hi323_0⟩ := at_L1 (Kd.R_reads' HO_6.out).2.2 x7_1 p323 q323; obtain rfl : ad320 = ad323 := (by injection e323); obtain ⟨ce323, hce323, hMe323, hcc323⟩ := Kd.R_get HO_6.out [] x7_1 p323 (by first | exact q323 | exact od | (have e_ := (Kd.R_reads' HO_6.out).1; omega)); obtain ⟨ua323_0, uc323_0, rfl, ul323_0, ge323_0⟩ := Kd.M_slice_open hMe323; have hv323_0 := hcc323 0 _ rfl; rw [Nat.add_zero, show ((Kd.slice 5 (Kd.int .u8))).sz = 1 from rfl, Nat.mul_one] at hv323_0; replace hv323_0 := Option.some.inj (hv323_0.symm.trans hx323_0); injection hv323_0 with hva_ hvn_ hvc_; rw [hva_] at ge323_0; rw [hvc_] at ul323_0 ge323_0; have HL323_0 := Aside0.mk (show Kd.R (Kd.int .u8) 5 _ w.heap.size _ _ (rd_L1 t317 x7_1) from Kd.R_mk ul323_0 ge323_0); clear hva_ hvn_ hvc_ ge323_0 ul323_0; clear hcc323 hce323; have HR323_0 := Aside0.mk hi323_0; have HC323_0 := Aside0.mk hl323_0; clear hi323_0 hl323_0; replace p323 := eq_true p323; replace q323 := eq_true q323)); try go_wp2_with (first | (go_at_call 75; (with_reducible refine (spec_HasPrefix.calls _ _ l1 _ _ (rd_L1 t317 x8_1) true _ ?side1 ?side2 ?side3 ?side4 A13.out).mono ?_); (case side1 => exact kcb); (case side2 => exact HC1.out); (case side3 => repeat (first | exact (by repeat (first | (with_reducible exact HR320_0.out) | (with_reducible refine Kd.C_alloc ?_ _) | (with_reducible refine Kd.C_drewN ?_ _) | (with_reducible refine Kd.C_drew ?_) | exact HR320_0.out)) | (with_reducible refine Kd.C_alloc ?_ _) | (with_reducible refine Kd.C_drewN ?_ _) | (with_reducible refine Kd.C_drew ?_))); (case side4 => exact HC320_0.out); rintro e w' ⟨rfl, ⟨nd, rfl⟩⟩; (try first | exact ⟨rfl, _, World.drewN_drewN _ _ _⟩ | exact ⟨rfl, _, Eq.trans (World.drewN_drewN _ _ _) (congrArg (World.drewN _) (Nat.add_assoc _ _ _))⟩); have p322 : 0 ≤ (x8_1 : Int) := od; have q322 : x8_1 < (t317.length : Int) := od; obtain ⟨ad322, A322_0, c322_0, e322, hx322_0, hl322_0, hi322_0⟩ := at_L1 (Kd.R_reads' HO_6.out).2.2 x8_1 p322 q322; obtain rfl : ad320 = ad322 := (by injection e322); obtain ⟨ce322, hce322, hMe322, hcc322⟩ := Kd.R_get HO_6.out [] x8_1 p322 (by first | exact q322 | exact od | (have e_ := (Kd.R_reads' HO_6.out).1; omega)); obtain ⟨ua322_0, uc322_0, rfl, ul322_0, ge322_0⟩ := Kd.M_slice_open hMe322; have hv322_0 := hcc322 0 _ rfl; rw [Nat.add_zero, show ((Kd.slice 5 (Kd.int .u8))).sz = 1 from rfl, Nat.mul_one] at hv322_0; replace hv322_0 := Option.some.inj (hv322_0.symm.trans hx322_0); injection hv322_0 with hva_ hvn_ hvc_; rw [hva_] at ge322_0; rw [hvc_] at ul322_0 ge322_0; have HL322_0 := Aside0.mk (show Kd.R (Kd.int .u8) 5 _ w.heap.size _ _ (rd_L1 t317 x8_1) from Kd.R_mk ul322_0 ge322_0); clear hva_ hvn_ hvc_ ge322_0 ul322_0; clear hcc322 hce322; have HR322_0 := Aside0.mk hi322_0; have HC322_0 := Aside0.mk hl322_0; clear hi322_0 hl322_0; replace p322 := eq_true p322; replace q322 := eq_true q322; have ea_ := Option.some.inj (hx320_0.symm.trans hx322_0); injection ea_ with ea_ en_ ec_; subst ea_; subst ec_; clear en_; have p323 : 0 ≤ (x7_1 : Int) := od; have q323 : x7_1 < (t317.length : Int) := od; obtain ⟨ad323, A323_0, c323_0, e323, hx323_0, hl323_0, hi323_0⟩ := at_L1 (Kd.R_reads' HO_6.out).2.2 x7_1 p323 q323; obtain rfl : ad320 = ad323 := (by injection e323); obtain ⟨ce323, hce323, hMe323, hcc323⟩ := Kd.R_get HO_6.out [] x7_1 p323 (by first | exact q323 | exact od | (have e_ := (Kd.R_reads' HO_6.out).1; omega)); obtain ⟨ua323_0, uc323_0, rfl, ul323_0, ge323_0⟩ := Kd.M_slice_open hMe323; have hv323_0 := hcc323 0 _ rfl; rw [Nat.add_zero, show ((Kd.slice 5 (Kd.int .u8))).sz = 1 from rfl, Nat.mul_one] at hv323_0; replace hv323_0 := Option.some.inj (hv323_0.symm.trans hx323_0); injection hv323_0 with hva_ hvn_ hvc_; rw [hva_] at ge323_0; rw [hvc_] at ul323_0 ge323_0; have HL323_0 := Aside0.mk (show Kd.R (Kd.int .u8) 5 _ w.heap.size _ _ (rd_L1 t317 x7_1) from Kd.R_mk ul323_0 ge323_0); clear hva_ hvn_ hvc_ ge323_0 ul323_0; clear hcc323 hce323; have HR323_0 := Aside0.mk hi323_0; have HC323_0 := Aside0.mk hl323_0; clear hi323_0 hl323_0; replace p323 := eq_true p323; replace q323 := eq_true q323)))
           go_roundg k1
           case measure => have := HK1.out; omega
           case rel => exact ⟨(x8_1), (wrap64 (x8_1 + 1)), (by first | rfl | (simp; done) | (simp [*]; done)), (by first | rfl | (simp; done) | (simp [*]; done)), H', ⟨by have := HK1.out; omega⟩, ⟨by (with_reducible repeat (first | apply Kd.R_alloc | apply Kd.R_drewN | apply Kd.R_drew)); exact HO_6.out⟩, ⟨by (with_reducible repeat (first | refine blk_drewN ?_ _ | refine blk_drew ?_ | refine blk_alloc ?_ _)); exact BK315.out⟩, ⟨by repeat (first | (with_reducible first | exact HB.out | apply below_alloc | apply pw_below_drewN | apply below_drew1 | refine below_set ?_ GE315.out) | exact HB.out)⟩⟩
          ·rw [if_neg c19] at H
           have c19b0 : decide (((rd_L1 t317 x7_1).length : Int) < ((rd_L1 t317 x8_1).length : Int)) = false := decide_eq_false c19
           have c19b1 : decide ((rd_L1 t317 x7_1).length < (rd_L1 t317 x8_1).length) = false := decide_eq_false (fun h => c19 (Int.ofNat_lt.mpr h))
           clear c19
           have H' := Aside0.mk H
           clear H
           obtain ⟨Ao21, co21, eo21⟩ := Kd.R_slice HO_6.out
           subst eo21
           have p320 : 0 ≤ (x8_1 : Int) := od
           have q320 : x8_1 < (t317.length : Int) := od
           obtain ⟨ad320, A320_0, c320_0, e320, hx320_0, hl320_0, hi320_0⟩ := at_L1 (Kd.R_reads' HO_6.out).2.2 x8_1 p320 q320
           cases e320
           obtain ⟨ce320, hce320, hMe320, hcc320⟩ := Kd.R_get HO_6.out [] x8_1 p320 (by first | exact q320 | exact od | (have e_ := (Kd.R_reads' HO_6.out).1; omega))
           obtain ⟨ua320_0, uc320_0, rfl, ul320_0, ge320_0⟩ := Kd.M_slice_open hMe320
           have hv320_0 := hcc320 0 _ rfl
           rw [Nat.add_zero, show ((Kd.slice 5 (Kd.int .u8))).sz = 1 from rfl, Nat.mul_one] at hv320_0
           replace hv320_0 := Option.some.inj (hv320_0.symm.trans hx320_0)
           injection hv320_0 with hva_ hvn_ hvc_
           rw [hva_] at ge320_0
           rw [hvc_] at ul320_0 ge320_0
           have HL320_0 := Aside0.mk (show Kd.R (Kd.int .u8) 5 _ w.heap.size _ _ (rd_L1 t317 x8_1) from Kd.R_mk ul320_0 ge320_0)
           clear hva_ hvn_ hvc_ ge320_0 ul320_0
           clear hcc320 hce320
           have HR320_0 := Aside0.mk hi320_0
           have HC320_0 := Aside0.mk hl320_0
           clear hi320_0 hl320_0
           replace p320 := eq_true p320
           replace q320 := eq_true q320
           go_wp2_with (first | (go_at_call 75; (with_reducible refine (spec_HasPrefix.calls _ _ l1 _ _ (rd_L1 t317 x8_1) true _ ?side1 ?side2 ?side3 ?side4 A13.out).mono ?_); (case side1 => exact kcb); (case side2 => exact HC1.out); (case side3 => repeat (first | exact (by repeat (first | (with_reducible exact HR320_0.out) | (with_reducible refine Kd.C_alloc ?_ _) | (with_reducible refine Kd.C_drewN ?_ _) | (with_reducible refine Kd.C_drew ?_) | exact HR320_0.out)) | (with_reducible refine Kd.C_alloc ?_ _) | (with_reducible refine Kd.C_drewN ?_ _) | (with_reducible refine Kd.C_drew ?_))); (case side4 => exact HC320_0.out); rintro e w' ⟨rfl, ⟨nd, rfl⟩⟩; (try first | exact ⟨rfl, _, World.drewN_drewN _ _ _⟩ | exact ⟨rfl, _, Eq.trans (World.drewN_drewN _ _ _) (congrArg (World.drewN _) (Nat.add_assoc _ _ _))⟩); have p322 : 0 ≤ (x8_1 : Int) := od; have q322 : x8_1 < (t317.length : Int) := od; obtain ⟨ad322, A322_0, c322_0, e322, hx322_0, hl322_0, hi322_0⟩ := at_L1 (Kd.R_reads' HO_6.out).2.2 x8_1 p322 q322; obtain rfl : ad320 = ad322 := (by injection e322); obtain ⟨ce322, hce322, hMe322, hcc322⟩ := Kd.R_get HO_6.out [] x8_1 p322 (by first | exact q322 | exact od | (have e_ := (Kd.R_reads' HO_6.out).1; omega)); obtain ⟨ua322_0, uc322_0, rfl, ul322_0, ge322_0⟩ := Kd.M_slice_open hMe322; have hv322_0 := hcc322 0 _ rfl; rw [Nat.add_zero, show ((Kd.slice 5 (Kd.int .u8))).sz = 1 from rfl, Nat.mul_one] at hv322_0; replace hv322_0 := Option.some.inj (hv322_0.symm.trans hx322_0); injection hv322_0 with hva_ hvn_ hvc_; rw [hva_] at ge322_0; rw [hvc_] at ul322_0 ge322_0; have HL322_0 := Aside0.mk (show Kd.R (Kd.int .u8) 5 _ w.heap.size _ _ (rd_L1 t317 x8_1) from Kd.R_mk ul322_0 ge322_0); clear hva_ hvn_ hvc_ ge322_0 ul322_0; clear hcc322 hce322; have HR322_0 := Aside0.mk hi322_0; have HC322_0 := Aside0.mk hl322_0; clear hi322_0 hl322_0; replace p322 := eq_true p322; replace q322 := eq_true q322; have ea_ := Option.some.inj (hx320_0.symm.trans hx322_0); injection ea_ with ea_ en_ ec_; subst ea_; subst ec_; clear en_; have p323 : 0 ≤ (x7_1 : Int) := od; have q323 : x7_1 < (t317.length : Int) := od; obtain ⟨ad323, A323_0, c323_0, e323, hx323_0, hl323_0, hi323_0⟩ := at_L1 (Kd.R_reads' HO_6.out).2.2 x7_1 p323 q323; obtain rfl : ad320 = ad323 := (by injection e323); obtain ⟨ce323, hce323, hMe323, hcc323⟩ := Kd.R_get HO_6.out [] x7_1 p323 (by first | exact q323 | exact od | (have e_ := (Kd.R_reads' HO_6.out).1; omega)); obtain ⟨ua323_0, uc323_0, rfl, ul323_0, ge323_0⟩ := Kd.M_slice_open hMe323; have hv323_0 := hcc323 0 _ rfl; rw [Nat.add_zero, show ((Kd.slice 5 (Kd.int .u8))).sz = 1 from rfl, Nat.mul_one] at hv323_0; replace hv323_0 := Option.some.inj (hv323_0.symm.trans hx323_0); injection hv323_0 with hva_ hvn_ hvc_; rw [hva_] at ge323_0; rw [hvc_] at ul323_0 ge323_0; have HL323_0 := Aside0.mk (show Kd.R (Kd.int .u8) 5 _ w.heap.size _ _ (rd_L1 t317 x7_1) from Kd.R_mk ul323_0 ge323_0); clear hva_ hvn_ hvc_ ge323_0 ul323_0; clear hcc323 hce323; have HR323_0 := Aside0.mk hi323_0; have HC323_0 := Aside0.mk hl323_0; clear hi323_0 hl323_0; replace p323 := eq_true p323; replace q323 := eq_true q323))
           repeat (go_quiet (first | (go_at_call 75; (with_reducible refine (spec_HasPrefix.calls _ _ l1 _ _ (rd_L1 t317 x8_1) true _ ?side1 ?side2 ?side3 ?side4 A13.out).mono ?_); (case side1 => exact kcb); (case side2 => exact HC1.out); (case side3 => repeat (first | exact (by repeat (first | (with_reducible exact HR320_0.out) | (with_reducible refine Kd.C_alloc ?_ _) | (with_reducible refine Kd.C_drewN ?_ _) | (with_reducible refine Kd.C_drew ?_) | exact HR320_0.out)) | (with_reducible refine Kd.C_alloc ?_ _) | (with_reducible refine Kd.C_drewN ?_ _) | (with_reducible refine Kd.C_drew ?_))); (case side4 => exact HC320_0.out); rintro e w' ⟨rfl, ⟨nd, rfl⟩⟩; (try first | exact ⟨rfl, _, World.drewN_drewN _ _ _⟩ | exact ⟨rfl, _, Eq.trans (World.drewN_drewN _ _ _) (congrArg (World.drewN _) (Nat.add_assoc _ _ _))⟩); have p322 : 0 ≤ (x8_1 : Int) := od; have q322 : x8_1 < (t317.length : Int) := od; obtain ⟨ad322, A322_0, c322_0, e322, hx322_0, hl322_0, hi322_0⟩ := at_L1 (Kd.R_reads' HO_6.out).2.2 x8_1 p322 q322; obtain rfl : ad320 = ad322 := (by injection e322); obtain ⟨ce322, hce322, hMe322, hcc322⟩ := Kd.R_get HO_6.out [] x8_1 p322 (by first | exact q322 | exact od | (have e_ := (Kd.R_reads' HO_6.out).1; omega)); obtain ⟨ua322_0, uc322_0, rfl, ul322_0, ge322_0⟩ := Kd.M_slice_open hMe322; have hv322_0 := hcc322 0 _ rfl; rw [Nat.add_zero, show ((Kd.slice 5 (Kd.int .u8))).sz = 1 from rfl, Nat.mul_one] at hv322_0; replace hv322_0 := Option.some.inj (hv322_0.symm.trans hx322_0); injection hv322_0 with hva_ hvn_ hvc_; rw [hva_] at ge322_0; rw [hvc_] at ul322_0 ge322_0; have HL322_0 := Aside0.mk (show Kd.R (Kd.int .u8) 5 _ w.heap.size _ _ (rd_L1 t317 x8_1) from Kd.R_mk ul322_0 ge322_0); clear hva_ hvn_ hvc_ ge322_0 ul322_0; clear hcc322 hce322; have HR322_0 := Aside0.mk hi322_0; have HC322_0 := Aside0.mk hl322_0; clear hi322_0 hl322_0; replace p322 := eq_true p322; replace q322 := eq_true q322; have ea_ := Option.some.inj (hx320_0.symm.trans hx322_0); injection ea_ with ea_ en_ ec_; subst ea_; subst ec_; clear en_; have p323 : 0 ≤ (x7_1 : Int) := od; have q323 : x7_1 < (t317.length : Int) := od; obtain ⟨ad323, A323_0, c323_0, e323, hx323_0, hl323_0, hi323_0⟩ := at_L1 (Kd.R_reads' HO_6.out).2.2 x7_1 p323 q323; obtain rfl : ad320 = ad323 := (by injection e323); obtain ⟨ce323, hce323, hMe323, hcc323⟩ := Kd.R_get HO_6.out [] x7_1 p323 (by first | exact q323 | exact od | (have e_ := (Kd.R_reads' HO_6.out).1; omega)); obtain ⟨ua323_0, uc323_0, rfl, ul323_0, ge323_0⟩ := Kd.M_slice_open hMe323; have hv323_0 := hcc323 0 _ rfl; rw [Nat.add_zero, show ((Kd.slice 5 (Kd.int .u8))).sz = 1 from rfl, Nat.mul_one] at hv323_0; replace hv323_0 := Option.some.inj (hv323_0.symm.trans hx323_0); injection hv323_0 with hva_ hvn_ hvc_; rw [hva_] at ge323_0; rw [hvc_] at ul323_0 ge323_0; have HL323_0 := Aside0.mk (show Kd.R (Kd.int .u8) 5 _ w.heap.size _ _ (rd_L1 t317 x7_1) from Kd.R_mk ul323_0 ge323_0); clear hva_ hvn_ hvc_ ge323_0 ul323_0; clear hcc323 hce323; have HR323_0 := Aside0.mk hi323_0; have HC323_0 := Aside0.mk hl323_0; clear hi323_0 hl323_0; replace p323 := eq_true p323; replace q323 := eq_true q323)); try go_wp2_with (first | (go_at_call 75; (with_reducible refine (spec_HasPrefix.calls _ _ l1 _ _ (rd_L1 t317 x8_1) true _ ?side1 ?side2 ?side3 ?side4 A13.out).mono ?_); (case side1 => exact kcb); (case side2 => exact HC1.out); (case side3 => repeat (first | exact (by repeat (first | (with_reducible exact HR320_0.out) | (with_reducible refine Kd.C_alloc ?_ _) | (with_reducible refine Kd.C_drewN ?_ _) | (with_reducible refine Kd.C_drew ?_) | exact HR320_0.out)) | (with_reducible refine Kd.C_alloc ?_ _) | (with_reducible refine Kd.C_drewN ?_ _) | (with_reducible refine Kd.C_drew ?_))); (case side4 => exact HC320_0.out); rintro e w' ⟨rfl, ⟨nd, rfl⟩⟩; (try first | exact ⟨rfl, _, World.drewN_drewN _ _ _⟩ | exact ⟨rfl, _, Eq.trans (World.drewN_drewN _ _ _) (congrArg (World.drewN _) (Nat.add_assoc _ _ _))⟩); have p322 : 0 ≤ (x8_1 : Int) := od; have q322 : x8_1 < (t317.length : Int) := od; obtain ⟨ad322, A322_0, c322_0, e322, hx322_0, hl322_0, hi322_0⟩ := at_L1 (Kd.R_reads' HO_6.out).2.2 x8_1 p322 q322; obtain rfl : ad320 = ad322 := (by injection e322); obtain ⟨ce322, hce322, hMe322, hcc322⟩ := Kd.R_get HO_6.out [] x8_1 p322 (by first | exact q322 | exact od | (have e_ := (Kd.R_reads' HO_6.out).1; omega)); obtain ⟨ua322_0, uc322_0, rfl, ul322_0, ge322_0⟩ := Kd.M_slice_open hMe322; have hv322_0 := hcc322 0 _ rfl; rw [Nat.add_zero, show ((Kd.slice 5 (Kd.int .u8))).sz = 1 from rfl, Nat.mul_one] at hv322_0; replace hv322_0 := Option.some.inj (hv322_0.symm.trans hx322_0); injection hv322_0 with hva_ hvn_ hvc_; rw [hva_] at ge322_0; rw [hvc_] at ul322_0 ge322_0; have HL322_0 := Aside0.mk (show Kd.R (Kd.int .u8) 5 _ w.heap.size _ _ (rd_L1 t317 x8_1) from Kd.R_mk ul322_0 ge322_0); clear hva_ hvn_ hvc_ ge322_0 ul322_0; clear hcc322 hce322; have HR322_0 := Aside0.mk hi322_0; have HC322_0 := Aside0.mk hl322_0; clear hi322_0 hl322_0; replace p322 := eq_true p322; replace q322 := eq_true q322; have ea_ := Option.some.inj (hx320_0.symm.trans hx322_0); injection ea_ with ea_ en_ ec_; subst ea_; subst ec_; clear en_; have p323 : 0 ≤ (x7_1 : Int) := od; have q323 : x7_1 < (t317.length : Int) := od; obtain ⟨ad323, A323_0, c323_0, e323, hx323_0, hl323_0, hi323_0⟩ := at_L1 (Kd.R_reads' HO_6.out).2.2 x7_1 p323 q323; obtain rfl : ad320 = ad323 := (by injection e323); obtain ⟨ce323, hce323, hMe323, hcc323⟩ := Kd.R_get HO_6.out [] x7_1 p323 (by first | exact q323 | exact od | (have e_ := (Kd.R_reads' HO_6.out).1; omega)); obtain ⟨ua323_0, uc323_0, rfl, ul323_0, ge323_0⟩ := Kd.M_slice_open hMe323; have hv323_0 := hcc323 0 _ rfl; rw [Nat.add_zero, show ((Kd.slice 5 (Kd.int .u8))).sz = 1 from rfl, Nat.mul_one] at hv323_0; replace hv323_0 := Option.some.inj (hv323_0.symm.trans hx323_0); injection hv323_0 with hva_ hvn_ hvc_; rw [hva_] at ge323_0; rw [hvc_] at ul323_0 ge323_0; have HL323_0 := Aside0.mk (show Kd.R (Kd.int .u8) 5 _ w.heap.size _ _ (rd_L1 t317 x7_1) from Kd.R_mk ul323_0 ge323_0); clear hva_ hvn_ hvc_ ge323_0 ul323_0; clear hcc323 hce323; have HR323_0 := Aside0.mk hi323_0; have HC323_0 := Aside0.mk hl323_0; clear hi323_0 hl323_0; replace p323 := eq_true p323; replace q323 := eq_true q323)))
           go_roundg k1
           case measure => have := HK1.out; omega
           case rel => exact ⟨(x7_1), (wrap64 (x8_1 + 1)), (by first | rfl | (simp; done) | (simp [*]; done)), (by first | rfl | (simp; done) | (simp [*]; done)), H', ⟨by have := HK1.out; omega⟩, ⟨by (with_reducible repeat (first | apply Kd.R_alloc | apply Kd.R_drewN | apply Kd.R_drew)); exact HO_6.out⟩, ⟨by (with_reducible repeat (first | refine blk_drewN ?_ _ | refine blk_drew ?_ | refine blk_alloc ?_ _)); exact BK315.out⟩, ⟨by repeat (first | (with_reducible first | exact HB.out | apply below_alloc | apply pw_below_drewN | apply below_drew1 | refine below_set ?_ GE315.out) | exact HB.out)⟩⟩
         ·rw [if_neg c18] at H
          exact absurd H (by simp)
        ·rw [if_neg c17] at H
         exact absurd H (by simp)
      ·replace c14 := Bool.eq_false_iff.mpr c14
       subst c14
       have H1 : (spec_TreeLongest.l0 k1 l1 t317 x7_1 (wrap64 (x8_1 + 1))) = some (r1, r2) := by rw [if_neg (show ¬ (false = true) by decide)] at H; exact H
       clear H
       have H := H1
       clear H1
       have H' := Aside0.mk H
       clear H
       obtain ⟨Ao22, co22, eo22⟩ := Kd.R_slice HO_6.out
       subst eo22
       have p320 : 0 ≤ (x8_1 : Int) := od
       have q320 : x8_1 < (t317.length : Int) := od
       obtain ⟨ad320, A320_0, c320_0, e320, hx320_0, hl320_0, hi320_0⟩ := at_L1 (Kd.R_reads' HO_6.out).2.2 x8_1 p320 q320
       cases e320
       obtain ⟨ce320, hce320, hMe320, hcc320⟩ := Kd.R_get HO_6.out [] x8_1 p320 (by first | exact q320 | exact od | (have e_ := (Kd.R_reads' HO_6.out).1; omega))
       obtain ⟨ua320_0, uc320_0, rfl, ul320_0, ge320_0⟩ := Kd.M_slice_open hMe320
       have hv320_0 := hcc320 0 _ rfl
       rw [Nat.add_zero, show ((Kd.slice 5 (Kd.int .u8))).sz = 1 from rfl, Nat.mul_one] at hv320_0
       replace hv320_0 := Option.some.inj (hv320_0.symm.trans hx320_0)
       injection hv320_0 with hva_ hvn_ hvc_
       rw [hva_] at ge320_0
       rw [hvc_] at ul320_0 ge320_0
       have HL320_0 := Aside0.mk (show Kd.R (Kd.int .u8) 5 _ w.heap.size _ _ (rd_L1 t317 x8_1) from Kd.R_mk ul320_0 ge320_0)
       clear hva_ hvn_ hvc_ ge320_0 ul320_0
       clear hcc320 hce320
       have HR320_0 := Aside0.mk hi320_0
       have HC320_0 := Aside0.mk hl320_0
       clear hi320_0 hl320_0
       replace p320 := eq_true p320
       replace q320 := eq_true q320
       go_wp2_with (first | (go_at_call 75; (with_reducible refine (spec_HasPrefix.calls _ _ l1 _ _ (rd_L1 t317 x8_1) false _ ?side1 ?side2 ?side3 ?side4 A13.out).mono ?_); (case side1 => exact kcb); (case side2 => exact HC1.out); (case side3 => repeat (first | exact (by repeat (first | (with_reducible exact HR320_0.out) | (with_reducible refine Kd.C_alloc ?_ _) | (with_reducible refine Kd.C_drewN ?_ _) | (with_reducible refine Kd.C_drew ?_) | exact HR320_0.out)) | (with_reducible refine Kd.C_alloc ?_ _) | (with_reducible refine Kd.C_drewN ?_ _) | (with_reducible refine Kd.C_drew ?_))); (case side4 => exact HC320_0.out); rintro e w' ⟨rfl, ⟨nd, rfl⟩⟩; (try first | exact ⟨rfl, _, World.drewN_drewN _ _ _⟩ | exact ⟨rfl, _, Eq.trans (World.drewN_drewN _ _ _) (congrArg (World.drewN _) (Nat.add_assoc _ _ _))⟩)))
       repeat (go_quiet (first | (go_at_call 75; (with_reducible refine (spec_HasPrefix.calls _ _ l1 _ _ (rd_L1 t317 x8_1) false _ ?side1 ?side2 ?side3 ?side4 A13.out).mono ?_); (case side1 => exact kcb); (case side2 => exact HC1.out); (case side3 => repeat (first | exact (by repeat (first | (with_reducible exact HR320_0.out) | (with_reducible refine Kd.C_alloc ?_ _) | (with_reducible refine Kd.C_drewN ?_ _) | (with_reducible refine Kd.C_drew ?_) | exact HR320_0.out)) | (with_reducible refine Kd.C_alloc ?_ _) | (with_reducible refine Kd.C_drewN ?_ _) | (with_reducible refine Kd.C_drew ?_))); (case side4 => exact HC320_0.out); rintro e w' ⟨rfl, ⟨nd, rfl⟩⟩; (try first | exact ⟨rfl, _, World.drewN_drewN _ _ _⟩ | exact ⟨rfl, _, Eq.trans (World.drewN_drewN _ _ _) (congrArg (World.drewN _) (Nat.add_assoc _ _ _))⟩))); try go_wp2_with (first | (go_at_call 75; (with_reducible refine (spec_HasPrefix.calls _ _ l1 _ _ (rd_L1 t317 x8_1) false _ ?side1 ?side2 ?side3 ?side4 A13.out).mono ?_); (case side1 => exact kcb); (case side2 => exact HC1.out); (case side3 => repeat (first | exact (by repeat (first | (with_reducible exact HR320_0.out) | (with_reducible refine Kd.C_alloc ?_ _) | (with_reducible refine Kd.C_drewN ?_ _) | (with_reducible refine Kd.C_drew ?_) | exact HR320_0.out)) | (with_reducible refine Kd.C_alloc ?_ _) | (with_reducible refine Kd.C_drewN ?_ _) | (with_reducible refine Kd.C_drew ?_))); (case side4 => exact HC320_0.out); rintro e w' ⟨rfl, ⟨nd, rfl⟩⟩; (try first | exact ⟨rfl, _, World.drewN_drewN _ _ _⟩ | exact ⟨rfl, _, Eq.trans (World.drewN_drewN _ _ _) (congrArg (World.drewN _) (Nat.add_assoc _ _ _))⟩))))
       go_roundg k1
       case measure => have := HK1.out; omega
       case rel => exact ⟨(x7_1), (wrap64 (x8_1 + 1)), (by first | rfl | (simp; done) | (simp [*]; done)), (by first | rfl | (simp; done) | (simp [*]; done)), H', ⟨by have := HK1.out; omega⟩, ⟨by (with_reducible repeat (first | apply Kd.R_alloc | apply Kd.R_drewN | apply Kd.R_drew)); exact HO_6.out⟩, ⟨by (with_reducible repeat (first | refine blk_drewN ?_ _ | refine blk_drew ?_ | refine blk_alloc ?_ _)); exact BK315.out⟩, ⟨by repeat (first | (with_reducible first | exact HB.out | apply below_alloc | apply pw_below_drewN | apply below_drew1 | refine below_set ?_ GE315.out) | exact HB.out)⟩⟩
     ·rw [if_neg c12] at H
      exact absurd H (by simp)
    ·rw [if_neg c11] at H
     have c11b0 : decide (x8_1 < (t317.length : Int)) = false := decide_eq_false c11
     clear c11
     by_cases c23 : x7_1 < 0
     ·rw [if_pos c23] at H
      have c23b0 : decide (x7_1 < 0) = true := decide_eq_true c23
      clear c23
      simp only [Option.some.injEq, Prod.mk.injEq] at H
      obtain ⟨rfl, rfl⟩ := H
      obtain ⟨Ao24, co24, eo24⟩ := Kd.R_slice HO_6.out
      subst eo24
      go_wp2
      repeat (go_quiet (fail); try go_wp2)
      go_ret2
      exact ⟨_, by first | rfl | (simp [errW_none, errW_some] <;> rfl) | (simp [*, errW_none, errW_some] <;> rfl), Kd.R_F (by first | exact Kd.R_nil _ _ _ _ _ | exact Kd.R_nil _ _ _ _ _ | exact Kd.R_nil _ _ _ _ _ | exact Kd.Q_nil _ _ _ _ _ | exact Kd.S_nil _ _ _ _ _), by repeat (first | (with_reducible first | exact HB.out | apply below_alloc | apply pw_below_drewN | apply below_drew1 | refine below_set ?_ GE315.out) | exact HB.out)⟩
     ·rw [if_neg c23] at H
      have c23b0 : decide (x7_1 < 0) = false := decide_eq_false c23
      clear c23
      by_cases c25 : 0 ≤ x7_1
      ·rw [if_pos c25] at H
       have c25b0 : decide (0 ≤ x7_1) = true := decide_eq_true c25
       clear c25
       by_cases c26 : x7_1 < (t317.length : Int)
       ·rw [if_pos c26] at H
        have c26b0 : decide (x7_1 < (t317.length : Int)) = true := decide_eq_true c26
        clear c26
        simp only [Option.some.injEq, Prod.mk.injEq] at H
        obtain ⟨rfl, rfl⟩ := H
        obtain ⟨Ao27, co27, eo27⟩ := Kd.R_slice HO_6.out
        subst eo27
        have p324 : 0 ≤ (x7_1 : Int) := od
        have q324 : x7_1 < (t317.length : Int) := od
        obtain ⟨ad324, A324_0, c324_0, e324, hx324_0, hl324_0, hi324_0⟩ := at_L1 (Kd.R_reads' HO_6.out).2.2 x7_1 p324 q324
        cases e324
        obtain ⟨ce324, hce324, hMe324, hcc324⟩ := Kd.R_get HO_6.out [] x7_1 p324 (by first | exact q324 | exact od | (have e_ := (Kd.R_reads' HO_6.out).1; omega))
        obtain ⟨ua324_0, uc324_0, rfl, ul324_0, ge324_0⟩ := Kd.M_slice_open hMe324
        have hv324_0 := hcc324 0 _ rfl
        rw [Nat.add_zero, show ((Kd.slice 5 (Kd.int .u8))).sz = 1 from rfl, Nat.mul_one] at hv324_0
        replace hv324_0 := Option.some.inj (hv324_0.symm.trans hx324_0)
        injection hv324_0 with hva_ hvn_ hvc_
        rw [hva_] at ge324_0
        rw [hvc_] at ul324_0 ge324_0
        have HL324_0 := Aside0.mk (show Kd.R (Kd.int .u8) 5 _ w.heap.size _ _ (rd_L1 t317 x7_1) from Kd.R_mk ul324_0 ge324_0)
        clear hva_ hvn_ hvc_ ge324_0 ul324_0
        clear hcc324 hce324
        have HR324_0 := Aside0.mk hi324_0
        have HC324_0 := Aside0.mk hl324_0
        clear hi324_0 hl324_0
        replace p324 := eq_true p324
        replace q324 := eq_true q324
        go_wp2
        repeat (go_quiet (fail); try go_wp2)
        go_ret2
        exact ⟨_, by first | rfl | (simp [errW_none, errW_some] <;> rfl) | (simp [*, errW_none, errW_some] <;> rfl), by (with_reducible repeat (first | apply Kd.R_alloc | apply Kd.R_drewN | apply Kd.R_drew)); exact Kd.R_mono HL324_0.out (fun _ hk => hk.1.1), by repeat (first | (with_reducible first | exact HB.out | apply below_alloc | apply pw_below_drewN | apply below_drew1 | refine below_set ?_ GE315.out) | exact HB.out)⟩
       ·rw [if_neg c26] at H
        exact absurd H (by simp)
      ·rw [if_neg c25] at H
       exact absurd H (by simp)
 ·replace c4 := Bool.eq_false_iff.mpr c4
  subst c4
  have H1 : (some (([] : List Int), false)) = some (r1, r2) := by rw [if_neg (show ¬ (false = true) by decide)] at H; exact H
  clear H
  have H := H1
  clear H1
  simp only [Option.some.injEq, Prod.mk.injEq] at H
  obtain ⟨rfl, rfl⟩ := H
  go_enter Try.func36, Try.ntmps36
  go_wp2_with (first | ((with_reducible refine gate_dst (N := 2) rfl ?_); (try (refine gate_guard (by rfl) ?_; dsimp only)); refine bx_ 2 #[.slice A0_0 l0_0.length c0_0, .bool a0_1, .int .i64 a0_2, .slice A0_3 l0_3.length c0_3] 30 (h := ?_); intro gb315 hg w28 hbox hb; have BK315 := Aside0.mk (hbox); have GW315 := Aside0.mk ((by rw [hg]; exact (below_size bel) : w.heap.size ≤ gb315)); have GE315 := Aside0.mk ((by rw [hg]; exact (below_size bel) : w.heap.size ≤ gb315)); replace HB := Aside0.mk (below_step bel hb); clear hb hbox hg; obtain ⟨hcz29_0, hcz29_1, hcz29_2, hcz29_3, -⟩ := cells_4 BK315.out trivial; obtain ⟨hfz29_0, hfz29_1, hfz29_2, hfz29_3, -⟩ := frz_4 BK315.out) | (go_at_call 16; (with_reducible refine (spec_TreeOk.calls k _ _ l0_0 a0_1 a0_2 _ _ l0_3 false _ ?side1 ?side2 ?side3 ?side4 A3.out).mono ?_); (case side1 => exact kcb); (case side2 => exact HC0_0.out); (case side3 => exact kcb); (case side4 => exact HC0_3.out); rintro e w30 ⟨rfl, hb⟩; replace BK315 := Aside0.mk (blb BK315 hb); replace HB := Aside0.mk (below_step bel hb); (try clear hb); (try clear hb2); (try clear hk); (try clear hi)))
  repeat (go_quiet (first | ((with_reducible refine gate_dst (N := 2) rfl ?_); (try (refine gate_guard (by rfl) ?_; dsimp only)); refine bx_ 2 #[.slice A0_0 l0_0.length c0_0, .bool a0_1, .int .i64 a0_2, .slice A0_3 l0_3.length c0_3] 30 (h := ?_); intro gb315 hg w28 hbox hb; have BK315 := Aside0.mk (hbox); have GW315 := Aside0.mk ((by rw [hg]; exact (below_size bel) : w.heap.size ≤ gb315)); have GE315 := Aside0.mk ((by rw [hg]; exact (below_size bel) : w.heap.size ≤ gb315)); replace HB := Aside0.mk (below_step bel hb); clear hb hbox hg; obtain ⟨hcz29_0, hcz29_1, hcz29_2, hcz29_3, -⟩ := cells_4 BK315.out trivial; obtain ⟨hfz29_0, hfz29_1, hfz29_2, hfz29_3, -⟩ := frz_4 BK315.out) | (go_at_call 16; (with_reducible refine (spec_TreeOk.calls k _ _ l0_0 a0_1 a0_2 _ _ l0_3 false _ ?side1 ?side2 ?side3 ?side4 A3.out).mono ?_); (case side1 => exact kcb); (case side2 => exact HC0_0.out); (case side3 => exact kcb); (case side4 => exact HC0_3.out); rintro e w30 ⟨rfl, hb⟩; replace BK315 := Aside0.mk (blb BK315 hb); replace HB := Aside0.mk (below_step bel hb); (try clear hb); (try clear hb2); (try clear hk); (try clear hi))); try go_wp2_with (first | ((with_reducible refine gate_dst (N := 2) rfl ?_); (try (refine gate_guard (by rfl) ?_; dsimp only)); refine bx_ 2 #[.slice A0_0 l0_0.length c0_0, .bool a0_1, .int .i64 a0_2, .slice A0_3 l0_3.length c0_3] 30 (h := ?_); intro gb315 hg w28 hbox hb; have BK315 := Aside0.mk (hbox); have GW315 := Aside0.mk ((by rw [hg]; exact (below_size bel) : w.heap.size ≤ gb315)); have GE315 := Aside0.mk ((by rw [hg]; exact (below_size bel) : w.heap.size ≤ gb315)); replace HB := Aside0.mk (below_step bel hb); clear hb hbox hg; obtain ⟨hcz29_0, hcz29_1, hcz29_2, hcz29_3, -⟩ := cells_4 BK315.out trivial; obtain ⟨hfz29_0, hfz29_1, hfz29_2, hfz29_3, -⟩ := frz_4 BK315.out) | (go_at_call 16; (with_reducible refine (spec_TreeOk.calls k _ _ l0_0 a0_1 a0_2 _ _ l0_3 false _ ?side1 ?side2 ?side3 ?side4 A3.out).mono ?_); (case side1 => exact kcb); (case side2 => exact HC0_0.out); (case side3 => exact kcb); (case side4 => exact HC0_3.out); rintro e w30 ⟨rfl, hb⟩; replace BK315 := Aside0.mk (blb BK315 hb); replace HB := Aside0.mk (below_step bel hb); (try clear hb); (try clear hb2); (try clear hk); (try clear hi))))
  go_ret2
  exact ⟨_, by first | rfl | (simp [errW_none, errW_some] <;> rfl) | (simp [*, errW_none, errW_some] <;> rfl), Kd.R_F (by first | exact Kd.R_nil _ _ _ _ _ | exact Kd.R_nil _ _ _ _ _ | exact Kd.R_nil _ _ _ _ _ | exact Kd.Q_nil _ _ _ _ _ | exact Kd.S_nil _ _ _ _ _), by repeat (first | (with_reducible first | exact HB.out | apply below_alloc | apply pw_below_drewN | apply below_drew1 | refine below_set ?_ GE315.out) | exact HB.out)⟩

end Go.Proofs.Ytoaddpfoecggpaa.PT
