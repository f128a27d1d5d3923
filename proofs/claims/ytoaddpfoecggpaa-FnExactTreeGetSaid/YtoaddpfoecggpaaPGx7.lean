-- Written for this claim by the session's program pp.py, out of the kit's print and the seat's translation.
import Derived.Test.YtoaddpfoecggpaaPGx0
import Derived.Test.YtoaddpfoecggpaaPGx6
namespace Go.Proofs.Ytoaddpfoecggpaa.PG
open Go.RowKit Go.Proofs.YtoaddpfoecggpaaW.PrintWords Go.Proofs.YtoaddpfoecggpaaW.PrintLast Go.Proofs.YtoaddpfoecggpaaW.PrintMore
attribute [local go_sem] max2_int min2_int max_two min_two max_three min_three max_four min_four   -- for this text's walks alone
set_option linter.unusedVariables false
set_option linter.unusedSimpArgs false

/-! ### impl_TreeGet: function 24 -/
def impl_TreeGet.f (k : Nat) (l0_0 : List Int) (a0_1 : Bool) (a0_2 : Int) (l0_3 : List (S30)) (l1 : List Int) : Option (Int × Bool) := (impl_TreeOk.f k l0_0 a0_1 a0_2 l0_3).bind fun t213 => (if t213 = true then ((impl_Tree_entries.f k l0_0 a0_1 a0_2 l0_3 ([] : List Int)).bind fun t214 => ((impl_find.f k t214 l1).bind fun bt217 => (if bt217.2 = true then (if 0 ≤ bt217.1 then (if bt217.1 < (t214.length : Int) then (some ((rd_T84 t214 bt217.1).f1, true)) else (none)) else (none)) else (some (0, false))))) else (some (0, false)))
theorem impl_TreeGet.mono : ∀ a0 a1 a2 a3 a4 k, LeO (impl_TreeGet.f k a0 a1 a2 a3 a4) (impl_TreeGet.f (k + 1) a0 a1 a2 a3 a4) := by
 intro a0 a1 a2 a3 a4 k
 unfold impl_TreeGet.f
 repeat' first
   | (with_reducible exact impl_TreeOk.mono _ _ _ _ _)
   | (with_reducible exact impl_Tree_entries.mono _ _ _ _ _ _)
   | (with_reducible exact impl_find.mono _ _ _)
   | (with_reducible exact LeO.refl _)
   | (with_reducible exact LeO.none _)
   | (with_reducible refine LeO.ite ?_ ?_)
   | (with_reducible refine LeO.bind ?_ (fun _ => ?_))
   | exact impl_TreeOk.mono _ _ _ _ _
   | exact impl_Tree_entries.mono _ _ _ _ _ _
   | exact impl_find.mono _ _ _
   | exact LeO.none _
   | refine LeO.ite ?_ ?_
   | refine LeO.bind ?_ (fun _ => ?_)
set_option maxHeartbeats 8000000 in
set_option maxRecDepth 100000 in
theorem impl_TreeGet.calls (k : Nat) (A0_0 : Option Addr) (c0_0 : Nat) (l0_0 : List Int) (a0_1 : Bool) (a0_2 : Int) (A0_3 : Option Addr) (c0_3 : Nat) (l0_3 : List (S30)) (A1 : Option Addr) (c1 : Nat) (l1 : List Int) (r1 : Int) (r2 : Bool) (w : World) (hr0_0 : Kd.C (Kd.int .u8) w A0_0 l0_0.length l0_0) (hc0_0 : l0_0.length ≤ c0_0) (hr0_3 : Kd.C k30 w A0_3 l0_3.length l0_3) (hc0_3 : l0_3.length ≤ c0_3) (hr1 : Kd.C (Kd.int .u8) w A1 l1.length l1) (hc1 : l1.length ≤ c1) (h : impl_TreeGet.f k l0_0 a0_1 a0_2 l0_3 l1 = some (r1, r2)) :
  Calls Try.prog 24 #[.agg #[.slice A0_0 l0_0.length c0_0, .bool a0_1, .int .i64 a0_2, .slice A0_3 l0_3.length c0_3], .slice A1 l1.length c1] w fun e w' => e = .returned (.tuple #[.int .i64 r1, .bool r2]) ∧ Below w.heap.size w w' := by
 have hu30 := Try.underlying30
 have HR0_0 := Aside0.mk hr0_0
 have HC0_0 := Aside0.mk hc0_0
 clear hr0_0 hc0_0
 have HR0_3 := Aside0.mk hr0_3
 have HC0_3 := Aside0.mk hc0_3
 clear hr0_3 hc0_3
 have HR1 := Aside0.mk hr1
 have HC1 := Aside0.mk hc1
 clear hr1 hc1
 have HB := Aside0.mk (Below.refl w.heap.size w)
 have H : ((impl_TreeOk.f k l0_0 a0_1 a0_2 l0_3).bind fun t213 => (if t213 = true then ((impl_Tree_entries.f k l0_0 a0_1 a0_2 l0_3 ([] : List Int)).bind fun t214 => ((impl_find.f k t214 l1).bind fun bt217 => (if bt217.2 = true then (if 0 ≤ bt217.1 then (if bt217.1 < (t214.length : Int) then (some ((rd_T84 t214 bt217.1).f1, true)) else (none)) else (none)) else (some (0, false))))) else (some (0, false)))) = some (r1, r2) := h
 clear h
 replace H := Option.bind_eq_some_iff.mp H
 obtain ⟨t213, A30, H⟩ := H
 replace H : (if t213 = true then ((impl_Tree_entries.f k l0_0 a0_1 a0_2 l0_3 ([] : List Int)).bind fun t214 => ((impl_find.f k t214 l1).bind fun bt217 => (if bt217.2 = true then (if 0 ≤ bt217.1 then (if bt217.1 < (t214.length : Int) then (some ((rd_T84 t214 bt217.1).f1, true)) else (none)) else (none)) else (some (0, false))))) else (some (0, false))) = some (r1, r2) := H
 have A3 := Aside0.mk A30
 clear A30
 by_cases c4 : t213 = true
 ·subst c4
  have H1 : ((impl_Tree_entries.f k l0_0 a0_1 a0_2 l0_3 ([] : List Int)).bind fun t214 => ((impl_find.f k t214 l1).bind fun bt217 => (if bt217.2 = true then (if 0 ≤ bt217.1 then (if bt217.1 < (t214.length : Int) then (some ((rd_T84 t214 bt217.1).f1, true)) else (none)) else (none)) else (some (0, false))))) = some (r1, r2) := by rw [if_pos rfl] at H; exact H
  clear H
  have H := H1
  clear H1
  replace H := Option.bind_eq_some_iff.mp H
  obtain ⟨t214, A50, H⟩ := H
  replace H : ((impl_find.f k t214 l1).bind fun bt217 => (if bt217.2 = true then (if 0 ≤ bt217.1 then (if bt217.1 < (t214.length : Int) then (some ((rd_T84 t214 bt217.1).f1, true)) else (none)) else (none)) else (some (0, false)))) = some (r1, r2) := H
  have A5 := Aside0.mk A50
  clear A50
  replace H := Option.bind_eq_some_iff.mp H
  obtain ⟨⟨t217, t218⟩, A60, H⟩ := H
  replace H : (if t218 = true then (if 0 ≤ t217 then (if t217 < (t214.length : Int) then (some ((rd_T84 t214 t217).f1, true)) else (none)) else (none)) else (some (0, false))) = some (r1, r2) := H
  have A6 := Aside0.mk A60
  clear A60
  by_cases c7 : t218 = true
  ·subst c7
   have H1 : (if 0 ≤ t217 then (if t217 < (t214.length : Int) then (some ((rd_T84 t214 t217).f1, true)) else (none)) else (none)) = some (r1, r2) := by rw [if_pos rfl] at H; exact H
   clear H
   have H := H1
   clear H1
   by_cases c8 : 0 ≤ t217
   ·rw [if_pos c8] at H
    have c8b0 : decide (0 ≤ t217) = true := decide_eq_true c8
    clear c8
    by_cases c9 : t217 < (t214.length : Int)
    ·rw [if_pos c9] at H
     have c9b0 : decide (t217 < (t214.length : Int)) = true := decide_eq_true c9
     clear c9
     simp only [Option.some.injEq, Prod.mk.injEq] at H
     obtain ⟨rfl, rfl⟩ := H
     go_enter Try.func24, Try.ntmps24
     go_wp2_with (first | ((with_reducible refine gate_dst (N := 2) rfl ?_); refine bx_ 2 #[.slice A0_0 l0_0.length c0_0, .bool a0_1, .int .i64 a0_2, .slice A0_3 l0_3.length c0_3] 30 (h := ?_); intro gb212 hg w10 hbox hb; have BK212 := Aside0.mk (hbox); have GW212 := Aside0.mk ((by rw [hg]; exact (below_size bel) : w.heap.size ≤ gb212)); have GE212 := Aside0.mk ((by rw [hg]; exact (below_size bel) : w.heap.size ≤ gb212)); replace HB := Aside0.mk (below_step bel hb); clear hb hbox hg; obtain ⟨hcz11_0, hcz11_1, hcz11_2, hcz11_3, -⟩ := cells_4 BK212.out trivial; obtain ⟨hfz11_0, hfz11_1, hfz11_2, hfz11_3, -⟩ := frz_4 BK212.out) | ((with_reducible refine gate_callee (f := 18) rfl ?_); refine gl_ (some 10) Try.func18 #[.agg #[.slice A0_0 l0_0.length c0_0, .bool a0_1, .int .i64 a0_2, .slice A0_3 l0_3.length c0_3]] (h := ?_); (with_reducible refine (impl_TreeOk.calls k _ _ l0_0 a0_1 a0_2 _ _ l0_3 true _ ?side1 ?side2 ?side3 ?side4 A3.out).mono ?_); (case side1 => exact kcb); (case side2 => exact HC0_0.out); (case side3 => exact kcb); (case side4 => exact HC0_3.out); rintro e w12 ⟨rfl, hb⟩; refine ⟨_, rfl, ?_⟩; replace BK212 := Aside0.mk (blb BK212 hb); replace HB := Aside0.mk (below_step bel hb); (try clear hb); (try clear hb2); (try clear hk); (try clear hi); obtain ⟨hcz13_0, hcz13_1, hcz13_2, hcz13_3, -⟩ := cells_4 BK212.out trivial; obtain ⟨hfz13_0, hfz13_1, hfz13_2, hfz13_3, -⟩ := frz_4 BK212.out) | ((with_reducible refine gate_callee (f := 65) rfl ?_); refine gl_ (some 13) Try.func65 #[.agg #[.slice A0_0 l0_0.length c0_0, .bool a0_1, .int .i64 a0_2, .slice A0_3 l0_3.length c0_3], .slice none 0 0] (h := ?_); (refine (impl_Tree_entries.calls k (fun k_ => k_ < w.heap.size) _ _ l0_0 a0_1 a0_2 (fun k_ => k_ < w.heap.size) _ _ l0_3 (fun k_ => False) _ _ ([] : List Int) t214 _ ?side1 ?side2 ?side3 A5.out).mono ?_); (case side1 => exact Kd.V_mk HC0_0.out (Kd.F_below (Kd.C_F (Kd.heap_int .u8) HR0_0.out) bel)); (case side2 => exact Kd.V_mk HC0_3.out (Kd.F_below (Kd.C_F k30_heap HR0_3.out) bel)); (case side3 => exact Kd.V_nil _ _ _ _ _); rintro e w14 ⟨v215, rfl, ho0, hb⟩; refine ⟨_, rfl, ?_⟩; have HO216 := Aside0.mk (Kd.N_lower (Kd.N_mono (ok' := fun k_ => k_ ≠ gb212) ho0 (fun k_ hk_ => Or.elim hk_ (fun hs_ => Or.elim hs_ (fun hs_ => fun e_ => Nat.not_le.2 hs_ (by rw [e_]; exact GW212.out)) (fun hs_ => Or.elim hs_ (fun hs_ => fun e_ => Nat.not_le.2 hs_ (by rw [e_]; exact GW212.out)) (fun hs_ => (hs_).elim))) (fun hn_ => (Kd.freshB (g := gb212) (o := .cells #[.slice A0_0 l0_0.length c0_0, .bool a0_1, .int .i64 a0_2, .slice A0_3 l0_3.length c0_3] 30 (0, 0)) (by (with_reducible repeat (first | refine blk_drewN ?_ _ | refine blk_drew ?_ | refine blk_alloc ?_ _)); exact BK212.out) k_ hn_)))) (below_size bel)); replace BK212 := Aside0.mk (blb BK212 hb); replace HB := Aside0.mk (below_step bel hb); (try clear hb); (try clear hb2); (try clear hk); (try clear hi); (try clear ho0); obtain ⟨Ao15, co15, eo15⟩ := Kd.N_slice HO216.out; subst eo15) | ((with_reducible refine gate_callee (f := 67) rfl ?_); refine gl_ (some 17) Try.func67 #[.slice Ao15 t214.length co15, .slice A1 l1.length c1] (h := ?_); (with_reducible refine (impl_find.calls k _ _ t214 _ _ l1 t217 true _ ?side1 ?side2 ?side3 ?side4 A6.out).mono ?_); (case side1 => repeat (first | exact (Kd.N_reads' HO216.out).2.2 | (with_reducible refine Kd.C_alloc ?_ _) | (with_reducible refine Kd.C_drewN ?_ _) | (with_reducible refine Kd.C_drew ?_))); (case side2 => exact (Kd.N_reads' HO216.out).2.1); (case side3 => exact kcb); (case side4 => exact HC1.out); rintro e w16 ⟨rfl, hb⟩; refine ⟨_, rfl, ?_⟩; replace HO216 := Aside0.mk (Kd.N_below (by (with_reducible repeat (first | apply Kd.N_alloc | apply Kd.N_drewN | apply Kd.N_drew)); exact HO216.out) hb); replace BK212 := Aside0.mk (blb BK212 hb); replace HB := Aside0.mk (below_step bel hb); (try clear hb); (try clear hb2); (try clear hk); (try clear hi); have p219 : 0 ≤ (t217 : Int) := od; have q219 : t217 < (t214.length : Int) := od; obtain ⟨ad219, A219_0, c219_0, e219, hx219_0, hx219_1, hl219_0, hi219_0⟩ := at_T84 (Kd.N_reads' HO216.out).2.2 t217 p219 q219; cases e219; obtain ⟨ce219, hce219, hMe219, hcc219⟩ := Kd.N_get HO216.out z84 t217 p219 (by first | exact q219 | exact od | (have e_ := (Kd.N_reads' HO216.out).1; omega)); obtain ⟨ua219_0, uc219_0, rfl, ul219_0, ge219_0⟩ := k84_openF hMe219; have hv219_0 := hcc219 0 _ rfl; rw [Nat.add_zero] at hv219_0; replace hv219_0 := Option.some.inj (hv219_0.symm.trans hx219_0); injection hv219_0 with hva_ hvn_ hvc_; rw [hva_] at ge219_0; rw [hvc_] at ul219_0; have HL219_0 := Aside0.mk (show Kd.V (Kd.int .u8) 5 _ w.heap.size _ _ ((rd_T84 t214 t217).f0) from Kd.V_mk ul219_0 ge219_0); clear hva_ hvn_ hvc_ ge219_0 ul219_0; clear hcc219 hce219; have HR219_0 := Aside0.mk hi219_0; have HC219_0 := Aside0.mk hl219_0; clear hi219_0 hl219_0; replace p219 := eq_true p219; replace q219 := eq_true q219))
     go_ret2
     exact ⟨by first | rfl | (simp [errW_none, errW_some] <;> rfl) | (simp [*, errW_none, errW_some] <;> rfl), by repeat (first | (with_reducible first | exact HB.out | apply below_alloc | apply pw_below_drewN | apply below_drew1 | refine below_set ?_ GE212.out) | exact HB.out)⟩
    ·rw [if_neg c9] at H
     exact absurd H (by simp)
   ·rw [if_neg c8] at H
    exact absurd H (by simp)
  ·replace c7 := Bool.eq_false_iff.mpr c7
   subst c7
   have H1 : (some (0, false)) = some (r1, r2) := by rw [if_neg (show ¬ (false = true) by decide)] at H; exact H
   clear H
   have H := H1
   clear H1
   simp only [Option.some.injEq, Prod.mk.injEq] at H
   obtain ⟨rfl, rfl⟩ := H
   go_enter Try.func24, Try.ntmps24
   go_wp2_with (first | ((with_reducible refine gate_dst (N := 2) rfl ?_); refine bx_ 2 #[.slice A0_0 l0_0.length c0_0, .bool a0_1, .int .i64 a0_2, .slice A0_3 l0_3.length c0_3] 30 (h := ?_); intro gb212 hg w17 hbox hb; have BK212 := Aside0.mk (hbox); have GW212 := Aside0.mk ((by rw [hg]; exact (below_size bel) : w.heap.size ≤ gb212)); have GE212 := Aside0.mk ((by rw [hg]; exact (below_size bel) : w.heap.size ≤ gb212)); replace HB := Aside0.mk (below_step bel hb); clear hb hbox hg; obtain ⟨hcz18_0, hcz18_1, hcz18_2, hcz18_3, -⟩ := cells_4 BK212.out trivial; obtain ⟨hfz18_0, hfz18_1, hfz18_2, hfz18_3, -⟩ := frz_4 BK212.out) | ((with_reducible refine gate_callee (f := 18) rfl ?_); refine gl_ (some 10) Try.func18 #[.agg #[.slice A0_0 l0_0.length c0_0, .bool a0_1, .int .i64 a0_2, .slice A0_3 l0_3.length c0_3]] (h := ?_); (with_reducible refine (impl_TreeOk.calls k _ _ l0_0 a0_1 a0_2 _ _ l0_3 true _ ?side1 ?side2 ?side3 ?side4 A3.out).mono ?_); (case side1 => exact kcb); (case side2 => exact HC0_0.out); (case side3 => exact kcb); (case side4 => exact HC0_3.out); rintro e w19 ⟨rfl, hb⟩; refine ⟨_, rfl, ?_⟩; replace BK212 := Aside0.mk (blb BK212 hb); replace HB := Aside0.mk (below_step bel hb); (try clear hb); (try clear hb2); (try clear hk); (try clear hi); obtain ⟨hcz20_0, hcz20_1, hcz20_2, hcz20_3, -⟩ := cells_4 BK212.out trivial; obtain ⟨hfz20_0, hfz20_1, hfz20_2, hfz20_3, -⟩ := frz_4 BK212.out) | ((with_reducible refine gate_callee (f := 65) rfl ?_); refine gl_ (some 13) Try.func65 #[.agg #[.slice A0_0 l0_0.length c0_0, .bool a0_1, .int .i64 a0_2, .slice A0_3 l0_3.length c0_3], .slice none 0 0] (h := ?_); (refine (impl_Tree_entries.calls k (fun k_ => k_ < w.heap.size) _ _ l0_0 a0_1 a0_2 (fun k_ => k_ < w.heap.size) _ _ l0_3 (fun k_ => False) _ _ ([] : List Int) t214 _ ?side1 ?side2 ?side3 A5.out).mono ?_); (case side1 => exact Kd.V_mk HC0_0.out (Kd.F_below (Kd.C_F (Kd.heap_int .u8) HR0_0.out) bel)); (case side2 => exact Kd.V_mk HC0_3.out (Kd.F_below (Kd.C_F k30_heap HR0_3.out) bel)); (case side3 => exact Kd.V_nil _ _ _ _ _); rintro e w21 ⟨v215, rfl, ho0, hb⟩; refine ⟨_, rfl, ?_⟩; have HO216 := Aside0.mk (Kd.N_lower (Kd.N_mono (ok' := fun k_ => k_ ≠ gb212) ho0 (fun k_ hk_ => Or.elim hk_ (fun hs_ => Or.elim hs_ (fun hs_ => fun e_ => Nat.not_le.2 hs_ (by rw [e_]; exact GW212.out)) (fun hs_ => Or.elim hs_ (fun hs_ => fun e_ => Nat.not_le.2 hs_ (by rw [e_]; exact GW212.out)) (fun hs_ => (hs_).elim))) (fun hn_ => (Kd.freshB (g := gb212) (o := .cells #[.slice A0_0 l0_0.length c0_0, .bool a0_1, .int .i64 a0_2, .slice A0_3 l0_3.length c0_3] 30 (0, 0)) (by (with_reducible repeat (first | refine blk_drewN ?_ _ | refine blk_drew ?_ | refine blk_alloc ?_ _)); exact BK212.out) k_ hn_)))) (below_size bel)); replace BK212 := Aside0.mk (blb BK212 hb); replace HB := Aside0.mk (below_step bel hb); (try clear hb); (try clear hb2); (try clear hk); (try clear hi); (try clear ho0); obtain ⟨Ao22, co22, eo22⟩ := Kd.N_slice HO216.out; subst eo22) | ((with_reducible refine gate_callee (f := 67) rfl ?_); refine gl_ (some 17) Try.func67 #[.slice Ao22 t214.length co22, .slice A1 l1.length c1] (h := ?_); (with_reducible refine (impl_find.calls k _ _ t214 _ _ l1 t217 false _ ?side1 ?side2 ?side3 ?side4 A6.out).mono ?_); (case side1 => repeat (first | exact (Kd.N_reads' HO216.out).2.2 | (with_reducible refine Kd.C_alloc ?_ _) | (with_reducible refine Kd.C_drewN ?_ _) | (with_reducible refine Kd.C_drew ?_))); (case side2 => exact (Kd.N_reads' HO216.out).2.1); (case side3 => exact kcb); (case side4 => exact HC1.out); rintro e w23 ⟨rfl, hb⟩; refine ⟨_, rfl, ?_⟩; replace HO216 := Aside0.mk (Kd.N_below (by (with_reducible repeat (first | apply Kd.N_alloc | apply Kd.N_drewN | apply Kd.N_drew)); exact HO216.out) hb); replace BK212 := Aside0.mk (blb BK212 hb); replace HB := Aside0.mk (below_step bel hb); (try clear hb); (try clear hb2); (try clear hk); (try clear hi)))
   go_ret2
   exact ⟨by first | rfl | (simp [errW_none, errW_some] <;> rfl) | (simp [*, errW_none, errW_some] <;> rfl), by repeat (first | (with_reducible first | exact HB.out | apply below_alloc | apply pw_below_drewN | apply below_drew1 | refine below_set ?_ GE212.out) | exact HB.out)⟩
 ·replace c4 := Bool.eq_false_iff.mpr c4
  subst c4
  have H1 : (some (0, false)) = some (r1, r2) := by rw [if_neg (show ¬ (false = true) by decide)] at H; exact H
  clear H
  have H := H1
  clear H1
  simp only [Option.some.injEq, Prod.mk.injEq] at H
  obtain ⟨rfl, rfl⟩ := H
  go_enter Try.func24, Try.ntmps24
  go_wp2_with (first | ((with_reducible refine gate_dst (N := 2) rfl ?_); refine bx_ 2 #[.slice A0_0 l0_0.length c0_0, .bool a0_1, .int .i64 a0_2, .slice A0_3 l0_3.length c0_3] 30 (h := ?_); intro gb212 hg w24 hbox hb; have BK212 := Aside0.mk (hbox); have GW212 := Aside0.mk ((by rw [hg]; exact (below_size bel) : w.heap.size ≤ gb212)); have GE212 := Aside0.mk ((by rw [hg]; exact (below_size bel) : w.heap.size ≤ gb212)); replace HB := Aside0.mk (below_step bel hb); clear hb hbox hg; obtain ⟨hcz25_0, hcz25_1, hcz25_2, hcz25_3, -⟩ := cells_4 BK212.out trivial; obtain ⟨hfz25_0, hfz25_1, hfz25_2, hfz25_3, -⟩ := frz_4 BK212.out) | ((with_reducible refine gate_callee (f := 18) rfl ?_); refine gl_ (some 10) Try.func18 #[.agg #[.slice A0_0 l0_0.length c0_0, .bool a0_1, .int .i64 a0_2, .slice A0_3 l0_3.length c0_3]] (h := ?_); (with_reducible refine (impl_TreeOk.calls k _ _ l0_0 a0_1 a0_2 _ _ l0_3 false _ ?side1 ?side2 ?side3 ?side4 A3.out).mono ?_); (case side1 => exact kcb); (case side2 => exact HC0_0.out); (case side3 => exact kcb); (case side4 => exact HC0_3.out); rintro e w26 ⟨rfl, hb⟩; refine ⟨_, rfl, ?_⟩; replace BK212 := Aside0.mk (blb BK212 hb); replace HB := Aside0.mk (below_step bel hb); (try clear hb); (try clear hb2); (try clear hk); (try clear hi)))
  go_ret2
  exact ⟨by first | rfl | (simp [errW_none, errW_some] <;> rfl) | (simp [*, errW_none, errW_some] <;> rfl), by repeat (first | (with_reducible first | exact HB.out | apply below_alloc | apply pw_below_drewN | apply below_drew1 | refine below_set ?_ GE212.out) | exact HB.out)⟩

end Go.Proofs.Ytoaddpfoecggpaa.PG
