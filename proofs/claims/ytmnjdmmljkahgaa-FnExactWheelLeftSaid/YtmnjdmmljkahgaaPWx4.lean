-- Written for this claim by the session's program pp.py, out of the kit's print and the seat's translation.
import Derived.Test.YtmnjdmmljkahgaaPWx0
import Derived.Test.YtmnjdmmljkahgaaPWx3
namespace Go.Proofs.Ytmnjdmmljkahgaa.PW
open Go.RowKit Go.Proofs.YtmnjdmmljkahgaaW.PrintWords Go.Proofs.YtmnjdmmljkahgaaW.PrintLast Go.Proofs.YtmnjdmmljkahgaaW.PrintMore
attribute [local go_sem] max2_int min2_int max_two min_two max_three min_three max_four min_four   -- for this text's walks alone
set_option linter.unusedVariables false
set_option linter.unusedSimpArgs false

/-! ### impl_WheelOk: function 34 -/
mutual
def impl_WheelOk.j0 : Nat → Bool → Int → List (S93) → Option (Bool)
 | 0, _, _, _ => none
 | k + 1, x14, x150000, x150001 => if x14 = true then (some false) else (impl_WheelOk.l0 k x150001 (x150001.length : Int) 0 x150000 x150001)
def impl_WheelOk.l0 : Nat → List (S93) → Int → Int → Int → List (S93) → Option (Bool)
 | 0, _, _, _, _, _ => none
 | k + 1, x16, x17, x18, x150000, x150001 => if x18 < x17 then (if 0 ≤ x18 then (if x18 < (x16.length : Int) then ((impl_isId.f ((rd_T93 x16 x18).f0)).bind fun t153 => (if t153 = true then ((impl_Wheel_timer.f x150000 x150001 ((rd_T93 x16 x18).f0)).bind fun t154 => (if t154 = x18 then ((impl_within.f ((rd_T93 x16 x18).f1) (wrap64 (x150000 + 1)) 2000000).bind fun t155 => (if t155 = true then (if x18 > 0 then (if 0 ≤ (wrap64 (x18 - 1)) then (if (wrap64 (x18 - 1)) < (x150001.length : Int) then ((impl_compareTimers.f k ((rd_T93 x150001 (wrap64 (x18 - 1))).f0) ((rd_T93 x150001 (wrap64 (x18 - 1))).f1) ((rd_T93 x16 x18).f0) ((rd_T93 x16 x18).f1)).bind fun t157 => (if t157 ≥ 0 then (some false) else (impl_WheelOk.l0 k x16 x17 (wrap64 (x18 + 1)) x150000 x150001))) else (none)) else (none)) else (impl_WheelOk.l0 k x16 x17 (wrap64 (x18 + 1)) x150000 x150001)) else (some false))) else (some false))) else (some false))) else (none)) else (none)) else (some true)
end
def impl_WheelOk.f (k : Nat) (a0_0 : Int) (l0_1 : List (S93)) : Option (Bool) := (impl_within.f a0_0 0 1000000).bind fun t150 => (if t150 = true then (impl_WheelOk.j0 k (decide ((l0_1.length : Int) > 40)) a0_0 l0_1) else (impl_WheelOk.j0 k true a0_0 l0_1))
theorem impl_WheelOk.mono_l : ∀ k, (∀ y0 y1 y2, LeO (impl_WheelOk.j0 k y0 y1 y2) (impl_WheelOk.j0 (k + 1) y0 y1 y2)) ∧ (∀ y0 y1 y2 y3 y4, LeO (impl_WheelOk.l0 k y0 y1 y2 y3 y4) (impl_WheelOk.l0 (k + 1) y0 y1 y2 y3 y4))
 | 0 => ⟨fun _ _ _ r h => by simp [impl_WheelOk.j0] at h, fun _ _ _ _ _ r h => by simp [impl_WheelOk.l0] at h⟩
 | k + 1 => by
  obtain ⟨ih0, ih1⟩ := impl_WheelOk.mono_l k
  refine ⟨?_, ?_⟩
  ·intro y0 y1 y2
   unfold impl_WheelOk.j0
   repeat' first
   | (with_reducible exact ih0 _ _ _)
   | (with_reducible exact ih1 _ _ _ _ _)
   | (with_reducible exact impl_compareTimers.mono _ _ _ _ _)
   | (with_reducible exact LeO.refl _)
   | (with_reducible exact LeO.none _)
   | (with_reducible refine LeO.ite ?_ ?_)
   | (with_reducible refine LeO.bind ?_ (fun _ => ?_))
   | exact ih0 _ _ _
   | exact ih1 _ _ _ _ _
   | exact impl_compareTimers.mono _ _ _ _ _
   | exact LeO.none _
   | refine LeO.ite ?_ ?_
   | refine LeO.bind ?_ (fun _ => ?_)
  ·intro y0 y1 y2 y3 y4
   unfold impl_WheelOk.l0
   repeat' first
   | (with_reducible exact ih0 _ _ _)
   | (with_reducible exact ih1 _ _ _ _ _)
   | (with_reducible exact impl_compareTimers.mono _ _ _ _ _)
   | (with_reducible exact LeO.refl _)
   | (with_reducible exact LeO.none _)
   | (with_reducible refine LeO.ite ?_ ?_)
   | (with_reducible refine LeO.bind ?_ (fun _ => ?_))
   | exact ih0 _ _ _
   | exact ih1 _ _ _ _ _
   | exact impl_compareTimers.mono _ _ _ _ _
   | exact LeO.none _
   | refine LeO.ite ?_ ?_
   | refine LeO.bind ?_ (fun _ => ?_)
theorem impl_WheelOk.mono : ∀ a0 a1 k, LeO (impl_WheelOk.f k a0 a1) (impl_WheelOk.f (k + 1) a0 a1) := by
 intro a0 a1 k
 obtain ⟨ih0, ih1⟩ := impl_WheelOk.mono_l k
 unfold impl_WheelOk.f
 repeat' first
   | (with_reducible exact ih0 _ _ _)
   | (with_reducible exact ih1 _ _ _ _ _)
   | (with_reducible exact impl_compareTimers.mono _ _ _ _ _)
   | (with_reducible exact LeO.refl _)
   | (with_reducible exact LeO.none _)
   | (with_reducible refine LeO.ite ?_ ?_)
   | (with_reducible refine LeO.bind ?_ (fun _ => ?_))
   | exact ih0 _ _ _
   | exact ih1 _ _ _ _ _
   | exact impl_compareTimers.mono _ _ _ _ _
   | exact LeO.none _
   | refine LeO.ite ?_ ?_
   | refine LeO.bind ?_ (fun _ => ?_)
def impl_WheelOk.T6 : Bool × List (List Nat × List Nat) := (true, [([], []), ([0], [0]), ([1], [1]), ([2], [2]), ([3, 2], [3]), ([4], [4]), ([4], [4]), ([6, 4], [4, 6]), ([5, 7, 4, 4], [4, 5, 7]), ([4], [4]), ([8, 9, 4], [4, 8, 9]), ([4, 10], [4, 10]), ([11, 8], [11]), ([12], [12]), ([13, 12], [12, 13]), ([12], [12]), ([15, 12], [12, 15]), ([16, 12], [12, 16]), ([14, 17, 12, 12], [12, 14, 17]), ([18, 12], [12, 18]), ([12, 19], [12, 19]), ([20, 18], [20]), ([21], [21]), ([22, 21], [21, 22]), ([23, 21, 21], [21, 23]), ([24], [24]), ([25, 24], [24, 25]), ([24], [24]), ([27, 24], [24, 27]), ([26, 28, 24], [24, 26, 28]), ([29, 24], [24, 29]), ([24], [24]), ([30, 31, 24, 24], [24, 30, 31]), ([32, 24], [24, 32]), ([24, 33, 21], [21, 24, 33]), ([21, 34], [21, 34])])
def impl_WheelOk.B6 : List Nat := [0, 1, 3, 7, 15, 31, 31, 95, 255, 31, 1023, 2047, 4095, 8191, 16383, 8191, 40959, 106495, 262143, 524287, 1048575, 2097151, 4194303, 8388607, 16777215, 33554431, 67108863, 33554431, 167772159, 536870911, 1073741823, 33554431, 4294967295, 8589934591, 17179869183, 34359738367]
theorem impl_WheelOk.tab6 : rtab .any (opsOf Try.f34 6) = impl_WheelOk.T6 := by kernel_rfl
theorem impl_WheelOk.bits6 : waitsOk impl_WheelOk.T6.2 impl_WheelOk.B6 = true := by kernel_rfl
set_option maxHeartbeats 8000000 in
set_option maxRecDepth 100000 in
theorem impl_WheelOk.calls (k : Nat) (a0_0 : Int) (A0_1 : Option Addr) (c0_1 : Nat) (l0_1 : List (S93)) (r : Bool) (w : World) (hr0_1 : Kd.C k93 w A0_1 l0_1.length l0_1) (hc0_1 : l0_1.length ≤ c0_1) (h : impl_WheelOk.f k a0_0 l0_1 = some r) :
  Calls Try.prog 34 #[.agg #[.int .i64 a0_0, .slice A0_1 l0_1.length c0_1]] w fun e w' => e = .returned (.bool r) ∧ Below w.heap.size w w' := by
 have hu65 := Try.underlying65
 have hu93 := Try.underlying93
 have HR0_1 := Aside0.mk hr0_1
 have HC0_1 := Aside0.mk hc0_1
 clear hr0_1 hc0_1
 have HB := Aside0.mk (Below.refl w.heap.size w)
 have H : ((impl_within.f a0_0 0 1000000).bind fun t150 => (if t150 = true then (impl_WheelOk.j0 k (decide ((l0_1.length : Int) > 40)) a0_0 l0_1) else (impl_WheelOk.j0 k true a0_0 l0_1))) = some r := h
 clear h
 have HC2 := Aside0.mk H
 clear H
 go_enter Try.func34, Try.ntmps34
 go_upto_region 1 with (first | ((with_reducible refine gate_dst (N := 1) rfl ?_); (try (refine gate_guard (by rfl) ?_; dsimp only)); refine bx_ 1 #[.int .i64 a0_0, .slice A0_1 l0_1.length c0_1] 65 (h := ?_); intro gb149 hg w3 hbox hb; have BK149 := Aside0.mk (hbox); have GW149 := Aside0.mk ((by rw [hg]; exact (below_size bel) : w.heap.size ≤ gb149)); have GE149 := Aside0.mk ((by rw [hg]; exact (below_size bel) : w.heap.size ≤ gb149)); replace HB := Aside0.mk (below_step bel hb); clear hb hbox hg))
 (try simp only [Act.put, List.setIfInBounds_toArray, List.set_cons_zero, List.set_cons_succ])
 go_cut [14] (fun v14 wc => ∃ (kq : Nat) (x14_1 : Bool), v14 = .bool x14_1 ∧ Aside0 (impl_WheelOk.j0 kq x14_1 a0_0 l0_1 = some r) ∧ Aside0 (kq ≤ k) ∧ Aside0 (wc.heap[gb149]? = some (.cells #[.int .i64 a0_0, (.slice A0_1 l0_1.length c0_1)] 65 (0, 0))) ∧ Aside0 (Below w.heap.size w wc))
 case first =>
  have H := HC2.out
  clear HC2
  replace H := Option.bind_eq_some_iff.mp H
  obtain ⟨t150, A40, H⟩ := H
  replace H : (if t150 = true then (impl_WheelOk.j0 k (decide ((l0_1.length : Int) > 40)) a0_0 l0_1) else (impl_WheelOk.j0 k true a0_0 l0_1)) = some r := H
  have A4 := Aside0.mk A40
  clear A40
  by_cases c5 : t150 = true
  ·subst c5
   have H1 : (impl_WheelOk.j0 k (decide ((l0_1.length : Int) > 40)) a0_0 l0_1) = some r := by rw [if_pos rfl] at H; exact H
   clear H
   have H := H1
   clear H1
   have H' := Aside0.mk H
   clear H
   obtain ⟨hcz6_0, hcz6_1, -⟩ := cells_2 BK149.out trivial
   obtain ⟨hfz6_0, hfz6_1, -⟩ := frz_2 BK149.out
   go_wp2_with (first | ((with_reducible refine gate_callee (f := 50) rfl ?_); refine gl_ (some 7) Try.func50 #[.int .i64 a0_0, .int .i64 0, .int .i64 1000000] (h := ?_); (with_reducible refine (impl_within.calls a0_0 0 1000000 true _ A4.out).mono ?_); rintro e w' ⟨rfl, ⟨nd, rfl⟩⟩; refine ⟨_, rfl, ?_⟩))
   go_meet
   case rel => exact ⟨_, (decide ((l0_1.length : Int) > 40)), (by first | rfl | (simp; done) | (simp [*]; done)), H', ⟨by first | omega | exact Nat.le_refl _⟩, ⟨by (with_reducible repeat (first | refine blk_drewN ?_ _ | refine blk_drew ?_ | refine blk_alloc ?_ _)); exact BK149.out⟩, ⟨by repeat (first | (with_reducible first | exact HB.out | apply below_alloc | apply pw_below_drewN | apply below_drew1 | refine below_set ?_ GE149.out) | exact HB.out)⟩⟩
  ·replace c5 := Bool.eq_false_iff.mpr c5
   subst c5
   have H1 : (impl_WheelOk.j0 k true a0_0 l0_1) = some r := by rw [if_neg (show ¬ (false = true) by decide)] at H; exact H
   clear H
   have H := H1
   clear H1
   have H' := Aside0.mk H
   clear H
   obtain ⟨hcz7_0, hcz7_1, -⟩ := cells_2 BK149.out trivial
   obtain ⟨hfz7_0, hfz7_1, -⟩ := frz_2 BK149.out
   go_wp2_with (first | ((with_reducible refine gate_callee (f := 50) rfl ?_); refine gl_ (some 7) Try.func50 #[.int .i64 a0_0, .int .i64 0, .int .i64 1000000] (h := ?_); (with_reducible refine (impl_within.calls a0_0 0 1000000 false _ A4.out).mono ?_); rintro e w' ⟨rfl, ⟨nd, rfl⟩⟩; refine ⟨_, rfl, ?_⟩))
   go_meet
   case rel => exact ⟨_, (true), (by first | rfl | (simp; done) | (simp [*]; done)), H', ⟨by first | omega | exact Nat.le_refl _⟩, ⟨by (with_reducible repeat (first | refine blk_drewN ?_ _ | refine blk_drew ?_ | refine blk_alloc ?_ _)); exact BK149.out⟩, ⟨by repeat (first | (with_reducible first | exact HB.out | apply below_alloc | apply pw_below_drewN | apply below_drew1 | refine below_set ?_ GE149.out) | exact HB.out)⟩⟩
 case rest =>
  clear HC2
  try clear p2; try clear c3; try clear c5; try clear hcz6_0; try clear hcz6_1; try clear hcz7_0; try clear hcz7_1; try clear hfz6_0; try clear hfz6_1; try clear hfz7_0; try clear hfz7_1
  obtain ⟨kq, x14_1, rfl, HA, HJ1, BK149, HB⟩ := hcut
  cases kq with
  | zero => exact absurd HA.out (by simp [impl_WheelOk.j0])
  | succ kj1 =>
   have H := HA.out
   clear HA
   simp only [impl_WheelOk.j0] at H
   by_cases c8 : x14_1 = true
   ·subst c8
    have H1 : (some false) = some r := by rw [if_pos rfl] at H; exact H
    clear H
    have H := H1
    clear H1
    obtain rfl := Option.some.inj H
    go_wp2
    go_ret
    exact ⟨by first | rfl | (simp [errW_none, errW_some] <;> rfl) | (simp [*, errW_none, errW_some] <;> rfl), by repeat (first | (with_reducible first | exact HB.out | apply below_alloc | apply pw_below_drewN | apply below_drew1 | refine below_set ?_ GE149.out) | exact HB.out)⟩
   ·replace c8 := Bool.eq_false_iff.mpr c8
    subst c8
    have H1 : (impl_WheelOk.l0 kj1 l0_1 (l0_1.length : Int) 0 a0_0 l0_1) = some r := by rw [if_neg (show ¬ (false = true) by decide)] at H; exact H
    clear H
    have H := H1
    clear H1
    have H' := Aside0.mk H
    clear H
    obtain ⟨hcz9_0, hcz9_1, -⟩ := cells_2 BK149.out trivial
    obtain ⟨hfz9_0, hfz9_1, -⟩ := frz_2 BK149.out
    go_wp2
    go_loopg [18] kj1 (fun kq v18 w' => ∃ (x18_2 : Int), v18 = .int .i64 x18_2 ∧ Aside0 (impl_WheelOk.l0 kq l0_1 (l0_1.length : Int) x18_2 a0_0 l0_1 = some r) ∧ Aside0 (kq ≤ kj1) ∧ Aside0 (w'.heap[gb149]? = some (.cells #[.int .i64 a0_0, (.slice A0_1 l0_1.length c0_1)] 65 (0, 0))) ∧ Aside0 (Below w.heap.size w w'))
    case atStart => exact ⟨(0), (by first | rfl | (simp; done) | (simp [*]; done)), H', ⟨Nat.le_refl _⟩, ⟨by (with_reducible repeat (first | refine blk_drewN ?_ _ | refine blk_drew ?_ | refine blk_alloc ?_ _)); exact BK149.out⟩, ⟨by repeat (first | (with_reducible first | exact HB.out | apply below_alloc | apply pw_below_drewN | apply below_drew1 | refine below_set ?_ GE149.out) | exact HB.out)⟩⟩
    case round =>
     clear H'
     try clear p2; try clear c3; try clear c5; try clear c8; try clear hcz6_0; try clear hcz6_1; try clear hcz7_0; try clear hcz7_1; try clear hcz9_0; try clear hcz9_1; try clear hfz6_0; try clear hfz6_1; try clear hfz7_0; try clear hfz7_1; try clear hfz9_0; try clear hfz9_1; try clear p2
     obtain ⟨x18_2, rfl, HA, HK2, BK149, HB⟩ := hrel
     cases gk with
     | zero => exact absurd HA.out (by simp [impl_WheelOk.l0])
     | succ k2 =>
      have H := HA.out
      clear HA
      simp only [impl_WheelOk.l0] at H
      by_cases c10 : x18_2 < (l0_1.length : Int)
      ·rw [if_pos c10] at H
       have c10b0 : decide (x18_2 < (l0_1.length : Int)) = true := decide_eq_true c10
       clear c10
       by_cases c11 : 0 ≤ x18_2
       ·rw [if_pos c11] at H
        have c11b0 : decide (0 ≤ x18_2) = true := decide_eq_true c11
        clear c11
        by_cases c12 : x18_2 < (l0_1.length : Int)
        ·rw [if_pos c12] at H
         have c12b0 : decide (x18_2 < (l0_1.length : Int)) = true := decide_eq_true c12
         clear c12
         replace H := Option.bind_eq_some_iff.mp H
         obtain ⟨t153, A130, H⟩ := H
         replace H : (if t153 = true then ((impl_Wheel_timer.f a0_0 l0_1 ((rd_T93 l0_1 x18_2).f0)).bind fun t154 => (if t154 = x18_2 then ((impl_within.f ((rd_T93 l0_1 x18_2).f1) (wrap64 (a0_0 + 1)) 2000000).bind fun t155 => (if t155 = true then (if x18_2 > 0 then (if 0 ≤ (wrap64 (x18_2 - 1)) then (if (wrap64 (x18_2 - 1)) < (l0_1.length : Int) then ((impl_compareTimers.f k2 ((rd_T93 l0_1 (wrap64 (x18_2 - 1))).f0) ((rd_T93 l0_1 (wrap64 (x18_2 - 1))).f1) ((rd_T93 l0_1 x18_2).f0) ((rd_T93 l0_1 x18_2).f1)).bind fun t157 => (if t157 ≥ 0 then (some false) else (impl_WheelOk.l0 k2 l0_1 (l0_1.length : Int) (wrap64 (x18_2 + 1)) a0_0 l0_1))) else (none)) else (none)) else (impl_WheelOk.l0 k2 l0_1 (l0_1.length : Int) (wrap64 (x18_2 + 1)) a0_0 l0_1)) else (some false))) else (some false))) else (some false)) = some r := H
         have A13 := Aside0.mk A130
         clear A130
         by_cases c14 : t153 = true
         ·subst c14
          have H1 : ((impl_Wheel_timer.f a0_0 l0_1 ((rd_T93 l0_1 x18_2).f0)).bind fun t154 => (if t154 = x18_2 then ((impl_within.f ((rd_T93 l0_1 x18_2).f1) (wrap64 (a0_0 + 1)) 2000000).bind fun t155 => (if t155 = true then (if x18_2 > 0 then (if 0 ≤ (wrap64 (x18_2 - 1)) then (if (wrap64 (x18_2 - 1)) < (l0_1.length : Int) then ((impl_compareTimers.f k2 ((rd_T93 l0_1 (wrap64 (x18_2 - 1))).f0) ((rd_T93 l0_1 (wrap64 (x18_2 - 1))).f1) ((rd_T93 l0_1 x18_2).f0) ((rd_T93 l0_1 x18_2).f1)).bind fun t157 => (if t157 ≥ 0 then (some false) else (impl_WheelOk.l0 k2 l0_1 (l0_1.length : Int) (wrap64 (x18_2 + 1)) a0_0 l0_1))) else (none)) else (none)) else (impl_WheelOk.l0 k2 l0_1 (l0_1.length : Int) (wrap64 (x18_2 + 1)) a0_0 l0_1)) else (some false))) else (some false))) = some r := by rw [if_pos rfl] at H; exact H
          clear H
          have H := H1
          clear H1
          replace H := Option.bind_eq_some_iff.mp H
          obtain ⟨t154, A150, H⟩ := H
          replace H : (if t154 = x18_2 then ((impl_within.f ((rd_T93 l0_1 x18_2).f1) (wrap64 (a0_0 + 1)) 2000000).bind fun t155 => (if t155 = true then (if x18_2 > 0 then (if 0 ≤ (wrap64 (x18_2 - 1)) then (if (wrap64 (x18_2 - 1)) < (l0_1.length : Int) then ((impl_compareTimers.f k2 ((rd_T93 l0_1 (wrap64 (x18_2 - 1))).f0) ((rd_T93 l0_1 (wrap64 (x18_2 - 1))).f1) ((rd_T93 l0_1 x18_2).f0) ((rd_T93 l0_1 x18_2).f1)).bind fun t157 => (if t157 ≥ 0 then (some false) else (impl_WheelOk.l0 k2 l0_1 (l0_1.length : Int) (wrap64 (x18_2 + 1)) a0_0 l0_1))) else (none)) else (none)) else (impl_WheelOk.l0 k2 l0_1 (l0_1.length : Int) (wrap64 (x18_2 + 1)) a0_0 l0_1)) else (some false))) else (some false)) = some r := H
          have A15 := Aside0.mk A150
          clear A150
          by_cases c16 : t154 = x18_2
          ·rw [if_pos c16] at H
           have c16b0 : (t154 == x18_2) = true := beq_iff_eq.mpr c16
           have c16b1 : (t154 != x18_2) = false := bne_eq_false_iff_eq.mpr c16
           clear c16
           replace H := Option.bind_eq_some_iff.mp H
           obtain ⟨t155, A170, H⟩ := H
           replace H : (if t155 = true then (if x18_2 > 0 then (if 0 ≤ (wrap64 (x18_2 - 1)) then (if (wrap64 (x18_2 - 1)) < (l0_1.length : Int) then ((impl_compareTimers.f k2 ((rd_T93 l0_1 (wrap64 (x18_2 - 1))).f0) ((rd_T93 l0_1 (wrap64 (x18_2 - 1))).f1) ((rd_T93 l0_1 x18_2).f0) ((rd_T93 l0_1 x18_2).f1)).bind fun t157 => (if t157 ≥ 0 then (some false) else (impl_WheelOk.l0 k2 l0_1 (l0_1.length : Int) (wrap64 (x18_2 + 1)) a0_0 l0_1))) else (none)) else (none)) else (impl_WheelOk.l0 k2 l0_1 (l0_1.length : Int) (wrap64 (x18_2 + 1)) a0_0 l0_1)) else (some false)) = some r := H
           have A17 := Aside0.mk A170
           clear A170
           by_cases c18 : t155 = true
           ·subst c18
            have H1 : (if x18_2 > 0 then (if 0 ≤ (wrap64 (x18_2 - 1)) then (if (wrap64 (x18_2 - 1)) < (l0_1.length : Int) then ((impl_compareTimers.f k2 ((rd_T93 l0_1 (wrap64 (x18_2 - 1))).f0) ((rd_T93 l0_1 (wrap64 (x18_2 - 1))).f1) ((rd_T93 l0_1 x18_2).f0) ((rd_T93 l0_1 x18_2).f1)).bind fun t157 => (if t157 ≥ 0 then (some false) else (impl_WheelOk.l0 k2 l0_1 (l0_1.length : Int) (wrap64 (x18_2 + 1)) a0_0 l0_1))) else (none)) else (none)) else (impl_WheelOk.l0 k2 l0_1 (l0_1.length : Int) (wrap64 (x18_2 + 1)) a0_0 l0_1)) = some r := by rw [if_pos rfl] at H; exact H
            clear H
            have H := H1
            clear H1
            by_cases c19 : x18_2 > 0
            ·rw [if_pos c19] at H
             have c19b0 : decide (0 < x18_2) = true := decide_eq_true c19
             clear c19
             obtain ⟨ji20, hji20⟩ : ∃ j_ : Int, (wrap64 (x18_2 - 1)) = j_ := ⟨_, rfl⟩
             replace H : (if 0 ≤ (ji20) then (if (ji20) < (l0_1.length : Int) then ((impl_compareTimers.f k2 ((rd_T93 l0_1 (ji20)).f0) ((rd_T93 l0_1 (ji20)).f1) ((rd_T93 l0_1 x18_2).f0) ((rd_T93 l0_1 x18_2).f1)).bind fun t157 => (if t157 ≥ 0 then (some false) else (impl_WheelOk.l0 k2 l0_1 (l0_1.length : Int) (wrap64 (x18_2 + 1)) a0_0 l0_1))) else (none)) else (none)) = some r := by first | (rw [hji20] at H; exact H) | (simp only [hji20] at H ⊢; exact H)
             (try rw [hji20] at A13)
             (try rw [hji20] at A15)
             (try rw [hji20] at A17)
             have hji20w : (IntKind.i64.wrap (x18_2 - 1)) = ji20 := (i64_w _).trans hji20
             by_cases c21 : 0 ≤ (ji20)
             ·rw [if_pos c21] at H
              have c21b0 : decide (0 ≤ (ji20)) = true := decide_eq_true c21
              clear c21
              by_cases c22 : (ji20) < (l0_1.length : Int)
              ·rw [if_pos c22] at H
               have c22b0 : decide ((ji20) < (l0_1.length : Int)) = true := decide_eq_true c22
               clear c22
               replace H := Option.bind_eq_some_iff.mp H
               obtain ⟨t157, A230, H⟩ := H
               replace H : (if t157 ≥ 0 then (some false) else (impl_WheelOk.l0 k2 l0_1 (l0_1.length : Int) (wrap64 (x18_2 + 1)) a0_0 l0_1)) = some r := H
               have A23 := Aside0.mk A230
               clear A230
               by_cases c24 : t157 ≥ 0
               ·rw [if_pos c24] at H
                have c24b0 : decide (0 ≤ t157) = true := decide_eq_true c24
                clear c24
                obtain rfl := Option.some.inj H
                have p151 : 0 ≤ (x18_2 : Int) := od
                have q151 : x18_2 < (l0_1.length : Int) := od
                obtain ⟨ad151, e151, hx151_0, hx151_1⟩ := at_T93 HR0_1.out x18_2 p151 q151
                cases e151
                replace hx151_0 := hxb HB hx151_0
                replace hx151_1 := hxb HB hx151_1
                replace p151 := eq_true p151
                replace q151 := eq_true q151
                try go_wp2_with (first | ((with_reducible refine gate_dst (N := 4) rfl ?_); (try (refine gate_guard (by rfl) ?_; dsimp only)); refine bx_ 4 #[.int .i64 0, .int .i64 0] 93 (h := ?_); intro gb152 hg w25 hbox hb; have BK152 := Aside0.mk (hbox); have GW152 := Aside0.mk ((by rw [hg]; exact (below_size bel) : w.heap.size ≤ gb152)); have GE152 := Aside0.mk ((by rw [hg]; exact (below_size bel) : w.heap.size ≤ gb152)); have NB149_152 := Aside0.mk ((by rw [hg]; exact Nat.ne_of_lt (blt BK149) : gb149 ≠ gb152)); have NB152_149 := Aside0.mk ((by rw [hg]; exact Nat.ne_of_gt (blt BK149) : gb152 ≠ gb149)); replace BK149 := Aside0.mk (blb BK149 hb); replace HB := Aside0.mk (below_step bel hb); clear hb hbox hg; have hnb26 := NB152_149.out; have hnc26 := NB149_152.out; obtain ⟨hcz27_0, hcz27_1, -⟩ := cells_2 BK152.out trivial; obtain ⟨hfz27_0, hfz27_1, -⟩ := frz_2 BK152.out))
                have n0_ : Aside0 (((w25.setCell ⟨gb152, 0, none⟩ (.int .i64 ((rd_T93 l0_1 x18_2).f0))).setCell ⟨gb152, 1, none⟩ (.int .i64 ((rd_T93 l0_1 x18_2).f1))).heap[gb149]? = some (.cells #[.int .i64 a0_0, .slice (some ad151) l0_1.length c0_1] 65 (0, 0))) := ⟨by (with_reducible repeat (first | refine blk_drewN ?_ _ | refine blk_drew ?_ | refine blk_alloc ?_ _)); refine blk_far ?_ NB149_152.out _; (with_reducible repeat (first | refine blk_drewN ?_ _ | refine blk_drew ?_ | refine blk_alloc ?_ _)); refine blk_far ?_ NB149_152.out _; (with_reducible repeat (first | refine blk_drewN ?_ _ | refine blk_drew ?_ | refine blk_alloc ?_ _)); exact BK149.out⟩
                have n1_ : Aside0 (((w25.setCell ⟨gb152, 0, none⟩ (.int .i64 ((rd_T93 l0_1 x18_2).f0))).setCell ⟨gb152, 1, none⟩ (.int .i64 ((rd_T93 l0_1 x18_2).f1))).heap[gb152]? = some (.cells #[.int .i64 ((rd_T93 l0_1 x18_2).f0), .int .i64 ((rd_T93 l0_1 x18_2).f1)] 93 (0, 0))) := ⟨by (with_reducible repeat (first | refine blk_drewN ?_ _ | refine blk_drew ?_ | refine blk_alloc ?_ _)); refine blk_put (cs := #[.int .i64 ((rd_T93 l0_1 x18_2).f0), .int .i64 0]) ?_ 1 _ rfl; (with_reducible repeat (first | refine blk_drewN ?_ _ | refine blk_drew ?_ | refine blk_alloc ?_ _)); refine blk_put (cs := #[.int .i64 0, .int .i64 0]) ?_ 0 _ rfl; (with_reducible repeat (first | refine blk_drewN ?_ _ | refine blk_drew ?_ | refine blk_alloc ?_ _)); exact BK152.out⟩
                have n2_ : Aside0 (Below w.heap.size w ((w25.setCell ⟨gb152, 0, none⟩ (.int .i64 ((rd_T93 l0_1 x18_2).f0))).setCell ⟨gb152, 1, none⟩ (.int .i64 ((rd_T93 l0_1 x18_2).f1)))) := ⟨by repeat (first | (with_reducible first | exact HB.out | apply below_alloc | apply pw_below_drewN | apply below_drew1 | refine below_set ?_ GE149.out | refine below_set ?_ GE152.out) | exact HB.out)⟩
                (try clear BK149)
                (try clear BK152)
                (try clear HB)
                generalize ((w25.setCell ⟨gb152, 0, none⟩ (.int .i64 ((rd_T93 l0_1 x18_2).f0))).setCell ⟨gb152, 1, none⟩ (.int .i64 ((rd_T93 l0_1 x18_2).f1))) = w28 at n0_ n1_ n2_ ⊢
                have BK149 := n0_
                have BK152 := n1_
                have HB := n2_
                clear n0_ n1_ n2_
                replace BK149 := Aside0.mk (blk_drew BK149.out)
                replace BK152 := Aside0.mk (blk_drew BK152.out)
                replace HB := Aside0.mk (below_drew1 HB.out)
                have p156 : 0 ≤ ((ji20) : Int) := od
                have q156 : (ji20) < (l0_1.length : Int) := od
                obtain ⟨ad156, e156, hx156_0, hx156_1⟩ := at_T93 HR0_1.out (ji20) p156 q156
                have hw156_1 := hx156_1
                have hw156_0 := hx156_0
                obtain rfl : ad151 = ad156 := (by injection e156)
                replace hx156_0 := hxb HB hx156_0
                replace hx156_1 := hxb HB hx156_1
                replace p156 := eq_true p156
                replace q156 := eq_true q156
                refine start_ (n := 36) (S := fun w' => w'.cell? ⟨gb152, 0, none⟩ = some (.int .i64 ((rd_T93 l0_1 x18_2).f0)) ∧ w'.cell? ⟨gb152, 1, none⟩ = some (.int .i64 ((rd_T93 l0_1 x18_2).f1)) ∧ w'.cell? ⟨gb149, 0, none⟩ = some (.int .i64 a0_0) ∧ w'.cell? ⟨gb149, 1, none⟩ = some (.slice (some ad151) l0_1.length c0_1) ∧ w'.cell? (ad151.add (((ji20)).toNat * 2)) = some (.int .i64 ((rd_T93 l0_1 (ji20)).f0)) ∧ w'.cell? ⟨(ad151.add (((ji20)).toNat * 2)).block, (ad151.add (((ji20)).toNat * 2)).off + 1, none⟩ = some (.int .i64 ((rd_T93 l0_1 (ji20)).f1))) (ds := []) (tf 0 36) (by kernel_rfl) rfl rfl (cells_2 BK152.out ⟨(blk_cell BK149.out 0).trans rfl, (blk_cell BK149.out 1).trans rfl, (hxb HB hw156_0 :), (hxb HB hw156_1 :)⟩) (fun hHeld => ?_); refine with_tabW impl_WheelOk.tab6 impl_WheelOk.bits6 (fun HT_ HW_ => ?_)
                generalize w28.drew = w29 at BK149 BK152 HB hx156_0 hx156_1 hHeld ⊢
                refine pv_ HT_ 0 (some 23) (tf 1 35) (h := ?_)
                refine tv_ HT_ HW_ hHeld 1 (some 24) (tf 2 34) (h := ?_)
                refine one_ (i := 2) (N := some 25) (tf 3 33) rfl rfl (one_of HT_.out (by kernel_rfl)) (by decide) (fun K hK => ?_)
                refine gs_ Try.func63 #[.int .i64 ((rd_T93 l0_1 x18_2).f0)] (h := ?_)
                with_reducible refine (impl_isId.calls ((rd_T93 l0_1 x18_2).f0) true _ A13.out).mono ?_
                rintro e w' ⟨rfl, ⟨nd, rfl⟩⟩
                refine ⟨_, rfl, ?_⟩
                refine hK.out _ _ (cells_2 BK152.out ⟨(blk_cell BK149.out 0).trans rfl, (blk_cell BK149.out 1).trans rfl, (hxb HB hw156_0 :), (hxb HB hw156_1 :)⟩) (fun hHeld => ?_)
                clear hK K
                refine norm_ (a' := ?_) ?_ ?_
                rotate_left
                ·show Act.put _ (some 25) _ = _
                 simp only [Act.put, List.setIfInBounds_toArray, List.set_cons_zero, List.set_cons_succ, i64_w, i32_w]
                 rfl
                refine pv_ HT_ 3 (some 26) (tf 4 32) (h := ?_)
                refine pv_ HT_ 4 (some 27) (tf 5 31) (h := ?_)
                refine pv_ HT_ 6 (some 29) (tb 36 95) (h := ?_)
                refine pv_ HT_ 9 (some 32) (tb 36 607) (h := ?_)
                refine tv_ HT_ HW_ hHeld 5 (some 28) (tb 36 639) (h := ?_)
                refine tv_ HT_ HW_ hHeld 7 (some 30) (tb 36 767) (h := ?_)
                refine one_ (i := 8) (N := some 31) (tf 10 26) rfl rfl (one_of HT_.out (by kernel_rfl)) (by decide) (fun K hK => ?_)
                refine gs_ Try.func64 #[.agg #[.int .i64 a0_0, .slice (some ad151) l0_1.length c0_1], .int .i64 ((rd_T93 l0_1 x18_2).f0)] (h := ?_)
                with_reducible refine (impl_Wheel_timer.calls a0_0 _ _ l0_1 ((rd_T93 l0_1 x18_2).f0) t154 _ ?side1 ?side2 A15.out).mono ?_
                (case side1 => exact kcb)
                (case side2 => exact HC0_1.out)
                rintro e w30 ⟨rfl, hb⟩
                refine ⟨_, rfl, ?_⟩
                replace BK149 := Aside0.mk (blb BK149 hb)
                replace BK152 := Aside0.mk (blb BK152 hb)
                replace HB := Aside0.mk (below_step bel hb)
                (try clear hb)
                (try clear hb2)
                (try clear hk)
                (try clear hi)
                refine hK.out _ _ (cells_2 BK152.out ⟨(blk_cell BK149.out 0).trans rfl, (blk_cell BK149.out 1).trans rfl, (hxb HB hw156_0 :), (hxb HB hw156_1 :)⟩) (fun hHeld => ?_)
                clear hK K
                refine norm_ (a' := ?_) ?_ ?_
                rotate_left
                ·show Act.put _ (some 31) _ = _
                 simp only [Act.put, List.setIfInBounds_toArray, List.set_cons_zero, List.set_cons_succ, i64_w, i32_w]
                 rfl
                refine pv_ HT_ 10 (some 33) (tf 11 25) (h := ?_)
                refine pv_ HT_ 11 (some 34) (tf 12 24) (h := ?_)
                refine pv_ HT_ 12 (some 35) (tf 13 23) (h := ?_)
                refine pv_ HT_ 13 (some 36) (tf 14 22) (h := ?_)
                refine pv_ HT_ 15 (some 38) (tb 36 49151) (h := ?_)
                refine tv_ HT_ HW_ hHeld 14 (some 37) (tf 16 20) (h := ?_)
                refine tv_ HT_ HW_ hHeld 16 (some 39) (tf 17 19) (h := ?_)
                refine pv_ HT_ 17 (some 40) (tf 18 18) (h := ?_)
                refine one_ (i := 18) (N := some 41) (tf 19 17) rfl rfl (one_of HT_.out (by kernel_rfl)) (by decide) (fun K hK => ?_)
                refine gs_ Try.func50 #[.int .i64 ((rd_T93 l0_1 x18_2).f1), .int .i64 (wrap64 (a0_0 + 1)), .int .i64 2000000] (h := ?_)
                with_reducible refine (impl_within.calls ((rd_T93 l0_1 x18_2).f1) (wrap64 (a0_0 + 1)) 2000000 true _ A17.out).mono ?_
                rintro e w' ⟨rfl, ⟨nd, rfl⟩⟩
                refine ⟨_, rfl, ?_⟩
                refine hK.out _ _ (cells_2 BK152.out ⟨(blk_cell BK149.out 0).trans rfl, (blk_cell BK149.out 1).trans rfl, (hxb HB hw156_0 :), (hxb HB hw156_1 :)⟩) (fun hHeld => ?_)
                clear hK K
                refine norm_ (a' := ?_) ?_ ?_
                rotate_left
                ·show Act.put _ (some 41) _ = _
                 simp only [Act.put, List.setIfInBounds_toArray, List.set_cons_zero, List.set_cons_succ, i64_w, i32_w]
                 rfl
                refine pv_ HT_ 19 (some 42) (tf 20 16) (h := ?_)
                refine pv_ HT_ 20 (some 43) (tf 21 15) (h := ?_)
                refine pv_ HT_ 21 (some 44) (tf 22 14) (h := ?_)
                refine pv_ HT_ 22 (some 45) (tf 23 13) (h := ?_)
                refine pv_ HT_ 23 (some 46) (tf 24 12) (h := ?_)
                refine pv_ HT_ 24 (some 47) (tf 25 11) (h := ?_)
                refine pv_ HT_ 25 (some 48) (tf 26 10) (h := ?_)
                refine pv_ HT_ 27 (some 50) (tb 36 201326591) (h := ?_)
                refine pv_ HT_ 28 (some 51) (tb 36 469762047) (h := ?_)
                refine tv_ HT_ HW_ hHeld 26 (some 49) (tf 29 7) (h := ?_)
                refine pv_ HT_ 29 (some 52) (tf 30 6) (h := ?_)
                refine tv_ HT_ HW_ hHeld 30 (some 53) (tf 31 5) (h := ?_)
                refine tv_ HT_ HW_ hHeld 31 (some 54) (tf 32 4) (h := ?_)
                refine one_ (i := 32) (N := some 55) (tf 33 3) rfl rfl (one_of HT_.out (by kernel_rfl)) (by decide) (fun K hK => ?_)
                refine goes_ Try.func65 (by kernel_rfl) rfl #[.agg #[.int .i64 ((rd_T93 l0_1 (ji20)).f0), .int .i64 ((rd_T93 l0_1 (ji20)).f1)], .agg #[.int .i64 ((rd_T93 l0_1 x18_2).f0), .int .i64 ((rd_T93 l0_1 x18_2).f1)]] (by rfl) rfl rfl (by (try simp only [List.map_toArray, List.map_cons, List.map_nil]); first | done | (simp only [hji20]; rfl) | rfl | (simp only [List.length_drop, List.length_take]; rfl)) ?_
                with_reducible refine (impl_compareTimers.calls k2 ((rd_T93 l0_1 (ji20)).f0) ((rd_T93 l0_1 (ji20)).f1) ((rd_T93 l0_1 x18_2).f0) ((rd_T93 l0_1 x18_2).f1) t157 _ A23.out).mono ?_
                rintro e w31 ⟨rfl, hb⟩
                refine ⟨_, rfl, ?_⟩
                replace BK149 := Aside0.mk (blb BK149 hb)
                replace BK152 := Aside0.mk (blb BK152 hb)
                replace HB := Aside0.mk (below_step bel hb)
                (try clear hb)
                (try clear hb2)
                (try clear hk)
                (try clear hi)
                refine hK.out _ _ (cells_2 BK152.out ⟨(blk_cell BK149.out 0).trans rfl, (blk_cell BK149.out 1).trans rfl, (hxb HB hw156_0 :), (hxb HB hw156_1 :)⟩) (fun hHeld => ?_)
                clear hK K
                refine norm_ (a' := ?_) ?_ ?_
                rotate_left
                ·show Act.put _ (some 55) _ = _
                 simp only [Act.put, List.setIfInBounds_toArray, List.set_cons_zero, List.set_cons_succ, i64_w, i32_w]
                 rfl
                refine pv_ HT_ 33 (some 56) (tf 34 2) (h := ?_)
                refine pv_ HT_ 34 (some 57) (tf 35 1) (h := ?_)
                refine pv_ HT_ 35 (some 58) (tf 36 0) (h := ?_)
                refine done_ (done_of HT_.out (by kernel_rfl)) ?_
                try go_wp2
                go_ret
                exact ⟨by first | rfl | (simp [errW_none, errW_some] <;> rfl) | (simp only [← hji20]; first | rfl | (simp [errW_none, errW_some] <;> rfl)) | (simp [*, errW_none, errW_some] <;> rfl), by repeat (first | (with_reducible first | exact HB.out | apply below_alloc | apply pw_below_drewN | apply below_drew1 | refine below_set ?_ GE149.out | refine below_set ?_ GE152.out) | exact HB.out)⟩
               ·rw [if_neg c24] at H
                have c24b0 : decide (0 ≤ t157) = false := decide_eq_false c24
                clear c24
                have H' := Aside0.mk H
                clear H
                have p151 : 0 ≤ (x18_2 : Int) := od
                have q151 : x18_2 < (l0_1.length : Int) := od
                obtain ⟨ad151, e151, hx151_0, hx151_1⟩ := at_T93 HR0_1.out x18_2 p151 q151
                cases e151
                replace hx151_0 := hxb HB hx151_0
                replace hx151_1 := hxb HB hx151_1
                replace p151 := eq_true p151
                replace q151 := eq_true q151
                try go_wp2_with (first | ((with_reducible refine gate_dst (N := 4) rfl ?_); (try (refine gate_guard (by rfl) ?_; dsimp only)); refine bx_ 4 #[.int .i64 0, .int .i64 0] 93 (h := ?_); intro gb152 hg w32 hbox hb; have BK152 := Aside0.mk (hbox); have GW152 := Aside0.mk ((by rw [hg]; exact (below_size bel) : w.heap.size ≤ gb152)); have GE152 := Aside0.mk ((by rw [hg]; exact (below_size bel) : w.heap.size ≤ gb152)); have NB149_152 := Aside0.mk ((by rw [hg]; exact Nat.ne_of_lt (blt BK149) : gb149 ≠ gb152)); have NB152_149 := Aside0.mk ((by rw [hg]; exact Nat.ne_of_gt (blt BK149) : gb152 ≠ gb149)); replace BK149 := Aside0.mk (blb BK149 hb); replace HB := Aside0.mk (below_step bel hb); clear hb hbox hg; have hnb33 := NB152_149.out; have hnc33 := NB149_152.out; obtain ⟨hcz34_0, hcz34_1, -⟩ := cells_2 BK152.out trivial; obtain ⟨hfz34_0, hfz34_1, -⟩ := frz_2 BK152.out))
                have n0_ : Aside0 (((w32.setCell ⟨gb152, 0, none⟩ (.int .i64 ((rd_T93 l0_1 x18_2).f0))).setCell ⟨gb152, 1, none⟩ (.int .i64 ((rd_T93 l0_1 x18_2).f1))).heap[gb149]? = some (.cells #[.int .i64 a0_0, .slice (some ad151) l0_1.length c0_1] 65 (0, 0))) := ⟨by (with_reducible repeat (first | refine blk_drewN ?_ _ | refine blk_drew ?_ | refine blk_alloc ?_ _)); refine blk_far ?_ NB149_152.out _; (with_reducible repeat (first | refine blk_drewN ?_ _ | refine blk_drew ?_ | refine blk_alloc ?_ _)); refine blk_far ?_ NB149_152.out _; (with_reducible repeat (first | refine blk_drewN ?_ _ | refine blk_drew ?_ | refine blk_alloc ?_ _)); exact BK149.out⟩
                have n1_ : Aside0 (((w32.setCell ⟨gb152, 0, none⟩ (.int .i64 ((rd_T93 l0_1 x18_2).f0))).setCell ⟨gb152, 1, none⟩ (.int .i64 ((rd_T93 l0_1 x18_2).f1))).heap[gb152]? = some (.cells #[.int .i64 ((rd_T93 l0_1 x18_2).f0), .int .i64 ((rd_T93 l0_1 x18_2).f1)] 93 (0, 0))) := ⟨by (with_reducible repeat (first | refine blk_drewN ?_ _ | refine blk_drew ?_ | refine blk_alloc ?_ _)); refine blk_put (cs := #[.int .i64 ((rd_T93 l0_1 x18_2).f0), .int .i64 0]) ?_ 1 _ rfl; (with_reducible repeat (first | refine blk_drewN ?_ _ | refine blk_drew ?_ | refine blk_alloc ?_ _)); refine blk_put (cs := #[.int .i64 0, .int .i64 0]) ?_ 0 _ rfl; (with_reducible repeat (first | refine blk_drewN ?_ _ | refine blk_drew ?_ | refine blk_alloc ?_ _)); exact BK152.out⟩
                have n2_ : Aside0 (Below w.heap.size w ((w32.setCell ⟨gb152, 0, none⟩ (.int .i64 ((rd_T93 l0_1 x18_2).f0))).setCell ⟨gb152, 1, none⟩ (.int .i64 ((rd_T93 l0_1 x18_2).f1)))) := ⟨by repeat (first | (with_reducible first | exact HB.out | apply below_alloc | apply pw_below_drewN | apply below_drew1 | refine below_set ?_ GE149.out | refine below_set ?_ GE152.out) | exact HB.out)⟩
                (try clear BK149)
                (try clear BK152)
                (try clear HB)
                generalize ((w32.setCell ⟨gb152, 0, none⟩ (.int .i64 ((rd_T93 l0_1 x18_2).f0))).setCell ⟨gb152, 1, none⟩ (.int .i64 ((rd_T93 l0_1 x18_2).f1))) = w35 at n0_ n1_ n2_ ⊢
                have BK149 := n0_
                have BK152 := n1_
                have HB := n2_
                clear n0_ n1_ n2_
                replace BK149 := Aside0.mk (blk_drew BK149.out)
                replace BK152 := Aside0.mk (blk_drew BK152.out)
                replace HB := Aside0.mk (below_drew1 HB.out)
                have p156 : 0 ≤ ((ji20) : Int) := od
                have q156 : (ji20) < (l0_1.length : Int) := od
                obtain ⟨ad156, e156, hx156_0, hx156_1⟩ := at_T93 HR0_1.out (ji20) p156 q156
                have hw156_1 := hx156_1
                have hw156_0 := hx156_0
                obtain rfl : ad151 = ad156 := (by injection e156)
                replace hx156_0 := hxb HB hx156_0
                replace hx156_1 := hxb HB hx156_1
                replace p156 := eq_true p156
                replace q156 := eq_true q156
                refine start_ (n := 36) (S := fun w' => w'.cell? ⟨gb152, 0, none⟩ = some (.int .i64 ((rd_T93 l0_1 x18_2).f0)) ∧ w'.cell? ⟨gb152, 1, none⟩ = some (.int .i64 ((rd_T93 l0_1 x18_2).f1)) ∧ w'.cell? ⟨gb149, 0, none⟩ = some (.int .i64 a0_0) ∧ w'.cell? ⟨gb149, 1, none⟩ = some (.slice (some ad151) l0_1.length c0_1) ∧ w'.cell? (ad151.add (((ji20)).toNat * 2)) = some (.int .i64 ((rd_T93 l0_1 (ji20)).f0)) ∧ w'.cell? ⟨(ad151.add (((ji20)).toNat * 2)).block, (ad151.add (((ji20)).toNat * 2)).off + 1, none⟩ = some (.int .i64 ((rd_T93 l0_1 (ji20)).f1))) (ds := []) (tf 0 36) (by kernel_rfl) rfl rfl (cells_2 BK152.out ⟨(blk_cell BK149.out 0).trans rfl, (blk_cell BK149.out 1).trans rfl, (hxb HB hw156_0 :), (hxb HB hw156_1 :)⟩) (fun hHeld => ?_); refine with_tabW impl_WheelOk.tab6 impl_WheelOk.bits6 (fun HT_ HW_ => ?_)
                generalize w35.drew = w36 at BK149 BK152 HB hx156_0 hx156_1 hHeld ⊢
                refine pv_ HT_ 0 (some 23) (tf 1 35) (h := ?_)
                refine tv_ HT_ HW_ hHeld 1 (some 24) (tf 2 34) (h := ?_)
                refine one_ (i := 2) (N := some 25) (tf 3 33) rfl rfl (one_of HT_.out (by kernel_rfl)) (by decide) (fun K hK => ?_)
                refine gs_ Try.func63 #[.int .i64 ((rd_T93 l0_1 x18_2).f0)] (h := ?_)
                with_reducible refine (impl_isId.calls ((rd_T93 l0_1 x18_2).f0) true _ A13.out).mono ?_
                rintro e w' ⟨rfl, ⟨nd, rfl⟩⟩
                refine ⟨_, rfl, ?_⟩
                refine hK.out _ _ (cells_2 BK152.out ⟨(blk_cell BK149.out 0).trans rfl, (blk_cell BK149.out 1).trans rfl, (hxb HB hw156_0 :), (hxb HB hw156_1 :)⟩) (fun hHeld => ?_)
                clear hK K
                refine norm_ (a' := ?_) ?_ ?_
                rotate_left
                ·show Act.put _ (some 25) _ = _
                 simp only [Act.put, List.setIfInBounds_toArray, List.set_cons_zero, List.set_cons_succ, i64_w, i32_w]
                 rfl
                refine pv_ HT_ 3 (some 26) (tf 4 32) (h := ?_)
                refine pv_ HT_ 4 (some 27) (tf 5 31) (h := ?_)
                refine pv_ HT_ 6 (some 29) (tb 36 95) (h := ?_)
                refine pv_ HT_ 9 (some 32) (tb 36 607) (h := ?_)
                refine tv_ HT_ HW_ hHeld 5 (some 28) (tb 36 639) (h := ?_)
                refine tv_ HT_ HW_ hHeld 7 (some 30) (tb 36 767) (h := ?_)
                refine one_ (i := 8) (N := some 31) (tf 10 26) rfl rfl (one_of HT_.out (by kernel_rfl)) (by decide) (fun K hK => ?_)
                refine gs_ Try.func64 #[.agg #[.int .i64 a0_0, .slice (some ad151) l0_1.length c0_1], .int .i64 ((rd_T93 l0_1 x18_2).f0)] (h := ?_)
                with_reducible refine (impl_Wheel_timer.calls a0_0 _ _ l0_1 ((rd_T93 l0_1 x18_2).f0) t154 _ ?side1 ?side2 A15.out).mono ?_
                (case side1 => exact kcb)
                (case side2 => exact HC0_1.out)
                rintro e w37 ⟨rfl, hb⟩
                refine ⟨_, rfl, ?_⟩
                replace BK149 := Aside0.mk (blb BK149 hb)
                replace BK152 := Aside0.mk (blb BK152 hb)
                replace HB := Aside0.mk (below_step bel hb)
                (try clear hb)
                (try clear hb2)
                (try clear hk)
                (try clear hi)
                refine hK.out _ _ (cells_2 BK152.out ⟨(blk_cell BK149.out 0).trans rfl, (blk_cell BK149.out 1).trans rfl, (hxb HB hw156_0 :), (hxb HB hw156_1 :)⟩) (fun hHeld => ?_)
                clear hK K
                refine norm_ (a' := ?_) ?_ ?_
                rotate_left
                ·show Act.put _ (some 31) _ = _
                 simp only [Act.put, List.setIfInBounds_toArray, List.set_cons_zero, List.set_cons_succ, i64_w, i32_w]
                 rfl
                refine pv_ HT_ 10 (some 33) (tf 11 25) (h := ?_)
                refine pv_ HT_ 11 (some 34) (tf 12 24) (h := ?_)
                refine pv_ HT_ 12 (some 35) (tf 13 23) (h := ?_)
                refine pv_ HT_ 13 (some 36) (tf 14 22) (h := ?_)
                refine pv_ HT_ 15 (some 38) (tb 36 49151) (h := ?_)
                refine tv_ HT_ HW_ hHeld 14 (some 37) (tf 16 20) (h := ?_)
                refine tv_ HT_ HW_ hHeld 16 (some 39) (tf 17 19) (h := ?_)
                refine pv_ HT_ 17 (some 40) (tf 18 18) (h := ?_)
                refine one_ (i := 18) (N := some 41) (tf 19 17) rfl rfl (one_of HT_.out (by kernel_rfl)) (by decide) (fun K hK => ?_)
                refine gs_ Try.func50 #[.int .i64 ((rd_T93 l0_1 x18_2).f1), .int .i64 (wrap64 (a0_0 + 1)), .int .i64 2000000] (h := ?_)
                with_reducible refine (impl_within.calls ((rd_T93 l0_1 x18_2).f1) (wrap64 (a0_0 + 1)) 2000000 true _ A17.out).mono ?_
                rintro e w' ⟨rfl, ⟨nd, rfl⟩⟩
                refine ⟨_, rfl, ?_⟩
                refine hK.out _ _ (cells_2 BK152.out ⟨(blk_cell BK149.out 0).trans rfl, (blk_cell BK149.out 1).trans rfl, (hxb HB hw156_0 :), (hxb HB hw156_1 :)⟩) (fun hHeld => ?_)
                clear hK K
                refine norm_ (a' := ?_) ?_ ?_
                rotate_left
                ·show Act.put _ (some 41) _ = _
                 simp only [Act.put, List.setIfInBounds_toArray, List.set_cons_zero, List.set_cons_succ, i64_w, i32_w]
                 rfl
                refine pv_ HT_ 19 (some 42) (tf 20 16) (h := ?_)
                refine pv_ HT_ 20 (some 43) (tf 21 15) (h := ?_)
                refine pv_ HT_ 21 (some 44) (tf 22 14) (h := ?_)
                refine pv_ HT_ 22 (some 45) (tf 23 13) (h := ?_)
                refine pv_ HT_ 23 (some 46) (tf 24 12) (h := ?_)
                refine pv_ HT_ 24 (some 47) (tf 25 11) (h := ?_)
                refine pv_ HT_ 25 (some 48) (tf 26 10) (h := ?_)
                refine pv_ HT_ 27 (some 50) (tb 36 201326591) (h := ?_)
                refine pv_ HT_ 28 (some 51) (tb 36 469762047) (h := ?_)
                refine tv_ HT_ HW_ hHeld 26 (some 49) (tf 29 7) (h := ?_)
                refine pv_ HT_ 29 (some 52) (tf 30 6) (h := ?_)
                refine tv_ HT_ HW_ hHeld 30 (some 53) (tf 31 5) (h := ?_)
                refine tv_ HT_ HW_ hHeld 31 (some 54) (tf 32 4) (h := ?_)
                refine one_ (i := 32) (N := some 55) (tf 33 3) rfl rfl (one_of HT_.out (by kernel_rfl)) (by decide) (fun K hK => ?_)
                refine goes_ Try.func65 (by kernel_rfl) rfl #[.agg #[.int .i64 ((rd_T93 l0_1 (ji20)).f0), .int .i64 ((rd_T93 l0_1 (ji20)).f1)], .agg #[.int .i64 ((rd_T93 l0_1 x18_2).f0), .int .i64 ((rd_T93 l0_1 x18_2).f1)]] (by rfl) rfl rfl (by (try simp only [List.map_toArray, List.map_cons, List.map_nil]); first | done | (simp only [hji20]; rfl) | rfl | (simp only [List.length_drop, List.length_take]; rfl)) ?_
                with_reducible refine (impl_compareTimers.calls k2 ((rd_T93 l0_1 (ji20)).f0) ((rd_T93 l0_1 (ji20)).f1) ((rd_T93 l0_1 x18_2).f0) ((rd_T93 l0_1 x18_2).f1) t157 _ A23.out).mono ?_
                rintro e w38 ⟨rfl, hb⟩
                refine ⟨_, rfl, ?_⟩
                replace BK149 := Aside0.mk (blb BK149 hb)
                replace BK152 := Aside0.mk (blb BK152 hb)
                replace HB := Aside0.mk (below_step bel hb)
                (try clear hb)
                (try clear hb2)
                (try clear hk)
                (try clear hi)
                refine hK.out _ _ (cells_2 BK152.out ⟨(blk_cell BK149.out 0).trans rfl, (blk_cell BK149.out 1).trans rfl, (hxb HB hw156_0 :), (hxb HB hw156_1 :)⟩) (fun hHeld => ?_)
                clear hK K
                refine norm_ (a' := ?_) ?_ ?_
                rotate_left
                ·show Act.put _ (some 55) _ = _
                 simp only [Act.put, List.setIfInBounds_toArray, List.set_cons_zero, List.set_cons_succ, i64_w, i32_w]
                 rfl
                refine pv_ HT_ 33 (some 56) (tf 34 2) (h := ?_)
                refine pv_ HT_ 34 (some 57) (tf 35 1) (h := ?_)
                refine pv_ HT_ 35 (some 58) (tf 36 0) (h := ?_)
                refine done_ (done_of HT_.out (by kernel_rfl)) ?_
                try go_wp2
                go_roundg k2
                case measure => have := HJ1.out; have := HK2.out; omega
                case rel => exact ⟨(wrap64 (x18_2 + 1)), (by first | rfl | (simp; done) | (simp [*]; done)), H', ⟨by have := HJ1.out; have := HK2.out; omega⟩, ⟨by (with_reducible repeat (first | refine blk_drewN ?_ _ | refine blk_drew ?_ | refine blk_alloc ?_ _)); exact BK149.out⟩, ⟨by repeat (first | (with_reducible first | exact HB.out | apply below_alloc | apply pw_below_drewN | apply below_drew1 | refine below_set ?_ GE149.out | refine below_set ?_ GE152.out) | exact HB.out)⟩⟩
              ·rw [if_neg c22] at H
               exact absurd H (by simp)
             ·rw [if_neg c21] at H
              exact absurd H (by simp)
            ·rw [if_neg c19] at H
             have c19b0 : decide (0 < x18_2) = false := decide_eq_false c19
             clear c19
             have H' := Aside0.mk H
             clear H
             have p151 : 0 ≤ (x18_2 : Int) := od
             have q151 : x18_2 < (l0_1.length : Int) := od
             obtain ⟨ad151, e151, hx151_0, hx151_1⟩ := at_T93 HR0_1.out x18_2 p151 q151
             cases e151
             replace hx151_0 := hxb HB hx151_0
             replace hx151_1 := hxb HB hx151_1
             replace p151 := eq_true p151
             replace q151 := eq_true q151
             try go_wp2_with (first | ((with_reducible refine gate_dst (N := 4) rfl ?_); (try (refine gate_guard (by rfl) ?_; dsimp only)); refine bx_ 4 #[.int .i64 0, .int .i64 0] 93 (h := ?_); intro gb152 hg w39 hbox hb; have BK152 := Aside0.mk (hbox); have GW152 := Aside0.mk ((by rw [hg]; exact (below_size bel) : w.heap.size ≤ gb152)); have GE152 := Aside0.mk ((by rw [hg]; exact (below_size bel) : w.heap.size ≤ gb152)); have NB149_152 := Aside0.mk ((by rw [hg]; exact Nat.ne_of_lt (blt BK149) : gb149 ≠ gb152)); have NB152_149 := Aside0.mk ((by rw [hg]; exact Nat.ne_of_gt (blt BK149) : gb152 ≠ gb149)); replace BK149 := Aside0.mk (blb BK149 hb); replace HB := Aside0.mk (below_step bel hb); clear hb hbox hg; have hnb40 := NB152_149.out; have hnc40 := NB149_152.out; obtain ⟨hcz41_0, hcz41_1, -⟩ := cells_2 BK152.out trivial; obtain ⟨hfz41_0, hfz41_1, -⟩ := frz_2 BK152.out))
             have n0_ : Aside0 (((w39.setCell ⟨gb152, 0, none⟩ (.int .i64 ((rd_T93 l0_1 x18_2).f0))).setCell ⟨gb152, 1, none⟩ (.int .i64 ((rd_T93 l0_1 x18_2).f1))).heap[gb149]? = some (.cells #[.int .i64 a0_0, .slice (some ad151) l0_1.length c0_1] 65 (0, 0))) := ⟨by (with_reducible repeat (first | refine blk_drewN ?_ _ | refine blk_drew ?_ | refine blk_alloc ?_ _)); refine blk_far ?_ NB149_152.out _; (with_reducible repeat (first | refine blk_drewN ?_ _ | refine blk_drew ?_ | refine blk_alloc ?_ _)); refine blk_far ?_ NB149_152.out _; (with_reducible repeat (first | refine blk_drewN ?_ _ | refine blk_drew ?_ | refine blk_alloc ?_ _)); exact BK149.out⟩
             have n1_ : Aside0 (((w39.setCell ⟨gb152, 0, none⟩ (.int .i64 ((rd_T93 l0_1 x18_2).f0))).setCell ⟨gb152, 1, none⟩ (.int .i64 ((rd_T93 l0_1 x18_2).f1))).heap[gb152]? = some (.cells #[.int .i64 ((rd_T93 l0_1 x18_2).f0), .int .i64 ((rd_T93 l0_1 x18_2).f1)] 93 (0, 0))) := ⟨by (with_reducible repeat (first | refine blk_drewN ?_ _ | refine blk_drew ?_ | refine blk_alloc ?_ _)); refine blk_put (cs := #[.int .i64 ((rd_T93 l0_1 x18_2).f0), .int .i64 0]) ?_ 1 _ rfl; (with_reducible repeat (first | refine blk_drewN ?_ _ | refine blk_drew ?_ | refine blk_alloc ?_ _)); refine blk_put (cs := #[.int .i64 0, .int .i64 0]) ?_ 0 _ rfl; (with_reducible repeat (first | refine blk_drewN ?_ _ | refine blk_drew ?_ | refine blk_alloc ?_ _)); exact BK152.out⟩
             have n2_ : Aside0 (Below w.heap.size w ((w39.setCell ⟨gb152, 0, none⟩ (.int .i64 ((rd_T93 l0_1 x18_2).f0))).setCell ⟨gb152, 1, none⟩ (.int .i64 ((rd_T93 l0_1 x18_2).f1)))) := ⟨by repeat (first | (with_reducible first | exact HB.out | apply below_alloc | apply pw_below_drewN | apply below_drew1 | refine below_set ?_ GE149.out | refine below_set ?_ GE152.out) | exact HB.out)⟩
             (try clear BK149)
             (try clear BK152)
             (try clear HB)
             generalize ((w39.setCell ⟨gb152, 0, none⟩ (.int .i64 ((rd_T93 l0_1 x18_2).f0))).setCell ⟨gb152, 1, none⟩ (.int .i64 ((rd_T93 l0_1 x18_2).f1))) = w42 at n0_ n1_ n2_ ⊢
             have BK149 := n0_
             have BK152 := n1_
             have HB := n2_
             clear n0_ n1_ n2_
             replace BK149 := Aside0.mk (blk_drew BK149.out)
             replace BK152 := Aside0.mk (blk_drew BK152.out)
             replace HB := Aside0.mk (below_drew1 HB.out)
             refine start_ (n := 36) (S := fun w' => w'.cell? ⟨gb152, 0, none⟩ = some (.int .i64 ((rd_T93 l0_1 x18_2).f0)) ∧ w'.cell? ⟨gb152, 1, none⟩ = some (.int .i64 ((rd_T93 l0_1 x18_2).f1)) ∧ w'.cell? ⟨gb149, 0, none⟩ = some (.int .i64 a0_0) ∧ w'.cell? ⟨gb149, 1, none⟩ = some (.slice (some ad151) l0_1.length c0_1)) (ds := []) (tf 0 36) (by kernel_rfl) rfl rfl (cells_2 BK152.out ⟨(blk_cell BK149.out 0).trans rfl, (blk_cell BK149.out 1).trans rfl⟩) (fun hHeld => ?_); refine with_tabW impl_WheelOk.tab6 impl_WheelOk.bits6 (fun HT_ HW_ => ?_)
             generalize w42.drew = w43 at BK149 BK152 HB hHeld ⊢
             refine pv_ HT_ 0 (some 23) (tf 1 35) (h := ?_)
             refine tv_ HT_ HW_ hHeld 1 (some 24) (tf 2 34) (h := ?_)
             refine one_ (i := 2) (N := some 25) (tf 3 33) rfl rfl (one_of HT_.out (by kernel_rfl)) (by decide) (fun K hK => ?_)
             refine gs_ Try.func63 #[.int .i64 ((rd_T93 l0_1 x18_2).f0)] (h := ?_)
             with_reducible refine (impl_isId.calls ((rd_T93 l0_1 x18_2).f0) true _ A13.out).mono ?_
             rintro e w' ⟨rfl, ⟨nd, rfl⟩⟩
             refine ⟨_, rfl, ?_⟩
             refine hK.out _ _ (cells_2 BK152.out ⟨(blk_cell BK149.out 0).trans rfl, (blk_cell BK149.out 1).trans rfl⟩) (fun hHeld => ?_)
             clear hK K
             refine norm_ (a' := ?_) ?_ ?_
             rotate_left
             ·show Act.put _ (some 25) _ = _
              simp only [Act.put, List.setIfInBounds_toArray, List.set_cons_zero, List.set_cons_succ, i64_w, i32_w]
              rfl
             refine pv_ HT_ 3 (some 26) (tf 4 32) (h := ?_)
             refine pv_ HT_ 4 (some 27) (tf 5 31) (h := ?_)
             refine pv_ HT_ 6 (some 29) (tb 36 95) (h := ?_)
             refine pv_ HT_ 9 (some 32) (tb 36 607) (h := ?_)
             refine tv_ HT_ HW_ hHeld 5 (some 28) (tb 36 639) (h := ?_)
             refine tv_ HT_ HW_ hHeld 7 (some 30) (tb 36 767) (h := ?_)
             refine one_ (i := 8) (N := some 31) (tf 10 26) rfl rfl (one_of HT_.out (by kernel_rfl)) (by decide) (fun K hK => ?_)
             refine gs_ Try.func64 #[.agg #[.int .i64 a0_0, .slice (some ad151) l0_1.length c0_1], .int .i64 ((rd_T93 l0_1 x18_2).f0)] (h := ?_)
             with_reducible refine (impl_Wheel_timer.calls a0_0 _ _ l0_1 ((rd_T93 l0_1 x18_2).f0) t154 _ ?side1 ?side2 A15.out).mono ?_
             (case side1 => exact kcb)
             (case side2 => exact HC0_1.out)
             rintro e w44 ⟨rfl, hb⟩
             refine ⟨_, rfl, ?_⟩
             replace BK149 := Aside0.mk (blb BK149 hb)
             replace BK152 := Aside0.mk (blb BK152 hb)
             replace HB := Aside0.mk (below_step bel hb)
             (try clear hb)
             (try clear hb2)
             (try clear hk)
             (try clear hi)
             refine hK.out _ _ (cells_2 BK152.out ⟨(blk_cell BK149.out 0).trans rfl, (blk_cell BK149.out 1).trans rfl⟩) (fun hHeld => ?_)
             clear hK K
             refine norm_ (a' := ?_) ?_ ?_
             rotate_left
             ·show Act.put _ (some 31) _ = _
              simp only [Act.put, List.setIfInBounds_toArray, List.set_cons_zero, List.set_cons_succ, i64_w, i32_w]
              rfl
             refine pv_ HT_ 10 (some 33) (tf 11 25) (h := ?_)
             refine pv_ HT_ 11 (some 34) (tf 12 24) (h := ?_)
             refine pv_ HT_ 12 (some 35) (tf 13 23) (h := ?_)
             refine pv_ HT_ 13 (some 36) (tf 14 22) (h := ?_)
             refine pv_ HT_ 15 (some 38) (tb 36 49151) (h := ?_)
             refine tv_ HT_ HW_ hHeld 14 (some 37) (tf 16 20) (h := ?_)
             refine tv_ HT_ HW_ hHeld 16 (some 39) (tf 17 19) (h := ?_)
             refine pv_ HT_ 17 (some 40) (tf 18 18) (h := ?_)
             refine one_ (i := 18) (N := some 41) (tf 19 17) rfl rfl (one_of HT_.out (by kernel_rfl)) (by decide) (fun K hK => ?_)
             refine gs_ Try.func50 #[.int .i64 ((rd_T93 l0_1 x18_2).f1), .int .i64 (wrap64 (a0_0 + 1)), .int .i64 2000000] (h := ?_)
             with_reducible refine (impl_within.calls ((rd_T93 l0_1 x18_2).f1) (wrap64 (a0_0 + 1)) 2000000 true _ A17.out).mono ?_
             rintro e w' ⟨rfl, ⟨nd, rfl⟩⟩
             refine ⟨_, rfl, ?_⟩
             refine hK.out _ _ (cells_2 BK152.out ⟨(blk_cell BK149.out 0).trans rfl, (blk_cell BK149.out 1).trans rfl⟩) (fun hHeld => ?_)
             clear hK K
             refine norm_ (a' := ?_) ?_ ?_
             rotate_left
             ·show Act.put _ (some 41) _ = _
              simp only [Act.put, List.setIfInBounds_toArray, List.set_cons_zero, List.set_cons_succ, i64_w, i32_w]
              rfl
             refine pv_ HT_ 19 (some 42) (tf 20 16) (h := ?_)
             refine pv_ HT_ 20 (some 43) (tf 21 15) (h := ?_)
             refine pv_ HT_ 21 (some 44) (tf 22 14) (h := ?_)
             refine pv_ HT_ 22 (some 45) (tf 23 13) (h := ?_)
             refine pv_ HT_ 23 (some 46) (tf 24 12) (h := ?_)
             refine pv_ HT_ 24 (some 47) (tf 25 11) (h := ?_)
             refine pu_ HT_ 25 (some 48) (tf 26 10) (h := ?_)
             refine pu_ HT_ 26 (some 49) (tf 27 9) (h := ?_)
             refine pu_ HT_ 27 (some 50) (tf 28 8) (h := ?_)
             refine pu_ HT_ 28 (some 51) (tf 29 7) (h := ?_)
             refine pu_ HT_ 29 (some 52) (tf 30 6) (h := ?_)
             refine pu_ HT_ 30 (some 53) (tf 31 5) (h := ?_)
             refine pu_ HT_ 31 (some 54) (tf 32 4) (h := ?_)
             refine pu_ HT_ 32 (some 55) (tf 33 3) (h := ?_)
             refine pu_ HT_ 33 (some 56) (tf 34 2) (h := ?_)
             refine pv_ HT_ 34 (some 57) (tf 35 1) (h := ?_)
             refine pv_ HT_ 35 (some 58) (tf 36 0) (h := ?_)
             refine done_ (done_of HT_.out (by kernel_rfl)) ?_
             try go_wp2
             go_roundg k2
             case measure => have := HJ1.out; have := HK2.out; omega
             case rel => exact ⟨(wrap64 (x18_2 + 1)), (by first | rfl | (simp; done) | (simp [*]; done)), H', ⟨by have := HJ1.out; have := HK2.out; omega⟩, ⟨by (with_reducible repeat (first | refine blk_drewN ?_ _ | refine blk_drew ?_ | refine blk_alloc ?_ _)); exact BK149.out⟩, ⟨by repeat (first | (with_reducible first | exact HB.out | apply below_alloc | apply pw_below_drewN | apply below_drew1 | refine below_set ?_ GE149.out | refine below_set ?_ GE152.out) | exact HB.out)⟩⟩
           ·replace c18 := Bool.eq_false_iff.mpr c18
            subst c18
            have H1 : (some false) = some r := by rw [if_neg (show ¬ (false = true) by decide)] at H; exact H
            clear H
            have H := H1
            clear H1
            obtain rfl := Option.some.inj H
            have p151 : 0 ≤ (x18_2 : Int) := od
            have q151 : x18_2 < (l0_1.length : Int) := od
            obtain ⟨ad151, e151, hx151_0, hx151_1⟩ := at_T93 HR0_1.out x18_2 p151 q151
            cases e151
            replace hx151_0 := hxb HB hx151_0
            replace hx151_1 := hxb HB hx151_1
            replace p151 := eq_true p151
            replace q151 := eq_true q151
            try go_wp2_with (first | ((with_reducible refine gate_dst (N := 4) rfl ?_); (try (refine gate_guard (by rfl) ?_; dsimp only)); refine bx_ 4 #[.int .i64 0, .int .i64 0] 93 (h := ?_); intro gb152 hg w45 hbox hb; have BK152 := Aside0.mk (hbox); have GW152 := Aside0.mk ((by rw [hg]; exact (below_size bel) : w.heap.size ≤ gb152)); have GE152 := Aside0.mk ((by rw [hg]; exact (below_size bel) : w.heap.size ≤ gb152)); have NB149_152 := Aside0.mk ((by rw [hg]; exact Nat.ne_of_lt (blt BK149) : gb149 ≠ gb152)); have NB152_149 := Aside0.mk ((by rw [hg]; exact Nat.ne_of_gt (blt BK149) : gb152 ≠ gb149)); replace BK149 := Aside0.mk (blb BK149 hb); replace HB := Aside0.mk (below_step bel hb); clear hb hbox hg; have hnb46 := NB152_149.out; have hnc46 := NB149_152.out; obtain ⟨hcz47_0, hcz47_1, -⟩ := cells_2 BK152.out trivial; obtain ⟨hfz47_0, hfz47_1, -⟩ := frz_2 BK152.out))
            have n0_ : Aside0 (((w45.setCell ⟨gb152, 0, none⟩ (.int .i64 ((rd_T93 l0_1 x18_2).f0))).setCell ⟨gb152, 1, none⟩ (.int .i64 ((rd_T93 l0_1 x18_2).f1))).heap[gb149]? = some (.cells #[.int .i64 a0_0, .slice (some ad151) l0_1.length c0_1] 65 (0, 0))) := ⟨by (with_reducible repeat (first | refine blk_drewN ?_ _ | refine blk_drew ?_ | refine blk_alloc ?_ _)); refine blk_far ?_ NB149_152.out _; (with_reducible repeat (first | refine blk_drewN ?_ _ | refine blk_drew ?_ | refine blk_alloc ?_ _)); refine blk_far ?_ NB149_152.out _; (with_reducible repeat (first | refine blk_drewN ?_ _ | refine blk_drew ?_ | refine blk_alloc ?_ _)); exact BK149.out⟩
            have n1_ : Aside0 (((w45.setCell ⟨gb152, 0, none⟩ (.int .i64 ((rd_T93 l0_1 x18_2).f0))).setCell ⟨gb152, 1, none⟩ (.int .i64 ((rd_T93 l0_1 x18_2).f1))).heap[gb152]? = some (.cells #[.int .i64 ((rd_T93 l0_1 x18_2).f0), .int .i64 ((rd_T93 l0_1 x18_2).f1)] 93 (0, 0))) := ⟨by (with_reducible repeat (first | refine blk_drewN ?_ _ | refine blk_drew ?_ | refine blk_alloc ?_ _)); refine blk_put (cs := #[.int .i64 ((rd_T93 l0_1 x18_2).f0), .int .i64 0]) ?_ 1 _ rfl; (with_reducible repeat (first | refine blk_drewN ?_ _ | refine blk_drew ?_ | refine blk_alloc ?_ _)); refine blk_put (cs := #[.int .i64 0, .int .i64 0]) ?_ 0 _ rfl; (with_reducible repeat (first | refine blk_drewN ?_ _ | refine blk_drew ?_ | refine blk_alloc ?_ _)); exact BK152.out⟩
            have n2_ : Aside0 (Below w.heap.size w ((w45.setCell ⟨gb152, 0, none⟩ (.int .i64 ((rd_T93 l0_1 x18_2).f0))).setCell ⟨gb152, 1, none⟩ (.int .i64 ((rd_T93 l0_1 x18_2).f1)))) := ⟨by repeat (first | (with_reducible first | exact HB.out | apply below_alloc | apply pw_below_drewN | apply below_drew1 | refine below_set ?_ GE149.out | refine below_set ?_ GE152.out) | exact HB.out)⟩
            (try clear BK149)
            (try clear BK152)
            (try clear HB)
            generalize ((w45.setCell ⟨gb152, 0, none⟩ (.int .i64 ((rd_T93 l0_1 x18_2).f0))).setCell ⟨gb152, 1, none⟩ (.int .i64 ((rd_T93 l0_1 x18_2).f1))) = w48 at n0_ n1_ n2_ ⊢
            have BK149 := n0_
            have BK152 := n1_
            have HB := n2_
            clear n0_ n1_ n2_
            replace BK149 := Aside0.mk (blk_drew BK149.out)
            replace BK152 := Aside0.mk (blk_drew BK152.out)
            replace HB := Aside0.mk (below_drew1 HB.out)
            refine start_ (n := 36) (S := fun w' => w'.cell? ⟨gb152, 0, none⟩ = some (.int .i64 ((rd_T93 l0_1 x18_2).f0)) ∧ w'.cell? ⟨gb152, 1, none⟩ = some (.int .i64 ((rd_T93 l0_1 x18_2).f1)) ∧ w'.cell? ⟨gb149, 0, none⟩ = some (.int .i64 a0_0) ∧ w'.cell? ⟨gb149, 1, none⟩ = some (.slice (some ad151) l0_1.length c0_1)) (ds := []) (tf 0 36) (by kernel_rfl) rfl rfl (cells_2 BK152.out ⟨(blk_cell BK149.out 0).trans rfl, (blk_cell BK149.out 1).trans rfl⟩) (fun hHeld => ?_); refine with_tabW impl_WheelOk.tab6 impl_WheelOk.bits6 (fun HT_ HW_ => ?_)
            generalize w48.drew = w49 at BK149 BK152 HB hHeld ⊢
            refine pv_ HT_ 0 (some 23) (tf 1 35) (h := ?_)
            refine tv_ HT_ HW_ hHeld 1 (some 24) (tf 2 34) (h := ?_)
            refine one_ (i := 2) (N := some 25) (tf 3 33) rfl rfl (one_of HT_.out (by kernel_rfl)) (by decide) (fun K hK => ?_)
            refine gs_ Try.func63 #[.int .i64 ((rd_T93 l0_1 x18_2).f0)] (h := ?_)
            with_reducible refine (impl_isId.calls ((rd_T93 l0_1 x18_2).f0) true _ A13.out).mono ?_
            rintro e w' ⟨rfl, ⟨nd, rfl⟩⟩
            refine ⟨_, rfl, ?_⟩
            refine hK.out _ _ (cells_2 BK152.out ⟨(blk_cell BK149.out 0).trans rfl, (blk_cell BK149.out 1).trans rfl⟩) (fun hHeld => ?_)
            clear hK K
            refine norm_ (a' := ?_) ?_ ?_
            rotate_left
            ·show Act.put _ (some 25) _ = _
             simp only [Act.put, List.setIfInBounds_toArray, List.set_cons_zero, List.set_cons_succ, i64_w, i32_w]
             rfl
            refine pv_ HT_ 3 (some 26) (tf 4 32) (h := ?_)
            refine pv_ HT_ 4 (some 27) (tf 5 31) (h := ?_)
            refine pv_ HT_ 6 (some 29) (tb 36 95) (h := ?_)
            refine pv_ HT_ 9 (some 32) (tb 36 607) (h := ?_)
            refine tv_ HT_ HW_ hHeld 5 (some 28) (tb 36 639) (h := ?_)
            refine tv_ HT_ HW_ hHeld 7 (some 30) (tb 36 767) (h := ?_)
            refine one_ (i := 8) (N := some 31) (tf 10 26) rfl rfl (one_of HT_.out (by kernel_rfl)) (by decide) (fun K hK => ?_)
            refine gs_ Try.func64 #[.agg #[.int .i64 a0_0, .slice (some ad151) l0_1.length c0_1], .int .i64 ((rd_T93 l0_1 x18_2).f0)] (h := ?_)
            with_reducible refine (impl_Wheel_timer.calls a0_0 _ _ l0_1 ((rd_T93 l0_1 x18_2).f0) t154 _ ?side1 ?side2 A15.out).mono ?_
            (case side1 => exact kcb)
            (case side2 => exact HC0_1.out)
            rintro e w50 ⟨rfl, hb⟩
            refine ⟨_, rfl, ?_⟩
            replace BK149 := Aside0.mk (blb BK149 hb)
            replace BK152 := Aside0.mk (blb BK152 hb)
            replace HB := Aside0.mk (below_step bel hb)
            (try clear hb)
            (try clear hb2)
            (try clear hk)
            (try clear hi)
            refine hK.out _ _ (cells_2 BK152.out ⟨(blk_cell BK149.out 0).trans rfl, (blk_cell BK149.out 1).trans rfl⟩) (fun hHeld => ?_)
            clear hK K
            refine norm_ (a' := ?_) ?_ ?_
            rotate_left
            ·show Act.put _ (some 31) _ = _
             simp only [Act.put, List.setIfInBounds_toArray, List.set_cons_zero, List.set_cons_succ, i64_w, i32_w]
             rfl
            refine pv_ HT_ 10 (some 33) (tf 11 25) (h := ?_)
            refine pv_ HT_ 11 (some 34) (tf 12 24) (h := ?_)
            refine pv_ HT_ 12 (some 35) (tf 13 23) (h := ?_)
            refine pv_ HT_ 13 (some 36) (tf 14 22) (h := ?_)
            refine pv_ HT_ 15 (some 38) (tb 36 49151) (h := ?_)
            refine tv_ HT_ HW_ hHeld 14 (some 37) (tf 16 20) (h := ?_)
            refine tv_ HT_ HW_ hHeld 16 (some 39) (tf 17 19) (h := ?_)
            refine pv_ HT_ 17 (some 40) (tf 18 18) (h := ?_)
            refine one_ (i := 18) (N := some 41) (tf 19 17) rfl rfl (one_of HT_.out (by kernel_rfl)) (by decide) (fun K hK => ?_)
            refine gs_ Try.func50 #[.int .i64 ((rd_T93 l0_1 x18_2).f1), .int .i64 (wrap64 (a0_0 + 1)), .int .i64 2000000] (h := ?_)
            with_reducible refine (impl_within.calls ((rd_T93 l0_1 x18_2).f1) (wrap64 (a0_0 + 1)) 2000000 false _ A17.out).mono ?_
            rintro e w' ⟨rfl, ⟨nd, rfl⟩⟩
            refine ⟨_, rfl, ?_⟩
            refine hK.out _ _ (cells_2 BK152.out ⟨(blk_cell BK149.out 0).trans rfl, (blk_cell BK149.out 1).trans rfl⟩) (fun hHeld => ?_)
            clear hK K
            refine norm_ (a' := ?_) ?_ ?_
            rotate_left
            ·show Act.put _ (some 41) _ = _
             simp only [Act.put, List.setIfInBounds_toArray, List.set_cons_zero, List.set_cons_succ, i64_w, i32_w]
             rfl
            refine pv_ HT_ 19 (some 42) (tf 20 16) (h := ?_)
            refine pv_ HT_ 20 (some 43) (tf 21 15) (h := ?_)
            refine pv_ HT_ 21 (some 44) (tf 22 14) (h := ?_)
            refine pu_ HT_ 22 (some 45) (tf 23 13) (h := ?_)
            refine pu_ HT_ 23 (some 46) (tf 24 12) (h := ?_)
            refine pu_ HT_ 24 (some 47) (tf 25 11) (h := ?_)
            refine pu_ HT_ 25 (some 48) (tf 26 10) (h := ?_)
            refine pu_ HT_ 26 (some 49) (tf 27 9) (h := ?_)
            refine pu_ HT_ 27 (some 50) (tf 28 8) (h := ?_)
            refine pu_ HT_ 28 (some 51) (tf 29 7) (h := ?_)
            refine pu_ HT_ 29 (some 52) (tf 30 6) (h := ?_)
            refine pu_ HT_ 30 (some 53) (tf 31 5) (h := ?_)
            refine pu_ HT_ 31 (some 54) (tf 32 4) (h := ?_)
            refine pu_ HT_ 32 (some 55) (tf 33 3) (h := ?_)
            refine pu_ HT_ 33 (some 56) (tf 34 2) (h := ?_)
            refine pu_ HT_ 34 (some 57) (tf 35 1) (h := ?_)
            refine pv_ HT_ 35 (some 58) (tf 36 0) (h := ?_)
            refine done_ (done_of HT_.out (by kernel_rfl)) ?_
            try go_wp2
            go_ret
            exact ⟨by first | rfl | (simp [errW_none, errW_some] <;> rfl) | (simp [*, errW_none, errW_some] <;> rfl), by repeat (first | (with_reducible first | exact HB.out | apply below_alloc | apply pw_below_drewN | apply below_drew1 | refine below_set ?_ GE149.out | refine below_set ?_ GE152.out) | exact HB.out)⟩
          ·rw [if_neg c16] at H
           have c16b0 : (t154 == x18_2) = false := beq_eq_false_iff_ne.mpr c16
           have c16b1 : (t154 != x18_2) = true := bne_iff_ne.mpr c16
           obtain rfl := Option.some.inj H
           have p151 : 0 ≤ (x18_2 : Int) := od
           have q151 : x18_2 < (l0_1.length : Int) := od
           obtain ⟨ad151, e151, hx151_0, hx151_1⟩ := at_T93 HR0_1.out x18_2 p151 q151
           cases e151
           replace hx151_0 := hxb HB hx151_0
           replace hx151_1 := hxb HB hx151_1
           replace p151 := eq_true p151
           replace q151 := eq_true q151
           try go_wp2_with (first | ((with_reducible refine gate_dst (N := 4) rfl ?_); (try (refine gate_guard (by rfl) ?_; dsimp only)); refine bx_ 4 #[.int .i64 0, .int .i64 0] 93 (h := ?_); intro gb152 hg w51 hbox hb; have BK152 := Aside0.mk (hbox); have GW152 := Aside0.mk ((by rw [hg]; exact (below_size bel) : w.heap.size ≤ gb152)); have GE152 := Aside0.mk ((by rw [hg]; exact (below_size bel) : w.heap.size ≤ gb152)); have NB149_152 := Aside0.mk ((by rw [hg]; exact Nat.ne_of_lt (blt BK149) : gb149 ≠ gb152)); have NB152_149 := Aside0.mk ((by rw [hg]; exact Nat.ne_of_gt (blt BK149) : gb152 ≠ gb149)); replace BK149 := Aside0.mk (blb BK149 hb); replace HB := Aside0.mk (below_step bel hb); clear hb hbox hg; have hnb52 := NB152_149.out; have hnc52 := NB149_152.out; obtain ⟨hcz53_0, hcz53_1, -⟩ := cells_2 BK152.out trivial; obtain ⟨hfz53_0, hfz53_1, -⟩ := frz_2 BK152.out))
           have n0_ : Aside0 (((w51.setCell ⟨gb152, 0, none⟩ (.int .i64 ((rd_T93 l0_1 x18_2).f0))).setCell ⟨gb152, 1, none⟩ (.int .i64 ((rd_T93 l0_1 x18_2).f1))).heap[gb149]? = some (.cells #[.int .i64 a0_0, .slice (some ad151) l0_1.length c0_1] 65 (0, 0))) := ⟨by (with_reducible repeat (first | refine blk_drewN ?_ _ | refine blk_drew ?_ | refine blk_alloc ?_ _)); refine blk_far ?_ NB149_152.out _; (with_reducible repeat (first | refine blk_drewN ?_ _ | refine blk_drew ?_ | refine blk_alloc ?_ _)); refine blk_far ?_ NB149_152.out _; (with_reducible repeat (first | refine blk_drewN ?_ _ | refine blk_drew ?_ | refine blk_alloc ?_ _)); exact BK149.out⟩
           have n1_ : Aside0 (((w51.setCell ⟨gb152, 0, none⟩ (.int .i64 ((rd_T93 l0_1 x18_2).f0))).setCell ⟨gb152, 1, none⟩ (.int .i64 ((rd_T93 l0_1 x18_2).f1))).heap[gb152]? = some (.cells #[.int .i64 ((rd_T93 l0_1 x18_2).f0), .int .i64 ((rd_T93 l0_1 x18_2).f1)] 93 (0, 0))) := ⟨by (with_reducible repeat (first | refine blk_drewN ?_ _ | refine blk_drew ?_ | refine blk_alloc ?_ _)); refine blk_put (cs := #[.int .i64 ((rd_T93 l0_1 x18_2).f0), .int .i64 0]) ?_ 1 _ rfl; (with_reducible repeat (first | refine blk_drewN ?_ _ | refine blk_drew ?_ | refine blk_alloc ?_ _)); refine blk_put (cs := #[.int .i64 0, .int .i64 0]) ?_ 0 _ rfl; (with_reducible repeat (first | refine blk_drewN ?_ _ | refine blk_drew ?_ | refine blk_alloc ?_ _)); exact BK152.out⟩
           have n2_ : Aside0 (Below w.heap.size w ((w51.setCell ⟨gb152, 0, none⟩ (.int .i64 ((rd_T93 l0_1 x18_2).f0))).setCell ⟨gb152, 1, none⟩ (.int .i64 ((rd_T93 l0_1 x18_2).f1)))) := ⟨by repeat (first | (with_reducible first | exact HB.out | apply below_alloc | apply pw_below_drewN | apply below_drew1 | refine below_set ?_ GE149.out | refine below_set ?_ GE152.out) | exact HB.out)⟩
           (try clear BK149)
           (try clear BK152)
           (try clear HB)
           generalize ((w51.setCell ⟨gb152, 0, none⟩ (.int .i64 ((rd_T93 l0_1 x18_2).f0))).setCell ⟨gb152, 1, none⟩ (.int .i64 ((rd_T93 l0_1 x18_2).f1))) = w54 at n0_ n1_ n2_ ⊢
           have BK149 := n0_
           have BK152 := n1_
           have HB := n2_
           clear n0_ n1_ n2_
           replace BK149 := Aside0.mk (blk_drew BK149.out)
           replace BK152 := Aside0.mk (blk_drew BK152.out)
           replace HB := Aside0.mk (below_drew1 HB.out)
           refine start_ (n := 36) (S := fun w' => w'.cell? ⟨gb152, 0, none⟩ = some (.int .i64 ((rd_T93 l0_1 x18_2).f0)) ∧ w'.cell? ⟨gb152, 1, none⟩ = some (.int .i64 ((rd_T93 l0_1 x18_2).f1)) ∧ w'.cell? ⟨gb149, 0, none⟩ = some (.int .i64 a0_0) ∧ w'.cell? ⟨gb149, 1, none⟩ = some (.slice (some ad151) l0_1.length c0_1)) (ds := []) (tf 0 36) (by kernel_rfl) rfl rfl (cells_2 BK152.out ⟨(blk_cell BK149.out 0).trans rfl, (blk_cell BK149.out 1).trans rfl⟩) (fun hHeld => ?_); refine with_tabW impl_WheelOk.tab6 impl_WheelOk.bits6 (fun HT_ HW_ => ?_)
           generalize w54.drew = w55 at BK149 BK152 HB hHeld ⊢
           refine pv_ HT_ 0 (some 23) (tf 1 35) (h := ?_)
           refine tv_ HT_ HW_ hHeld 1 (some 24) (tf 2 34) (h := ?_)
           refine one_ (i := 2) (N := some 25) (tf 3 33) rfl rfl (one_of HT_.out (by kernel_rfl)) (by decide) (fun K hK => ?_)
           refine gs_ Try.func63 #[.int .i64 ((rd_T93 l0_1 x18_2).f0)] (h := ?_)
           with_reducible refine (impl_isId.calls ((rd_T93 l0_1 x18_2).f0) true _ A13.out).mono ?_
           rintro e w' ⟨rfl, ⟨nd, rfl⟩⟩
           refine ⟨_, rfl, ?_⟩
           refine hK.out _ _ (cells_2 BK152.out ⟨(blk_cell BK149.out 0).trans rfl, (blk_cell BK149.out 1).trans rfl⟩) (fun hHeld => ?_)
           clear hK K
           refine norm_ (a' := ?_) ?_ ?_
           rotate_left
           ·show Act.put _ (some 25) _ = _
            simp only [Act.put, List.setIfInBounds_toArray, List.set_cons_zero, List.set_cons_succ, i64_w, i32_w]
            rfl
           refine pv_ HT_ 3 (some 26) (tf 4 32) (h := ?_)
           refine pv_ HT_ 4 (some 27) (tf 5 31) (h := ?_)
           refine pv_ HT_ 6 (some 29) (tb 36 95) (h := ?_)
           refine pv_ HT_ 9 (some 32) (tb 36 607) (h := ?_)
           refine tv_ HT_ HW_ hHeld 5 (some 28) (tb 36 639) (h := ?_)
           refine tv_ HT_ HW_ hHeld 7 (some 30) (tb 36 767) (h := ?_)
           refine one_ (i := 8) (N := some 31) (tf 10 26) rfl rfl (one_of HT_.out (by kernel_rfl)) (by decide) (fun K hK => ?_)
           refine gs_ Try.func64 #[.agg #[.int .i64 a0_0, .slice (some ad151) l0_1.length c0_1], .int .i64 ((rd_T93 l0_1 x18_2).f0)] (h := ?_)
           with_reducible refine (impl_Wheel_timer.calls a0_0 _ _ l0_1 ((rd_T93 l0_1 x18_2).f0) t154 _ ?side1 ?side2 A15.out).mono ?_
           (case side1 => exact kcb)
           (case side2 => exact HC0_1.out)
           rintro e w56 ⟨rfl, hb⟩
           refine ⟨_, rfl, ?_⟩
           replace BK149 := Aside0.mk (blb BK149 hb)
           replace BK152 := Aside0.mk (blb BK152 hb)
           replace HB := Aside0.mk (below_step bel hb)
           (try clear hb)
           (try clear hb2)
           (try clear hk)
           (try clear hi)
           refine hK.out _ _ (cells_2 BK152.out ⟨(blk_cell BK149.out 0).trans rfl, (blk_cell BK149.out 1).trans rfl⟩) (fun hHeld => ?_)
           clear hK K
           refine norm_ (a' := ?_) ?_ ?_
           rotate_left
           ·show Act.put _ (some 31) _ = _
            simp only [Act.put, List.setIfInBounds_toArray, List.set_cons_zero, List.set_cons_succ, i64_w, i32_w]
            rfl
           refine pv_ HT_ 10 (some 33) (tf 11 25) (h := ?_)
           refine pv_ HT_ 11 (some 34) (tf 12 24) (h := ?_)
           refine pv_ HT_ 12 (some 35) (tf 13 23) (h := ?_)
           refine pu_ HT_ 13 (some 36) (tf 14 22) (h := ?_)
           refine pu_ HT_ 14 (some 37) (tf 15 21) (h := ?_)
           refine pu_ HT_ 15 (some 38) (tf 16 20) (h := ?_)
           refine pu_ HT_ 16 (some 39) (tf 17 19) (h := ?_)
           refine pu_ HT_ 17 (some 40) (tf 18 18) (h := ?_)
           refine pu_ HT_ 18 (some 41) (tf 19 17) (h := ?_)
           refine pu_ HT_ 19 (some 42) (tf 20 16) (h := ?_)
           refine pv_ HT_ 20 (some 43) (tf 21 15) (h := ?_)
           refine pv_ HT_ 21 (some 44) (tf 22 14) (h := ?_)
           refine pu_ HT_ 22 (some 45) (tf 23 13) (h := ?_)
           refine pu_ HT_ 23 (some 46) (tf 24 12) (h := ?_)
           refine pu_ HT_ 24 (some 47) (tf 25 11) (h := ?_)
           refine pu_ HT_ 25 (some 48) (tf 26 10) (h := ?_)
           refine pu_ HT_ 26 (some 49) (tf 27 9) (h := ?_)
           refine pu_ HT_ 27 (some 50) (tf 28 8) (h := ?_)
           refine pu_ HT_ 28 (some 51) (tf 29 7) (h := ?_)
           refine pu_ HT_ 29 (some 52) (tf 30 6) (h := ?_)
           refine pu_ HT_ 30 (some 53) (tf 31 5) (h := ?_)
           refine pu_ HT_ 31 (some 54) (tf 32 4) (h := ?_)
           refine pu_ HT_ 32 (some 55) (tf 33 3) (h := ?_)
           refine pu_ HT_ 33 (some 56) (tf 34 2) (h := ?_)
           refine pu_ HT_ 34 (some 57) (tf 35 1) (h := ?_)
           refine pv_ HT_ 35 (some 58) (tf 36 0) (h := ?_)
           refine done_ (done_of HT_.out (by kernel_rfl)) ?_
           try go_wp2
           go_ret
           exact ⟨by first | rfl | (simp [errW_none, errW_some] <;> rfl) | (simp [*, errW_none, errW_some] <;> rfl), by repeat (first | (with_reducible first | exact HB.out | apply below_alloc | apply pw_below_drewN | apply below_drew1 | refine below_set ?_ GE149.out | refine below_set ?_ GE152.out) | exact HB.out)⟩
         ·replace c14 := Bool.eq_false_iff.mpr c14
          subst c14
          have H1 : (some false) = some r := by rw [if_neg (show ¬ (false = true) by decide)] at H; exact H
          clear H
          have H := H1
          clear H1
          obtain rfl := Option.some.inj H
          have p151 : 0 ≤ (x18_2 : Int) := od
          have q151 : x18_2 < (l0_1.length : Int) := od
          obtain ⟨ad151, e151, hx151_0, hx151_1⟩ := at_T93 HR0_1.out x18_2 p151 q151
          cases e151
          replace hx151_0 := hxb HB hx151_0
          replace hx151_1 := hxb HB hx151_1
          replace p151 := eq_true p151
          replace q151 := eq_true q151
          try go_wp2_with (first | ((with_reducible refine gate_dst (N := 4) rfl ?_); (try (refine gate_guard (by rfl) ?_; dsimp only)); refine bx_ 4 #[.int .i64 0, .int .i64 0] 93 (h := ?_); intro gb152 hg w57 hbox hb; have BK152 := Aside0.mk (hbox); have GW152 := Aside0.mk ((by rw [hg]; exact (below_size bel) : w.heap.size ≤ gb152)); have GE152 := Aside0.mk ((by rw [hg]; exact (below_size bel) : w.heap.size ≤ gb152)); have NB149_152 := Aside0.mk ((by rw [hg]; exact Nat.ne_of_lt (blt BK149) : gb149 ≠ gb152)); have NB152_149 := Aside0.mk ((by rw [hg]; exact Nat.ne_of_gt (blt BK149) : gb152 ≠ gb149)); replace BK149 := Aside0.mk (blb BK149 hb); replace HB := Aside0.mk (below_step bel hb); clear hb hbox hg; have hnb58 := NB152_149.out; have hnc58 := NB149_152.out; obtain ⟨hcz59_0, hcz59_1, -⟩ := cells_2 BK152.out trivial; obtain ⟨hfz59_0, hfz59_1, -⟩ := frz_2 BK152.out))
          have n0_ : Aside0 (((w57.setCell ⟨gb152, 0, none⟩ (.int .i64 ((rd_T93 l0_1 x18_2).f0))).setCell ⟨gb152, 1, none⟩ (.int .i64 ((rd_T93 l0_1 x18_2).f1))).heap[gb149]? = some (.cells #[.int .i64 a0_0, .slice (some ad151) l0_1.length c0_1] 65 (0, 0))) := ⟨by (with_reducible repeat (first | refine blk_drewN ?_ _ | refine blk_drew ?_ | refine blk_alloc ?_ _)); refine blk_far ?_ NB149_152.out _; (with_reducible repeat (first | refine blk_drewN ?_ _ | refine blk_drew ?_ | refine blk_alloc ?_ _)); refine blk_far ?_ NB149_152.out _; (with_reducible repeat (first | refine blk_drewN ?_ _ | refine blk_drew ?_ | refine blk_alloc ?_ _)); exact BK149.out⟩
          have n1_ : Aside0 (((w57.setCell ⟨gb152, 0, none⟩ (.int .i64 ((rd_T93 l0_1 x18_2).f0))).setCell ⟨gb152, 1, none⟩ (.int .i64 ((rd_T93 l0_1 x18_2).f1))).heap[gb152]? = some (.cells #[.int .i64 ((rd_T93 l0_1 x18_2).f0), .int .i64 ((rd_T93 l0_1 x18_2).f1)] 93 (0, 0))) := ⟨by (with_reducible repeat (first | refine blk_drewN ?_ _ | refine blk_drew ?_ | refine blk_alloc ?_ _)); refine blk_put (cs := #[.int .i64 ((rd_T93 l0_1 x18_2).f0), .int .i64 0]) ?_ 1 _ rfl; (with_reducible repeat (first | refine blk_drewN ?_ _ | refine blk_drew ?_ | refine blk_alloc ?_ _)); refine blk_put (cs := #[.int .i64 0, .int .i64 0]) ?_ 0 _ rfl; (with_reducible repeat (first | refine blk_drewN ?_ _ | refine blk_drew ?_ | refine blk_alloc ?_ _)); exact BK152.out⟩
          have n2_ : Aside0 (Below w.heap.size w ((w57.setCell ⟨gb152, 0, none⟩ (.int .i64 ((rd_T93 l0_1 x18_2).f0))).setCell ⟨gb152, 1, none⟩ (.int .i64 ((rd_T93 l0_1 x18_2).f1)))) := ⟨by repeat (first | (with_reducible first | exact HB.out | apply below_alloc | apply pw_below_drewN | apply below_drew1 | refine below_set ?_ GE149.out | refine below_set ?_ GE152.out) | exact HB.out)⟩
          (try clear BK149)
          (try clear BK152)
          (try clear HB)
          generalize ((w57.setCell ⟨gb152, 0, none⟩ (.int .i64 ((rd_T93 l0_1 x18_2).f0))).setCell ⟨gb152, 1, none⟩ (.int .i64 ((rd_T93 l0_1 x18_2).f1))) = w60 at n0_ n1_ n2_ ⊢
          have BK149 := n0_
          have BK152 := n1_
          have HB := n2_
          clear n0_ n1_ n2_
          replace BK149 := Aside0.mk (blk_drew BK149.out)
          replace BK152 := Aside0.mk (blk_drew BK152.out)
          replace HB := Aside0.mk (below_drew1 HB.out)
          refine start_ (n := 36) (S := fun w' => w'.cell? ⟨gb152, 0, none⟩ = some (.int .i64 ((rd_T93 l0_1 x18_2).f0)) ∧ w'.cell? ⟨gb152, 1, none⟩ = some (.int .i64 ((rd_T93 l0_1 x18_2).f1))) (ds := []) (tf 0 36) (by kernel_rfl) rfl rfl (cellz_2 BK152.out) (fun hHeld => ?_); refine with_tabW impl_WheelOk.tab6 impl_WheelOk.bits6 (fun HT_ HW_ => ?_)
          generalize w60.drew = w61 at BK149 BK152 HB hHeld ⊢
          refine pv_ HT_ 0 (some 23) (tf 1 35) (h := ?_)
          refine tv_ HT_ HW_ hHeld 1 (some 24) (tf 2 34) (h := ?_)
          refine one_ (i := 2) (N := some 25) (tf 3 33) rfl rfl (one_of HT_.out (by kernel_rfl)) (by decide) (fun K hK => ?_)
          refine gs_ Try.func63 #[.int .i64 ((rd_T93 l0_1 x18_2).f0)] (h := ?_)
          with_reducible refine (impl_isId.calls ((rd_T93 l0_1 x18_2).f0) false _ A13.out).mono ?_
          rintro e w' ⟨rfl, ⟨nd, rfl⟩⟩
          refine ⟨_, rfl, ?_⟩
          refine hK.out _ _ (cellz_2 BK152.out) (fun hHeld => ?_)
          clear hK K
          refine norm_ (a' := ?_) ?_ ?_
          rotate_left
          ·show Act.put _ (some 25) _ = _
           simp only [Act.put, List.setIfInBounds_toArray, List.set_cons_zero, List.set_cons_succ, i64_w, i32_w]
           rfl
          refine pv_ HT_ 3 (some 26) (tf 4 32) (h := ?_)
          refine pv_ HT_ 4 (some 27) (tf 5 31) (h := ?_)
          refine pu_ HT_ 5 (some 28) (tf 6 30) (h := ?_)
          refine pu_ HT_ 6 (some 29) (tf 7 29) (h := ?_)
          refine pu_ HT_ 7 (some 30) (tf 8 28) (h := ?_)
          refine pu_ HT_ 8 (some 31) (tf 9 27) (h := ?_)
          refine pu_ HT_ 9 (some 32) (tf 10 26) (h := ?_)
          refine pu_ HT_ 10 (some 33) (tf 11 25) (h := ?_)
          refine pv_ HT_ 11 (some 34) (tf 12 24) (h := ?_)
          refine pv_ HT_ 12 (some 35) (tf 13 23) (h := ?_)
          refine pu_ HT_ 13 (some 36) (tf 14 22) (h := ?_)
          refine pu_ HT_ 14 (some 37) (tf 15 21) (h := ?_)
          refine pu_ HT_ 15 (some 38) (tf 16 20) (h := ?_)
          refine pu_ HT_ 16 (some 39) (tf 17 19) (h := ?_)
          refine pu_ HT_ 17 (some 40) (tf 18 18) (h := ?_)
          refine pu_ HT_ 18 (some 41) (tf 19 17) (h := ?_)
          refine pu_ HT_ 19 (some 42) (tf 20 16) (h := ?_)
          refine pv_ HT_ 20 (some 43) (tf 21 15) (h := ?_)
          refine pv_ HT_ 21 (some 44) (tf 22 14) (h := ?_)
          refine pu_ HT_ 22 (some 45) (tf 23 13) (h := ?_)
          refine pu_ HT_ 23 (some 46) (tf 24 12) (h := ?_)
          refine pu_ HT_ 24 (some 47) (tf 25 11) (h := ?_)
          refine pu_ HT_ 25 (some 48) (tf 26 10) (h := ?_)
          refine pu_ HT_ 26 (some 49) (tf 27 9) (h := ?_)
          refine pu_ HT_ 27 (some 50) (tf 28 8) (h := ?_)
          refine pu_ HT_ 28 (some 51) (tf 29 7) (h := ?_)
          refine pu_ HT_ 29 (some 52) (tf 30 6) (h := ?_)
          refine pu_ HT_ 30 (some 53) (tf 31 5) (h := ?_)
          refine pu_ HT_ 31 (some 54) (tf 32 4) (h := ?_)
          refine pu_ HT_ 32 (some 55) (tf 33 3) (h := ?_)
          refine pu_ HT_ 33 (some 56) (tf 34 2) (h := ?_)
          refine pu_ HT_ 34 (some 57) (tf 35 1) (h := ?_)
          refine pv_ HT_ 35 (some 58) (tf 36 0) (h := ?_)
          refine done_ (done_of HT_.out (by kernel_rfl)) ?_
          try go_wp2
          go_ret
          exact ⟨by first | rfl | (simp [errW_none, errW_some] <;> rfl) | (simp [*, errW_none, errW_some] <;> rfl), by repeat (first | (with_reducible first | exact HB.out | apply below_alloc | apply pw_below_drewN | apply below_drew1 | refine below_set ?_ GE149.out | refine below_set ?_ GE152.out) | exact HB.out)⟩
        ·rw [if_neg c12] at H
         exact absurd H (by simp)
       ·rw [if_neg c11] at H
        exact absurd H (by simp)
      ·rw [if_neg c10] at H
       have c10b0 : decide (x18_2 < (l0_1.length : Int)) = false := decide_eq_false c10
       clear c10
       obtain rfl := Option.some.inj H
       go_wp2
       go_ret
       exact ⟨by first | rfl | (simp [errW_none, errW_some] <;> rfl) | (simp [*, errW_none, errW_some] <;> rfl), by repeat (first | (with_reducible first | exact HB.out | apply below_alloc | apply pw_below_drewN | apply below_drew1 | refine below_set ?_ GE149.out) | exact HB.out)⟩

end Go.Proofs.Ytmnjdmmljkahgaa.PW
