-- Written for this claim by the session's program pp.py, out of the kit's print and the seat's translation.
import Derived.Test.YtmnjdmmljkahgaaPWx0
import Derived.Test.YtmnjdmmljkahgaaPWx1
namespace Go.Proofs.Ytmnjdmmljkahgaa.PW
open Go.RowKit Go.Proofs.YtmnjdmmljkahgaaW.PrintWords Go.Proofs.YtmnjdmmljkahgaaW.PrintLast Go.Proofs.YtmnjdmmljkahgaaW.PrintMore
attribute [local go_sem] max2_int min2_int max_two min_two max_three min_three max_four min_four   -- for this text's walks alone
set_option linter.unusedVariables false
set_option linter.unusedSimpArgs false

/-! ### spec_WheelOk: function 32 -/
mutual
def spec_WheelOk.j0 : Nat → Bool → Int → List (S93) → Option (Bool)
 | 0, _, _, _ => none
 | k + 1, x18, x107000, x107001 => if x18 = true then (some false) else (spec_WheelOk.l0 k 0 x107000 x107001)
def spec_WheelOk.l0 : Nat → Int → Int → List (S93) → Option (Bool)
 | 0, _, _, _ => none
 | k + 1, x3, x107000, x107001 => if x3 < (x107001.length : Int) then (if 0 ≤ x3 then (if ((rd_T93 x107001 x3).f0) < 0 then (some false) else (if ((rd_T93 x107001 x3).f0) > 2147483647 then (some false) else (if ((rd_T93 x107001 x3).f1) ≤ x107000 then (some false) else (if ((rd_T93 x107001 x3).f1) > 2000000 then (some false) else (if x3 > 0 then (if 0 ≤ (wrap64 (x3 - 1)) then (if (wrap64 (x3 - 1)) < (x107001.length : Int) then ((spec_l7ahead.f ((rd_T93 x107001 (wrap64 (x3 - 1))).f0) ((rd_T93 x107001 (wrap64 (x3 - 1))).f1) ((rd_T93 x107001 x3).f0) ((rd_T93 x107001 x3).f1)).bind fun t110 => (if t110 = true then (if x3 ≤ (x107001.length : Int) then ((spec_l7find.f k (x107001.take (x3 : Int).toNat) ((rd_T93 x107001 x3).f0)).bind fun t115 => (if t115 ≥ 0 then (some false) else (spec_WheelOk.l0 k (wrap64 (x3 + 1)) x107000 x107001))) else (none)) else (some false))) else (none)) else (none)) else (if x3 ≤ (x107001.length : Int) then ((spec_l7find.f k (x107001.take (x3 : Int).toNat) ((rd_T93 x107001 x3).f0)).bind fun t120 => (if t120 ≥ 0 then (some false) else (spec_WheelOk.l0 k (wrap64 (x3 + 1)) x107000 x107001))) else (none))))))) else (none)) else (some true)
end
def spec_WheelOk.f (k : Nat) (a0_0 : Int) (l0_1 : List (S93)) : Option (Bool) := if a0_0 < 0 then (spec_WheelOk.j0 k true a0_0 l0_1) else (if a0_0 > 1000000 then (spec_WheelOk.j0 k true a0_0 l0_1) else (spec_WheelOk.j0 k (decide ((l0_1.length : Int) > 40)) a0_0 l0_1))
theorem spec_WheelOk.mono_l : ∀ k, (∀ y0 y1 y2, LeO (spec_WheelOk.j0 k y0 y1 y2) (spec_WheelOk.j0 (k + 1) y0 y1 y2)) ∧ (∀ y0 y1 y2, LeO (spec_WheelOk.l0 k y0 y1 y2) (spec_WheelOk.l0 (k + 1) y0 y1 y2))
 | 0 => ⟨fun _ _ _ r h => by simp [spec_WheelOk.j0] at h, fun _ _ _ r h => by simp [spec_WheelOk.l0] at h⟩
 | k + 1 => by
  obtain ⟨ih0, ih1⟩ := spec_WheelOk.mono_l k
  refine ⟨?_, ?_⟩
  ·intro y0 y1 y2
   unfold spec_WheelOk.j0
   repeat' first
   | (with_reducible exact ih0 _ _ _)
   | (with_reducible exact ih1 _ _ _)
   | (with_reducible exact spec_l7find.mono _ _ _)
   | (with_reducible exact LeO.refl _)
   | (with_reducible exact LeO.none _)
   | (with_reducible refine LeO.ite ?_ ?_)
   | (with_reducible refine LeO.bind ?_ (fun _ => ?_))
   | exact ih0 _ _ _
   | exact ih1 _ _ _
   | exact spec_l7find.mono _ _ _
   | exact LeO.none _
   | refine LeO.ite ?_ ?_
   | refine LeO.bind ?_ (fun _ => ?_)
  ·intro y0 y1 y2
   unfold spec_WheelOk.l0
   repeat' first
   | (with_reducible exact ih0 _ _ _)
   | (with_reducible exact ih1 _ _ _)
   | (with_reducible exact spec_l7find.mono _ _ _)
   | (with_reducible exact LeO.refl _)
   | (with_reducible exact LeO.none _)
   | (with_reducible refine LeO.ite ?_ ?_)
   | (with_reducible refine LeO.bind ?_ (fun _ => ?_))
   | exact ih0 _ _ _
   | exact ih1 _ _ _
   | exact spec_l7find.mono _ _ _
   | exact LeO.none _
   | refine LeO.ite ?_ ?_
   | refine LeO.bind ?_ (fun _ => ?_)
theorem spec_WheelOk.mono : ∀ a0 a1 k, LeO (spec_WheelOk.f k a0 a1) (spec_WheelOk.f (k + 1) a0 a1) := by
 intro a0 a1 k
 obtain ⟨ih0, ih1⟩ := spec_WheelOk.mono_l k
 unfold spec_WheelOk.f
 repeat' first
   | (with_reducible exact ih0 _ _ _)
   | (with_reducible exact ih1 _ _ _)
   | (with_reducible exact spec_l7find.mono _ _ _)
   | (with_reducible exact LeO.refl _)
   | (with_reducible exact LeO.none _)
   | (with_reducible refine LeO.ite ?_ ?_)
   | (with_reducible refine LeO.bind ?_ (fun _ => ?_))
   | exact ih0 _ _ _
   | exact ih1 _ _ _
   | exact spec_l7find.mono _ _ _
   | exact LeO.none _
   | refine LeO.ite ?_ ?_
   | refine LeO.bind ?_ (fun _ => ?_)
def spec_WheelOk.T7 : Bool × List (List Nat × List Nat) := (true, [([], []), ([0], [0]), ([1], [1]), ([2], [2]), ([3], [3]), ([4, 3], [3, 4]), ([5, 3], [3, 5]), ([3, 6], [3, 6]), ([7, 3], [7]), ([8], [8]), ([9, 8], [8, 9]), ([8], [8]), ([11, 8], [8, 11]), ([10, 12, 8], [8, 10, 12]), ([8, 13], [8, 13]), ([14, 8], [14]), ([15], [15]), ([16, 15], [15, 16]), ([17, 15], [15, 17]), ([15, 18], [15, 18]), ([19, 15], [19]), ([20], [20]), ([21, 20], [20, 21]), ([22, 20, 20], [20, 22]), ([23], [23]), ([24, 23], [23, 24]), ([23], [23]), ([26, 23], [23, 26]), ([25, 27, 23], [23, 25, 27]), ([28, 23], [23, 28]), ([23], [23]), ([29, 30, 23, 23], [23, 29, 30]), ([31, 23], [23, 31]), ([23, 32, 20], [20, 23, 32]), ([20, 33], [20, 33]), ([34, 31], [34]), ([35], [35]), ([36, 35], [35, 36]), ([35], [35]), ([37, 38, 35], [35, 37, 38]), ([35], [35]), ([40, 35], [35, 40]), ([39, 41, 35, 35], [35, 39, 41]), ([42, 35], [35, 42]), ([35, 43], [35, 43])])
def spec_WheelOk.B7 : List Nat := [0, 1, 3, 7, 15, 31, 63, 127, 255, 511, 1023, 511, 2559, 8191, 16383, 32767, 65535, 131071, 262143, 524287, 1048575, 2097151, 4194303, 8388607, 16777215, 33554431, 16777215, 83886079, 268435455, 536870911, 16777215, 2147483647, 4294967295, 8589934591, 17179869183, 34359738367, 68719476735, 137438953471, 68719476735, 549755813887, 68719476735, 1168231104511, 4398046511103, 8796093022207, 17592186044415]
theorem spec_WheelOk.tab7 : rtab .any (opsOf Try.f32 7) = spec_WheelOk.T7 := by kernel_rfl
theorem spec_WheelOk.bits7 : waitsOk spec_WheelOk.T7.2 spec_WheelOk.B7 = true := by kernel_rfl
set_option maxHeartbeats 8000000 in
set_option maxRecDepth 100000 in
theorem spec_WheelOk.calls (k : Nat) (a0_0 : Int) (A0_1 : Option Addr) (c0_1 : Nat) (l0_1 : List (S93)) (r : Bool) (w : World) (hr0_1 : Kd.C k93 w A0_1 l0_1.length l0_1) (hc0_1 : l0_1.length ≤ c0_1) (h : spec_WheelOk.f k a0_0 l0_1 = some r) :
  Calls Try.prog 32 #[.agg #[.int .i64 a0_0, .slice A0_1 l0_1.length c0_1]] w fun e w' => e = .returned (.bool r) ∧ Below w.heap.size w w' := by
 have hu65 := Try.underlying65
 have hu93 := Try.underlying93
 have HR0_1 := Aside0.mk hr0_1
 have HC0_1 := Aside0.mk hc0_1
 clear hr0_1 hc0_1
 have HB := Aside0.mk (Below.refl w.heap.size w)
 have H : (if a0_0 < 0 then (spec_WheelOk.j0 k true a0_0 l0_1) else (if a0_0 > 1000000 then (spec_WheelOk.j0 k true a0_0 l0_1) else (spec_WheelOk.j0 k (decide ((l0_1.length : Int) > 40)) a0_0 l0_1))) = some r := h
 clear h
 have HC2 := Aside0.mk H
 clear H
 go_enter Try.func32, Try.ntmps32
 go_upto_region 1 with (first | ((with_reducible refine gate_dst (N := 1) rfl ?_); (try (refine gate_guard (by rfl) ?_; dsimp only)); refine bx_ 1 #[.int .i64 a0_0, .slice A0_1 l0_1.length c0_1] 65 (h := ?_); intro gb106 hg w3 hbox hb; have BK106 := Aside0.mk (hbox); have GW106 := Aside0.mk ((by rw [hg]; exact (below_size bel) : w.heap.size ≤ gb106)); have GE106 := Aside0.mk ((by rw [hg]; exact (below_size bel) : w.heap.size ≤ gb106)); replace HB := Aside0.mk (below_step bel hb); clear hb hbox hg))
 (try simp only [Act.put, List.setIfInBounds_toArray, List.set_cons_zero, List.set_cons_succ])
 go_cut [18] (fun v18 wc => ∃ (kq : Nat) (x18_1 : Bool), v18 = .bool x18_1 ∧ Aside0 (spec_WheelOk.j0 kq x18_1 a0_0 l0_1 = some r) ∧ Aside0 (kq ≤ k) ∧ Aside0 (wc.heap[gb106]? = some (.cells #[.int .i64 a0_0, (.slice A0_1 l0_1.length c0_1)] 65 (0, 0))) ∧ Aside0 (Below w.heap.size w wc))
 case first =>
  have H := HC2.out
  clear HC2
  by_cases c4 : a0_0 < 0
  ·rw [if_pos c4] at H
   have c4b0 : decide (a0_0 < 0) = true := decide_eq_true c4
   clear c4
   (first | rw [c4b0] | (simp only [i64_w, i32_w]; rw [c4b0]) | skip)
   have H' := Aside0.mk H
   clear H
   obtain ⟨hcz5_0, hcz5_1, -⟩ := cells_2 BK106.out trivial
   obtain ⟨hfz5_0, hfz5_1, -⟩ := frz_2 BK106.out
   go_wp2
   go_meet
   case rel => exact ⟨_, (true), (by first | rfl | (simp; done) | (simp [*]; done)), H', ⟨by first | omega | exact Nat.le_refl _⟩, ⟨by (with_reducible repeat (first | refine blk_drewN ?_ _ | refine blk_drew ?_ | refine blk_alloc ?_ _)); exact BK106.out⟩, ⟨by repeat (first | (with_reducible first | exact HB.out | apply below_alloc | apply pw_below_drewN | apply below_drew1 | refine below_set ?_ GE106.out) | exact HB.out)⟩⟩
  ·rw [if_neg c4] at H
   have c4b0 : decide (a0_0 < 0) = false := decide_eq_false c4
   clear c4
   (first | rw [c4b0] | (simp only [i64_w, i32_w]; rw [c4b0]) | skip)
   by_cases c6 : a0_0 > 1000000
   ·rw [if_pos c6] at H
    have c6b0 : decide (1000000 < a0_0) = true := decide_eq_true c6
    clear c6
    have H' := Aside0.mk H
    clear H
    obtain ⟨hcz7_0, hcz7_1, -⟩ := cells_2 BK106.out trivial
    obtain ⟨hfz7_0, hfz7_1, -⟩ := frz_2 BK106.out
    go_wp2
    go_meet
    case rel => exact ⟨_, (true), (by first | rfl | (simp; done) | (simp [*]; done)), H', ⟨by first | omega | exact Nat.le_refl _⟩, ⟨by (with_reducible repeat (first | refine blk_drewN ?_ _ | refine blk_drew ?_ | refine blk_alloc ?_ _)); exact BK106.out⟩, ⟨by repeat (first | (with_reducible first | exact HB.out | apply below_alloc | apply pw_below_drewN | apply below_drew1 | refine below_set ?_ GE106.out) | exact HB.out)⟩⟩
   ·rw [if_neg c6] at H
    have c6b0 : decide (1000000 < a0_0) = false := decide_eq_false c6
    clear c6
    have H' := Aside0.mk H
    clear H
    obtain ⟨hcz8_0, hcz8_1, -⟩ := cells_2 BK106.out trivial
    obtain ⟨hfz8_0, hfz8_1, -⟩ := frz_2 BK106.out
    go_wp2
    go_meet
    case rel => exact ⟨_, (decide ((l0_1.length : Int) > 40)), (by first | rfl | (simp; done) | (simp [*]; done)), H', ⟨by first | omega | exact Nat.le_refl _⟩, ⟨by (with_reducible repeat (first | refine blk_drewN ?_ _ | refine blk_drew ?_ | refine blk_alloc ?_ _)); exact BK106.out⟩, ⟨by repeat (first | (with_reducible first | exact HB.out | apply below_alloc | apply pw_below_drewN | apply below_drew1 | refine below_set ?_ GE106.out) | exact HB.out)⟩⟩
 case rest =>
  clear HC2
  try clear p2; try clear c3; try clear c4; try clear c4b0; try clear c6; try clear c6b0; try clear hcz5_0; try clear hcz5_1; try clear hcz7_0; try clear hcz7_1; try clear hcz8_0; try clear hcz8_1; try clear hfz5_0; try clear hfz5_1; try clear hfz7_0; try clear hfz7_1; try clear hfz8_0; try clear hfz8_1
  obtain ⟨kq, x18_1, rfl, HA, HJ1, BK106, HB⟩ := hcut
  cases kq with
  | zero => exact absurd HA.out (by simp [spec_WheelOk.j0])
  | succ kj1 =>
   have H := HA.out
   clear HA
   simp only [spec_WheelOk.j0] at H
   by_cases c9 : x18_1 = true
   ·subst c9
    have H1 : (some false) = some r := by rw [if_pos rfl] at H; exact H
    clear H
    have H := H1
    clear H1
    obtain rfl := Option.some.inj H
    go_wp2
    go_ret
    exact ⟨by first | rfl | (simp [errW_none, errW_some] <;> rfl) | (simp [*, errW_none, errW_some] <;> rfl), by repeat (first | (with_reducible first | exact HB.out | apply below_alloc | apply pw_below_drewN | apply below_drew1 | refine below_set ?_ GE106.out) | exact HB.out)⟩
   ·replace c9 := Bool.eq_false_iff.mpr c9
    subst c9
    have H1 : (spec_WheelOk.l0 kj1 0 a0_0 l0_1) = some r := by rw [if_neg (show ¬ (false = true) by decide)] at H; exact H
    clear H
    have H := H1
    clear H1
    have H' := Aside0.mk H
    clear H
    go_wp2
    go_loopg [3] kj1 (fun kq v3 w' => ∃ (x3_2 : Int), v3 = .int .i64 x3_2 ∧ Aside0 (spec_WheelOk.l0 kq x3_2 a0_0 l0_1 = some r) ∧ Aside0 (kq ≤ kj1) ∧ Aside0 (w'.heap[gb106]? = some (.cells #[.int .i64 a0_0, (.slice A0_1 l0_1.length c0_1)] 65 (0, 0))) ∧ Aside0 (Below w.heap.size w w'))
    case atStart => exact ⟨(0), (by first | rfl | (simp; done) | (simp [*]; done)), H', ⟨Nat.le_refl _⟩, ⟨by (with_reducible repeat (first | refine blk_drewN ?_ _ | refine blk_drew ?_ | refine blk_alloc ?_ _)); exact BK106.out⟩, ⟨by repeat (first | (with_reducible first | exact HB.out | apply below_alloc | apply pw_below_drewN | apply below_drew1 | refine below_set ?_ GE106.out) | exact HB.out)⟩⟩
    case round =>
     clear H'
     try clear p2; try clear c3; try clear c4; try clear c4b0; try clear c6; try clear c6b0; try clear c9; try clear hcz5_0; try clear hcz5_1; try clear hcz7_0; try clear hcz7_1; try clear hcz8_0; try clear hcz8_1; try clear hfz5_0; try clear hfz5_1; try clear hfz7_0; try clear hfz7_1; try clear hfz8_0; try clear hfz8_1; try clear p2
     obtain ⟨x3_2, rfl, HA, HK2, BK106, HB⟩ := hrel
     cases gk with
     | zero => exact absurd HA.out (by simp [spec_WheelOk.l0])
     | succ k2 =>
      have H := HA.out
      clear HA
      simp only [spec_WheelOk.l0] at H
      by_cases c10 : x3_2 < (l0_1.length : Int)
      ·rw [if_pos c10] at H
       have c10b0 : decide (x3_2 < (l0_1.length : Int)) = true := decide_eq_true c10
       clear c10
       by_cases c11 : 0 ≤ x3_2
       ·rw [if_pos c11] at H
        have c11b0 : decide (0 ≤ x3_2) = true := decide_eq_true c11
        clear c11
        by_cases c12 : ((rd_T93 l0_1 x3_2).f0) < 0
        ·rw [if_pos c12] at H
         have c12b0 : decide (((rd_T93 l0_1 x3_2).f0) < 0) = true := decide_eq_true c12
         clear c12
         obtain rfl := Option.some.inj H
         obtain ⟨hcz13_0, hcz13_1, -⟩ := cells_2 BK106.out trivial
         obtain ⟨hfz13_0, hfz13_1, -⟩ := frz_2 BK106.out
         have p107 : 0 ≤ (x3_2 : Int) := od
         have q107 : x3_2 < (l0_1.length : Int) := od
         obtain ⟨ad107, e107, hx107_0, hx107_1⟩ := at_T93 HR0_1.out x3_2 p107 q107
         cases e107
         replace hx107_0 := hxb HB hx107_0
         replace hx107_1 := hxb HB hx107_1
         replace p107 := eq_true p107
         replace q107 := eq_true q107
         try go_wp2_with (first | ((with_reducible refine gate_dst (N := 4) rfl ?_); (try (refine gate_guard (by rfl) ?_; dsimp only)); refine bx_ 4 #[.int .i64 0, .int .i64 0] 93 (h := ?_); intro gb108 hg w14 hbox hb; have BK108 := Aside0.mk (hbox); have GW108 := Aside0.mk ((by rw [hg]; exact (below_size bel) : w.heap.size ≤ gb108)); have GE108 := Aside0.mk ((by rw [hg]; exact (below_size bel) : w.heap.size ≤ gb108)); have NB106_108 := Aside0.mk ((by rw [hg]; exact Nat.ne_of_lt (blt BK106) : gb106 ≠ gb108)); have NB108_106 := Aside0.mk ((by rw [hg]; exact Nat.ne_of_gt (blt BK106) : gb108 ≠ gb106)); replace BK106 := Aside0.mk (blb BK106 hb); replace HB := Aside0.mk (below_step bel hb); clear hb hbox hg; have hnb15 := NB108_106.out; have hnc15 := NB106_108.out; obtain ⟨hcz16_0, hcz16_1, -⟩ := cells_2 BK108.out trivial; obtain ⟨hfz16_0, hfz16_1, -⟩ := frz_2 BK108.out))
         have n0_ : Aside0 (((w14.setCell ⟨gb108, 0, none⟩ (.int .i64 ((rd_T93 l0_1 x3_2).f0))).setCell ⟨gb108, 1, none⟩ (.int .i64 ((rd_T93 l0_1 x3_2).f1))).heap[gb106]? = some (.cells #[.int .i64 a0_0, .slice (some ad107) l0_1.length c0_1] 65 (0, 0))) := ⟨by (with_reducible repeat (first | refine blk_drewN ?_ _ | refine blk_drew ?_ | refine blk_alloc ?_ _)); refine blk_far ?_ NB106_108.out _; (with_reducible repeat (first | refine blk_drewN ?_ _ | refine blk_drew ?_ | refine blk_alloc ?_ _)); refine blk_far ?_ NB106_108.out _; (with_reducible repeat (first | refine blk_drewN ?_ _ | refine blk_drew ?_ | refine blk_alloc ?_ _)); exact BK106.out⟩
         have n1_ : Aside0 (((w14.setCell ⟨gb108, 0, none⟩ (.int .i64 ((rd_T93 l0_1 x3_2).f0))).setCell ⟨gb108, 1, none⟩ (.int .i64 ((rd_T93 l0_1 x3_2).f1))).heap[gb108]? = some (.cells #[.int .i64 ((rd_T93 l0_1 x3_2).f0), .int .i64 ((rd_T93 l0_1 x3_2).f1)] 93 (0, 0))) := ⟨by (with_reducible repeat (first | refine blk_drewN ?_ _ | refine blk_drew ?_ | refine blk_alloc ?_ _)); refine blk_put (cs := #[.int .i64 ((rd_T93 l0_1 x3_2).f0), .int .i64 0]) ?_ 1 _ rfl; (with_reducible repeat (first | refine blk_drewN ?_ _ | refine blk_drew ?_ | refine blk_alloc ?_ _)); refine blk_put (cs := #[.int .i64 0, .int .i64 0]) ?_ 0 _ rfl; (with_reducible repeat (first | refine blk_drewN ?_ _ | refine blk_drew ?_ | refine blk_alloc ?_ _)); exact BK108.out⟩
         have n2_ : Aside0 (Below w.heap.size w ((w14.setCell ⟨gb108, 0, none⟩ (.int .i64 ((rd_T93 l0_1 x3_2).f0))).setCell ⟨gb108, 1, none⟩ (.int .i64 ((rd_T93 l0_1 x3_2).f1)))) := ⟨by repeat (first | (with_reducible first | exact HB.out | apply below_alloc | apply pw_below_drewN | apply below_drew1 | refine below_set ?_ GE106.out | refine below_set ?_ GE108.out) | exact HB.out)⟩
         (try clear BK106)
         (try clear BK108)
         (try clear HB)
         generalize ((w14.setCell ⟨gb108, 0, none⟩ (.int .i64 ((rd_T93 l0_1 x3_2).f0))).setCell ⟨gb108, 1, none⟩ (.int .i64 ((rd_T93 l0_1 x3_2).f1))) = w17 at n0_ n1_ n2_ ⊢
         have BK106 := n0_
         have BK108 := n1_
         have HB := n2_
         clear n0_ n1_ n2_
         replace BK106 := Aside0.mk (blk_drew BK106.out)
         replace BK108 := Aside0.mk (blk_drew BK108.out)
         replace HB := Aside0.mk (below_drew1 HB.out)
         refine start_ (n := 45) (S := fun w' => w'.cell? ⟨gb108, 0, none⟩ = some (.int .i64 ((rd_T93 l0_1 x3_2).f0)) ∧ w'.cell? ⟨gb108, 1, none⟩ = some (.int .i64 ((rd_T93 l0_1 x3_2).f1))) (ds := []) (tf 0 45) (by kernel_rfl) rfl rfl (cellz_2 BK108.out) (fun hHeld => ?_); refine with_tabW spec_WheelOk.tab7 spec_WheelOk.bits7 (fun HT_ HW_ => ?_)
         generalize w17.drew = w18 at BK106 BK108 HB hHeld ⊢
         refine pv_ HT_ 0 (some 31) (tf 1 44) (h := ?_)
         refine tv_ HT_ HW_ hHeld 1 (some 32) (tf 2 43) (h := ?_)
         refine pv_ HT_ 2 (some 33) (tf 3 42) (h := ?_)
         refine pv_ HT_ 3 (some 34) (tf 4 41) (h := ?_)
         refine pu_ HT_ 4 (some 35) (tf 5 40) (h := ?_)
         refine pu_ HT_ 5 (some 36) (tf 6 39) (h := ?_)
         refine pu_ HT_ 6 (some 37) (tf 7 38) (h := ?_)
         refine pv_ HT_ 7 (some 38) (tf 8 37) (h := ?_)
         refine pv_ HT_ 8 (some 39) (tf 9 36) (h := ?_)
         refine pu_ HT_ 9 (some 40) (tf 10 35) (h := ?_)
         refine pu_ HT_ 10 (some 41) (tf 11 34) (h := ?_)
         refine pu_ HT_ 11 (some 42) (tf 12 33) (h := ?_)
         refine pu_ HT_ 12 (some 43) (tf 13 32) (h := ?_)
         refine pu_ HT_ 13 (some 44) (tf 14 31) (h := ?_)
         refine pv_ HT_ 14 (some 45) (tf 15 30) (h := ?_)
         refine pv_ HT_ 15 (some 46) (tf 16 29) (h := ?_)
         refine pu_ HT_ 16 (some 47) (tf 17 28) (h := ?_)
         refine pu_ HT_ 17 (some 48) (tf 18 27) (h := ?_)
         refine pu_ HT_ 18 (some 49) (tf 19 26) (h := ?_)
         refine pv_ HT_ 19 (some 50) (tf 20 25) (h := ?_)
         refine pv_ HT_ 20 (some 51) (tf 21 24) (h := ?_)
         refine pu_ HT_ 21 (some 52) (tf 22 23) (h := ?_)
         refine pu_ HT_ 22 (some 53) (tf 23 22) (h := ?_)
         refine pu_ HT_ 23 (some 54) (tf 24 21) (h := ?_)
         refine pu_ HT_ 24 (some 55) (tf 25 20) (h := ?_)
         refine pu_ HT_ 25 (some 56) (tf 26 19) (h := ?_)
         refine pu_ HT_ 26 (some 57) (tf 27 18) (h := ?_)
         refine pu_ HT_ 27 (some 58) (tf 28 17) (h := ?_)
         refine pu_ HT_ 28 (some 59) (tf 29 16) (h := ?_)
         refine pu_ HT_ 29 (some 60) (tf 30 15) (h := ?_)
         refine pu_ HT_ 30 (some 61) (tf 31 14) (h := ?_)
         refine pu_ HT_ 31 (some 62) (tf 32 13) (h := ?_)
         refine pu_ HT_ 32 (some 63) (tf 33 12) (h := ?_)
         refine pu_ HT_ 33 (some 64) (tf 34 11) (h := ?_)
         refine pv_ HT_ 34 (some 65) (tf 35 10) (h := ?_)
         refine pv_ HT_ 35 (some 66) (tf 36 9) (h := ?_)
         refine pu_ HT_ 36 (some 67) (tf 37 8) (h := ?_)
         refine pu_ HT_ 37 (some 68) (tf 38 7) (h := ?_)
         refine pu_ HT_ 38 (some 69) (tf 39 6) (h := ?_)
         refine pu_ HT_ 39 (some 70) (tf 40 5) (h := ?_)
         refine pu_ HT_ 40 (some 71) (tf 41 4) (h := ?_)
         refine pu_ HT_ 41 (some 72) (tf 42 3) (h := ?_)
         refine pu_ HT_ 42 (some 73) (tf 43 2) (h := ?_)
         refine pu_ HT_ 43 (some 74) (tf 44 1) (h := ?_)
         refine pv_ HT_ 44 (some 75) (tf 45 0) (h := ?_)
         refine done_ (done_of HT_.out (by kernel_rfl)) ?_
         try go_wp2
         go_ret
         exact ⟨by first | rfl | (simp [errW_none, errW_some] <;> rfl) | (simp [*, errW_none, errW_some] <;> rfl), by repeat (first | (with_reducible first | exact HB.out | apply below_alloc | apply pw_below_drewN | apply below_drew1 | refine below_set ?_ GE106.out | refine below_set ?_ GE108.out) | exact HB.out)⟩
        ·rw [if_neg c12] at H
         have c12b0 : decide (((rd_T93 l0_1 x3_2).f0) < 0) = false := decide_eq_false c12
         clear c12
         by_cases c19 : ((rd_T93 l0_1 x3_2).f0) > 2147483647
         ·rw [if_pos c19] at H
          have c19b0 : decide (2147483647 < ((rd_T93 l0_1 x3_2).f0)) = true := decide_eq_true c19
          clear c19
          obtain rfl := Option.some.inj H
          obtain ⟨hcz20_0, hcz20_1, -⟩ := cells_2 BK106.out trivial
          obtain ⟨hfz20_0, hfz20_1, -⟩ := frz_2 BK106.out
          have p107 : 0 ≤ (x3_2 : Int) := od
          have q107 : x3_2 < (l0_1.length : Int) := od
          obtain ⟨ad107, e107, hx107_0, hx107_1⟩ := at_T93 HR0_1.out x3_2 p107 q107
          cases e107
          replace hx107_0 := hxb HB hx107_0
          replace hx107_1 := hxb HB hx107_1
          replace p107 := eq_true p107
          replace q107 := eq_true q107
          try go_wp2_with (first | ((with_reducible refine gate_dst (N := 4) rfl ?_); (try (refine gate_guard (by rfl) ?_; dsimp only)); refine bx_ 4 #[.int .i64 0, .int .i64 0] 93 (h := ?_); intro gb108 hg w21 hbox hb; have BK108 := Aside0.mk (hbox); have GW108 := Aside0.mk ((by rw [hg]; exact (below_size bel) : w.heap.size ≤ gb108)); have GE108 := Aside0.mk ((by rw [hg]; exact (below_size bel) : w.heap.size ≤ gb108)); have NB106_108 := Aside0.mk ((by rw [hg]; exact Nat.ne_of_lt (blt BK106) : gb106 ≠ gb108)); have NB108_106 := Aside0.mk ((by rw [hg]; exact Nat.ne_of_gt (blt BK106) : gb108 ≠ gb106)); replace BK106 := Aside0.mk (blb BK106 hb); replace HB := Aside0.mk (below_step bel hb); clear hb hbox hg; have hnb22 := NB108_106.out; have hnc22 := NB106_108.out; obtain ⟨hcz23_0, hcz23_1, -⟩ := cells_2 BK108.out trivial; obtain ⟨hfz23_0, hfz23_1, -⟩ := frz_2 BK108.out))
          have n0_ : Aside0 (((w21.setCell ⟨gb108, 0, none⟩ (.int .i64 ((rd_T93 l0_1 x3_2).f0))).setCell ⟨gb108, 1, none⟩ (.int .i64 ((rd_T93 l0_1 x3_2).f1))).heap[gb106]? = some (.cells #[.int .i64 a0_0, .slice (some ad107) l0_1.length c0_1] 65 (0, 0))) := ⟨by (with_reducible repeat (first | refine blk_drewN ?_ _ | refine blk_drew ?_ | refine blk_alloc ?_ _)); refine blk_far ?_ NB106_108.out _; (with_reducible repeat (first | refine blk_drewN ?_ _ | refine blk_drew ?_ | refine blk_alloc ?_ _)); refine blk_far ?_ NB106_108.out _; (with_reducible repeat (first | refine blk_drewN ?_ _ | refine blk_drew ?_ | refine blk_alloc ?_ _)); exact BK106.out⟩
          have n1_ : Aside0 (((w21.setCell ⟨gb108, 0, none⟩ (.int .i64 ((rd_T93 l0_1 x3_2).f0))).setCell ⟨gb108, 1, none⟩ (.int .i64 ((rd_T93 l0_1 x3_2).f1))).heap[gb108]? = some (.cells #[.int .i64 ((rd_T93 l0_1 x3_2).f0), .int .i64 ((rd_T93 l0_1 x3_2).f1)] 93 (0, 0))) := ⟨by (with_reducible repeat (first | refine blk_drewN ?_ _ | refine blk_drew ?_ | refine blk_alloc ?_ _)); refine blk_put (cs := #[.int .i64 ((rd_T93 l0_1 x3_2).f0), .int .i64 0]) ?_ 1 _ rfl; (with_reducible repeat (first | refine blk_drewN ?_ _ | refine blk_drew ?_ | refine blk_alloc ?_ _)); refine blk_put (cs := #[.int .i64 0, .int .i64 0]) ?_ 0 _ rfl; (with_reducible repeat (first | refine blk_drewN ?_ _ | refine blk_drew ?_ | refine blk_alloc ?_ _)); exact BK108.out⟩
          have n2_ : Aside0 (Below w.heap.size w ((w21.setCell ⟨gb108, 0, none⟩ (.int .i64 ((rd_T93 l0_1 x3_2).f0))).setCell ⟨gb108, 1, none⟩ (.int .i64 ((rd_T93 l0_1 x3_2).f1)))) := ⟨by repeat (first | (with_reducible first | exact HB.out | apply below_alloc | apply pw_below_drewN | apply below_drew1 | refine below_set ?_ GE106.out | refine below_set ?_ GE108.out) | exact HB.out)⟩
          (try clear BK106)
          (try clear BK108)
          (try clear HB)
          generalize ((w21.setCell ⟨gb108, 0, none⟩ (.int .i64 ((rd_T93 l0_1 x3_2).f0))).setCell ⟨gb108, 1, none⟩ (.int .i64 ((rd_T93 l0_1 x3_2).f1))) = w24 at n0_ n1_ n2_ ⊢
          have BK106 := n0_
          have BK108 := n1_
          have HB := n2_
          clear n0_ n1_ n2_
          replace BK106 := Aside0.mk (blk_drew BK106.out)
          replace BK108 := Aside0.mk (blk_drew BK108.out)
          replace HB := Aside0.mk (below_drew1 HB.out)
          refine start_ (n := 45) (S := fun w' => w'.cell? ⟨gb108, 0, none⟩ = some (.int .i64 ((rd_T93 l0_1 x3_2).f0)) ∧ w'.cell? ⟨gb108, 1, none⟩ = some (.int .i64 ((rd_T93 l0_1 x3_2).f1))) (ds := []) (tf 0 45) (by kernel_rfl) rfl rfl (cellz_2 BK108.out) (fun hHeld => ?_); refine with_tabW spec_WheelOk.tab7 spec_WheelOk.bits7 (fun HT_ HW_ => ?_)
          generalize w24.drew = w25 at BK106 BK108 HB hHeld ⊢
          refine pv_ HT_ 0 (some 31) (tf 1 44) (h := ?_)
          refine tv_ HT_ HW_ hHeld 1 (some 32) (tf 2 43) (h := ?_)
          refine pv_ HT_ 2 (some 33) (tf 3 42) (h := ?_)
          refine pv_ HT_ 3 (some 34) (tf 4 41) (h := ?_)
          refine pv_ HT_ 4 (some 35) (tf 5 40) (h := ?_)
          refine tv_ HT_ HW_ hHeld 5 (some 36) (tf 6 39) (h := ?_)
          refine pv_ HT_ 6 (some 37) (tf 7 38) (h := ?_)
          refine pv_ HT_ 7 (some 38) (tf 8 37) (h := ?_)
          refine pv_ HT_ 8 (some 39) (tf 9 36) (h := ?_)
          refine pu_ HT_ 9 (some 40) (tf 10 35) (h := ?_)
          refine pu_ HT_ 10 (some 41) (tf 11 34) (h := ?_)
          refine pu_ HT_ 11 (some 42) (tf 12 33) (h := ?_)
          refine pu_ HT_ 12 (some 43) (tf 13 32) (h := ?_)
          refine pu_ HT_ 13 (some 44) (tf 14 31) (h := ?_)
          refine pv_ HT_ 14 (some 45) (tf 15 30) (h := ?_)
          refine pv_ HT_ 15 (some 46) (tf 16 29) (h := ?_)
          refine pu_ HT_ 16 (some 47) (tf 17 28) (h := ?_)
          refine pu_ HT_ 17 (some 48) (tf 18 27) (h := ?_)
          refine pu_ HT_ 18 (some 49) (tf 19 26) (h := ?_)
          refine pv_ HT_ 19 (some 50) (tf 20 25) (h := ?_)
          refine pv_ HT_ 20 (some 51) (tf 21 24) (h := ?_)
          refine pu_ HT_ 21 (some 52) (tf 22 23) (h := ?_)
          refine pu_ HT_ 22 (some 53) (tf 23 22) (h := ?_)
          refine pu_ HT_ 23 (some 54) (tf 24 21) (h := ?_)
          refine pu_ HT_ 24 (some 55) (tf 25 20) (h := ?_)
          refine pu_ HT_ 25 (some 56) (tf 26 19) (h := ?_)
          refine pu_ HT_ 26 (some 57) (tf 27 18) (h := ?_)
          refine pu_ HT_ 27 (some 58) (tf 28 17) (h := ?_)
          refine pu_ HT_ 28 (some 59) (tf 29 16) (h := ?_)
          refine pu_ HT_ 29 (some 60) (tf 30 15) (h := ?_)
          refine pu_ HT_ 30 (some 61) (tf 31 14) (h := ?_)
          refine pu_ HT_ 31 (some 62) (tf 32 13) (h := ?_)
          refine pu_ HT_ 32 (some 63) (tf 33 12) (h := ?_)
          refine pu_ HT_ 33 (some 64) (tf 34 11) (h := ?_)
          refine pv_ HT_ 34 (some 65) (tf 35 10) (h := ?_)
          refine pv_ HT_ 35 (some 66) (tf 36 9) (h := ?_)
          refine pu_ HT_ 36 (some 67) (tf 37 8) (h := ?_)
          refine pu_ HT_ 37 (some 68) (tf 38 7) (h := ?_)
          refine pu_ HT_ 38 (some 69) (tf 39 6) (h := ?_)
          refine pu_ HT_ 39 (some 70) (tf 40 5) (h := ?_)
          refine pu_ HT_ 40 (some 71) (tf 41 4) (h := ?_)
          refine pu_ HT_ 41 (some 72) (tf 42 3) (h := ?_)
          refine pu_ HT_ 42 (some 73) (tf 43 2) (h := ?_)
          refine pu_ HT_ 43 (some 74) (tf 44 1) (h := ?_)
          refine pv_ HT_ 44 (some 75) (tf 45 0) (h := ?_)
          refine done_ (done_of HT_.out (by kernel_rfl)) ?_
          try go_wp2
          go_ret
          exact ⟨by first | rfl | (simp [errW_none, errW_some] <;> rfl) | (simp [*, errW_none, errW_some] <;> rfl), by repeat (first | (with_reducible first | exact HB.out | apply below_alloc | apply pw_below_drewN | apply below_drew1 | refine below_set ?_ GE106.out | refine below_set ?_ GE108.out) | exact HB.out)⟩
         ·rw [if_neg c19] at H
          have c19b0 : decide (2147483647 < ((rd_T93 l0_1 x3_2).f0)) = false := decide_eq_false c19
          clear c19
          by_cases c26 : ((rd_T93 l0_1 x3_2).f1) ≤ a0_0
          ·rw [if_pos c26] at H
           have c26b0 : decide (((rd_T93 l0_1 x3_2).f1) ≤ a0_0) = true := decide_eq_true c26
           clear c26
           obtain rfl := Option.some.inj H
           obtain ⟨hcz27_0, hcz27_1, -⟩ := cells_2 BK106.out trivial
           obtain ⟨hfz27_0, hfz27_1, -⟩ := frz_2 BK106.out
           have p107 : 0 ≤ (x3_2 : Int) := od
           have q107 : x3_2 < (l0_1.length : Int) := od
           obtain ⟨ad107, e107, hx107_0, hx107_1⟩ := at_T93 HR0_1.out x3_2 p107 q107
           cases e107
           replace hx107_0 := hxb HB hx107_0
           replace hx107_1 := hxb HB hx107_1
           replace p107 := eq_true p107
           replace q107 := eq_true q107
           try go_wp2_with (first | ((with_reducible refine gate_dst (N := 4) rfl ?_); (try (refine gate_guard (by rfl) ?_; dsimp only)); refine bx_ 4 #[.int .i64 0, .int .i64 0] 93 (h := ?_); intro gb108 hg w28 hbox hb; have BK108 := Aside0.mk (hbox); have GW108 := Aside0.mk ((by rw [hg]; exact (below_size bel) : w.heap.size ≤ gb108)); have GE108 := Aside0.mk ((by rw [hg]; exact (below_size bel) : w.heap.size ≤ gb108)); have NB106_108 := Aside0.mk ((by rw [hg]; exact Nat.ne_of_lt (blt BK106) : gb106 ≠ gb108)); have NB108_106 := Aside0.mk ((by rw [hg]; exact Nat.ne_of_gt (blt BK106) : gb108 ≠ gb106)); replace BK106 := Aside0.mk (blb BK106 hb); replace HB := Aside0.mk (below_step bel hb); clear hb hbox hg; have hnb29 := NB108_106.out; have hnc29 := NB106_108.out; obtain ⟨hcz30_0, hcz30_1, -⟩ := cells_2 BK108.out trivial; obtain ⟨hfz30_0, hfz30_1, -⟩ := frz_2 BK108.out))
           have n0_ : Aside0 (((w28.setCell ⟨gb108, 0, none⟩ (.int .i64 ((rd_T93 l0_1 x3_2).f0))).setCell ⟨gb108, 1, none⟩ (.int .i64 ((rd_T93 l0_1 x3_2).f1))).heap[gb106]? = some (.cells #[.int .i64 a0_0, .slice (some ad107) l0_1.length c0_1] 65 (0, 0))) := ⟨by (with_reducible repeat (first | refine blk_drewN ?_ _ | refine blk_drew ?_ | refine blk_alloc ?_ _)); refine blk_far ?_ NB106_108.out _; (with_reducible repeat (first | refine blk_drewN ?_ _ | refine blk_drew ?_ | refine blk_alloc ?_ _)); refine blk_far ?_ NB106_108.out _; (with_reducible repeat (first | refine blk_drewN ?_ _ | refine blk_drew ?_ | refine blk_alloc ?_ _)); exact BK106.out⟩
           have n1_ : Aside0 (((w28.setCell ⟨gb108, 0, none⟩ (.int .i64 ((rd_T93 l0_1 x3_2).f0))).setCell ⟨gb108, 1, none⟩ (.int .i64 ((rd_T93 l0_1 x3_2).f1))).heap[gb108]? = some (.cells #[.int .i64 ((rd_T93 l0_1 x3_2).f0), .int .i64 ((rd_T93 l0_1 x3_2).f1)] 93 (0, 0))) := ⟨by (with_reducible repeat (first | refine blk_drewN ?_ _ | refine blk_drew ?_ | refine blk_alloc ?_ _)); refine blk_put (cs := #[.int .i64 ((rd_T93 l0_1 x3_2).f0), .int .i64 0]) ?_ 1 _ rfl; (with_reducible repeat (first | refine blk_drewN ?_ _ | refine blk_drew ?_ | refine blk_alloc ?_ _)); refine blk_put (cs := #[.int .i64 0, .int .i64 0]) ?_ 0 _ rfl; (with_reducible repeat (first | refine blk_drewN ?_ _ | refine blk_drew ?_ | refine blk_alloc ?_ _)); exact BK108.out⟩
           have n2_ : Aside0 (Below w.heap.size w ((w28.setCell ⟨gb108, 0, none⟩ (.int .i64 ((rd_T93 l0_1 x3_2).f0))).setCell ⟨gb108, 1, none⟩ (.int .i64 ((rd_T93 l0_1 x3_2).f1)))) := ⟨by repeat (first | (with_reducible first | exact HB.out | apply below_alloc | apply pw_below_drewN | apply below_drew1 | refine below_set ?_ GE106.out | refine below_set ?_ GE108.out) | exact HB.out)⟩
           (try clear BK106)
           (try clear BK108)
           (try clear HB)
           generalize ((w28.setCell ⟨gb108, 0, none⟩ (.int .i64 ((rd_T93 l0_1 x3_2).f0))).setCell ⟨gb108, 1, none⟩ (.int .i64 ((rd_T93 l0_1 x3_2).f1))) = w31 at n0_ n1_ n2_ ⊢
           have BK106 := n0_
           have BK108 := n1_
           have HB := n2_
           clear n0_ n1_ n2_
           replace BK106 := Aside0.mk (blk_drew BK106.out)
           replace BK108 := Aside0.mk (blk_drew BK108.out)
           replace HB := Aside0.mk (below_drew1 HB.out)
           refine start_ (n := 45) (S := fun w' => w'.cell? ⟨gb108, 0, none⟩ = some (.int .i64 ((rd_T93 l0_1 x3_2).f0)) ∧ w'.cell? ⟨gb108, 1, none⟩ = some (.int .i64 ((rd_T93 l0_1 x3_2).f1)) ∧ w'.cell? ⟨gb106, 0, none⟩ = some (.int .i64 a0_0) ∧ w'.cell? ⟨gb106, 1, none⟩ = some (.slice (some ad107) l0_1.length c0_1)) (ds := []) (tf 0 45) (by kernel_rfl) rfl rfl (cells_2 BK108.out ⟨(blk_cell BK106.out 0).trans rfl, (blk_cell BK106.out 1).trans rfl⟩) (fun hHeld => ?_); refine with_tabW spec_WheelOk.tab7 spec_WheelOk.bits7 (fun HT_ HW_ => ?_)
           generalize w31.drew = w32 at BK106 BK108 HB hHeld ⊢
           refine pv_ HT_ 0 (some 31) (tf 1 44) (h := ?_)
           refine tv_ HT_ HW_ hHeld 1 (some 32) (tf 2 43) (h := ?_)
           refine pv_ HT_ 2 (some 33) (tf 3 42) (h := ?_)
           refine pv_ HT_ 3 (some 34) (tf 4 41) (h := ?_)
           refine pv_ HT_ 4 (some 35) (tf 5 40) (h := ?_)
           refine tv_ HT_ HW_ hHeld 5 (some 36) (tf 6 39) (h := ?_)
           refine pv_ HT_ 6 (some 37) (tf 7 38) (h := ?_)
           refine pv_ HT_ 7 (some 38) (tf 8 37) (h := ?_)
           refine pv_ HT_ 8 (some 39) (tf 9 36) (h := ?_)
           refine pv_ HT_ 9 (some 40) (tf 10 35) (h := ?_)
           refine pv_ HT_ 11 (some 42) (tb 45 3071) (h := ?_)
           refine tv_ HT_ HW_ hHeld 10 (some 41) (tf 12 33) (h := ?_)
           refine tv_ HT_ HW_ hHeld 12 (some 43) (tf 13 32) (h := ?_)
           refine pv_ HT_ 13 (some 44) (tf 14 31) (h := ?_)
           refine pv_ HT_ 14 (some 45) (tf 15 30) (h := ?_)
           refine pv_ HT_ 15 (some 46) (tf 16 29) (h := ?_)
           refine pu_ HT_ 16 (some 47) (tf 17 28) (h := ?_)
           refine pu_ HT_ 17 (some 48) (tf 18 27) (h := ?_)
           refine pu_ HT_ 18 (some 49) (tf 19 26) (h := ?_)
           refine pv_ HT_ 19 (some 50) (tf 20 25) (h := ?_)
           refine pv_ HT_ 20 (some 51) (tf 21 24) (h := ?_)
           refine pu_ HT_ 21 (some 52) (tf 22 23) (h := ?_)
           refine pu_ HT_ 22 (some 53) (tf 23 22) (h := ?_)
           refine pu_ HT_ 23 (some 54) (tf 24 21) (h := ?_)
           refine pu_ HT_ 24 (some 55) (tf 25 20) (h := ?_)
           refine pu_ HT_ 25 (some 56) (tf 26 19) (h := ?_)
           refine pu_ HT_ 26 (some 57) (tf 27 18) (h := ?_)
           refine pu_ HT_ 27 (some 58) (tf 28 17) (h := ?_)
           refine pu_ HT_ 28 (some 59) (tf 29 16) (h := ?_)
           refine pu_ HT_ 29 (some 60) (tf 30 15) (h := ?_)
           refine pu_ HT_ 30 (some 61) (tf 31 14) (h := ?_)
           refine pu_ HT_ 31 (some 62) (tf 32 13) (h := ?_)
           refine pu_ HT_ 32 (some 63) (tf 33 12) (h := ?_)
           refine pu_ HT_ 33 (some 64) (tf 34 11) (h := ?_)
           refine pv_ HT_ 34 (some 65) (tf 35 10) (h := ?_)
           refine pv_ HT_ 35 (some 66) (tf 36 9) (h := ?_)
           refine pu_ HT_ 36 (some 67) (tf 37 8) (h := ?_)
           refine pu_ HT_ 37 (some 68) (tf 38 7) (h := ?_)
           refine pu_ HT_ 38 (some 69) (tf 39 6) (h := ?_)
           refine pu_ HT_ 39 (some 70) (tf 40 5) (h := ?_)
           refine pu_ HT_ 40 (some 71) (tf 41 4) (h := ?_)
           refine pu_ HT_ 41 (some 72) (tf 42 3) (h := ?_)
           refine pu_ HT_ 42 (some 73) (tf 43 2) (h := ?_)
           refine pu_ HT_ 43 (some 74) (tf 44 1) (h := ?_)
           refine pv_ HT_ 44 (some 75) (tf 45 0) (h := ?_)
           refine done_ (done_of HT_.out (by kernel_rfl)) ?_
           try go_wp2
           go_ret
           exact ⟨by first | rfl | (simp [errW_none, errW_some] <;> rfl) | (simp [*, errW_none, errW_some] <;> rfl), by repeat (first | (with_reducible first | exact HB.out | apply below_alloc | apply pw_below_drewN | apply below_drew1 | refine below_set ?_ GE106.out | refine below_set ?_ GE108.out) | exact HB.out)⟩
          ·rw [if_neg c26] at H
           have c26b0 : decide (((rd_T93 l0_1 x3_2).f1) ≤ a0_0) = false := decide_eq_false c26
           clear c26
           by_cases c33 : ((rd_T93 l0_1 x3_2).f1) > 2000000
           ·rw [if_pos c33] at H
            have c33b0 : decide (2000000 < ((rd_T93 l0_1 x3_2).f1)) = true := decide_eq_true c33
            clear c33
            obtain rfl := Option.some.inj H
            obtain ⟨hcz34_0, hcz34_1, -⟩ := cells_2 BK106.out trivial
            obtain ⟨hfz34_0, hfz34_1, -⟩ := frz_2 BK106.out
            have p107 : 0 ≤ (x3_2 : Int) := od
            have q107 : x3_2 < (l0_1.length : Int) := od
            obtain ⟨ad107, e107, hx107_0, hx107_1⟩ := at_T93 HR0_1.out x3_2 p107 q107
            cases e107
            replace hx107_0 := hxb HB hx107_0
            replace hx107_1 := hxb HB hx107_1
            replace p107 := eq_true p107
            replace q107 := eq_true q107
            try go_wp2_with (first | ((with_reducible refine gate_dst (N := 4) rfl ?_); (try (refine gate_guard (by rfl) ?_; dsimp only)); refine bx_ 4 #[.int .i64 0, .int .i64 0] 93 (h := ?_); intro gb108 hg w35 hbox hb; have BK108 := Aside0.mk (hbox); have GW108 := Aside0.mk ((by rw [hg]; exact (below_size bel) : w.heap.size ≤ gb108)); have GE108 := Aside0.mk ((by rw [hg]; exact (below_size bel) : w.heap.size ≤ gb108)); have NB106_108 := Aside0.mk ((by rw [hg]; exact Nat.ne_of_lt (blt BK106) : gb106 ≠ gb108)); have NB108_106 := Aside0.mk ((by rw [hg]; exact Nat.ne_of_gt (blt BK106) : gb108 ≠ gb106)); replace BK106 := Aside0.mk (blb BK106 hb); replace HB := Aside0.mk (below_step bel hb); clear hb hbox hg; have hnb36 := NB108_106.out; have hnc36 := NB106_108.out; obtain ⟨hcz37_0, hcz37_1, -⟩ := cells_2 BK108.out trivial; obtain ⟨hfz37_0, hfz37_1, -⟩ := frz_2 BK108.out))
            have n0_ : Aside0 (((w35.setCell ⟨gb108, 0, none⟩ (.int .i64 ((rd_T93 l0_1 x3_2).f0))).setCell ⟨gb108, 1, none⟩ (.int .i64 ((rd_T93 l0_1 x3_2).f1))).heap[gb106]? = some (.cells #[.int .i64 a0_0, .slice (some ad107) l0_1.length c0_1] 65 (0, 0))) := ⟨by (with_reducible repeat (first | refine blk_drewN ?_ _ | refine blk_drew ?_ | refine blk_alloc ?_ _)); refine blk_far ?_ NB106_108.out _; (with_reducible repeat (first | refine blk_drewN ?_ _ | refine blk_drew ?_ | refine blk_alloc ?_ _)); refine blk_far ?_ NB106_108.out _; (with_reducible repeat (first | refine blk_drewN ?_ _ | refine blk_drew ?_ | refine blk_alloc ?_ _)); exact BK106.out⟩
            have n1_ : Aside0 (((w35.setCell ⟨gb108, 0, none⟩ (.int .i64 ((rd_T93 l0_1 x3_2).f0))).setCell ⟨gb108, 1, none⟩ (.int .i64 ((rd_T93 l0_1 x3_2).f1))).heap[gb108]? = some (.cells #[.int .i64 ((rd_T93 l0_1 x3_2).f0), .int .i64 ((rd_T93 l0_1 x3_2).f1)] 93 (0, 0))) := ⟨by (with_reducible repeat (first | refine blk_drewN ?_ _ | refine blk_drew ?_ | refine blk_alloc ?_ _)); refine blk_put (cs := #[.int .i64 ((rd_T93 l0_1 x3_2).f0), .int .i64 0]) ?_ 1 _ rfl; (with_reducible repeat (first | refine blk_drewN ?_ _ | refine blk_drew ?_ | refine blk_alloc ?_ _)); refine blk_put (cs := #[.int .i64 0, .int .i64 0]) ?_ 0 _ rfl; (with_reducible repeat (first | refine blk_drewN ?_ _ | refine blk_drew ?_ | refine blk_alloc ?_ _)); exact BK108.out⟩
            have n2_ : Aside0 (Below w.heap.size w ((w35.setCell ⟨gb108, 0, none⟩ (.int .i64 ((rd_T93 l0_1 x3_2).f0))).setCell ⟨gb108, 1, none⟩ (.int .i64 ((rd_T93 l0_1 x3_2).f1)))) := ⟨by repeat (first | (with_reducible first | exact HB.out | apply below_alloc | apply pw_below_drewN | apply below_drew1 | refine below_set ?_ GE106.out | refine below_set ?_ GE108.out) | exact HB.out)⟩
            (try clear BK106)
            (try clear BK108)
            (try clear HB)
            generalize ((w35.setCell ⟨gb108, 0, none⟩ (.int .i64 ((rd_T93 l0_1 x3_2).f0))).setCell ⟨gb108, 1, none⟩ (.int .i64 ((rd_T93 l0_1 x3_2).f1))) = w38 at n0_ n1_ n2_ ⊢
            have BK106 := n0_
            have BK108 := n1_
            have HB := n2_
            clear n0_ n1_ n2_
            replace BK106 := Aside0.mk (blk_drew BK106.out)
            replace BK108 := Aside0.mk (blk_drew BK108.out)
            replace HB := Aside0.mk (below_drew1 HB.out)
            refine start_ (n := 45) (S := fun w' => w'.cell? ⟨gb108, 0, none⟩ = some (.int .i64 ((rd_T93 l0_1 x3_2).f0)) ∧ w'.cell? ⟨gb108, 1, none⟩ = some (.int .i64 ((rd_T93 l0_1 x3_2).f1)) ∧ w'.cell? ⟨gb106, 0, none⟩ = some (.int .i64 a0_0) ∧ w'.cell? ⟨gb106, 1, none⟩ = some (.slice (some ad107) l0_1.length c0_1)) (ds := []) (tf 0 45) (by kernel_rfl) rfl rfl (cells_2 BK108.out ⟨(blk_cell BK106.out 0).trans rfl, (blk_cell BK106.out 1).trans rfl⟩) (fun hHeld => ?_); refine with_tabW spec_WheelOk.tab7 spec_WheelOk.bits7 (fun HT_ HW_ => ?_)
            generalize w38.drew = w39 at BK106 BK108 HB hHeld ⊢
            refine pv_ HT_ 0 (some 31) (tf 1 44) (h := ?_)
            refine tv_ HT_ HW_ hHeld 1 (some 32) (tf 2 43) (h := ?_)
            refine pv_ HT_ 2 (some 33) (tf 3 42) (h := ?_)
            refine pv_ HT_ 3 (some 34) (tf 4 41) (h := ?_)
            refine pv_ HT_ 4 (some 35) (tf 5 40) (h := ?_)
            refine tv_ HT_ HW_ hHeld 5 (some 36) (tf 6 39) (h := ?_)
            refine pv_ HT_ 6 (some 37) (tf 7 38) (h := ?_)
            refine pv_ HT_ 7 (some 38) (tf 8 37) (h := ?_)
            refine pv_ HT_ 8 (some 39) (tf 9 36) (h := ?_)
            refine pv_ HT_ 9 (some 40) (tf 10 35) (h := ?_)
            refine pv_ HT_ 11 (some 42) (tb 45 3071) (h := ?_)
            refine tv_ HT_ HW_ hHeld 10 (some 41) (tf 12 33) (h := ?_)
            refine tv_ HT_ HW_ hHeld 12 (some 43) (tf 13 32) (h := ?_)
            refine pv_ HT_ 13 (some 44) (tf 14 31) (h := ?_)
            refine pv_ HT_ 14 (some 45) (tf 15 30) (h := ?_)
            refine pv_ HT_ 15 (some 46) (tf 16 29) (h := ?_)
            refine pv_ HT_ 16 (some 47) (tf 17 28) (h := ?_)
            refine tv_ HT_ HW_ hHeld 17 (some 48) (tf 18 27) (h := ?_)
            refine pv_ HT_ 18 (some 49) (tf 19 26) (h := ?_)
            refine pv_ HT_ 19 (some 50) (tf 20 25) (h := ?_)
            refine pv_ HT_ 20 (some 51) (tf 21 24) (h := ?_)
            refine pu_ HT_ 21 (some 52) (tf 22 23) (h := ?_)
            refine pu_ HT_ 22 (some 53) (tf 23 22) (h := ?_)
            refine pu_ HT_ 23 (some 54) (tf 24 21) (h := ?_)
            refine pu_ HT_ 24 (some 55) (tf 25 20) (h := ?_)
            refine pu_ HT_ 25 (some 56) (tf 26 19) (h := ?_)
            refine pu_ HT_ 26 (some 57) (tf 27 18) (h := ?_)
            refine pu_ HT_ 27 (some 58) (tf 28 17) (h := ?_)
            refine pu_ HT_ 28 (some 59) (tf 29 16) (h := ?_)
            refine pu_ HT_ 29 (some 60) (tf 30 15) (h := ?_)
            refine pu_ HT_ 30 (some 61) (tf 31 14) (h := ?_)
            refine pu_ HT_ 31 (some 62) (tf 32 13) (h := ?_)
            refine pu_ HT_ 32 (some 63) (tf 33 12) (h := ?_)
            refine pu_ HT_ 33 (some 64) (tf 34 11) (h := ?_)
            refine pv_ HT_ 34 (some 65) (tf 35 10) (h := ?_)
            refine pv_ HT_ 35 (some 66) (tf 36 9) (h := ?_)
            refine pu_ HT_ 36 (some 67) (tf 37 8) (h := ?_)
            refine pu_ HT_ 37 (some 68) (tf 38 7) (h := ?_)
            refine pu_ HT_ 38 (some 69) (tf 39 6) (h := ?_)
            refine pu_ HT_ 39 (some 70) (tf 40 5) (h := ?_)
            refine pu_ HT_ 40 (some 71) (tf 41 4) (h := ?_)
            refine pu_ HT_ 41 (some 72) (tf 42 3) (h := ?_)
            refine pu_ HT_ 42 (some 73) (tf 43 2) (h := ?_)
            refine pu_ HT_ 43 (some 74) (tf 44 1) (h := ?_)
            refine pv_ HT_ 44 (some 75) (tf 45 0) (h := ?_)
            refine done_ (done_of HT_.out (by kernel_rfl)) ?_
            try go_wp2
            go_ret
            exact ⟨by first | rfl | (simp [errW_none, errW_some] <;> rfl) | (simp [*, errW_none, errW_some] <;> rfl), by repeat (first | (with_reducible first | exact HB.out | apply below_alloc | apply pw_below_drewN | apply below_drew1 | refine below_set ?_ GE106.out | refine below_set ?_ GE108.out) | exact HB.out)⟩
           ·rw [if_neg c33] at H
            have c33b0 : decide (2000000 < ((rd_T93 l0_1 x3_2).f1)) = false := decide_eq_false c33
            clear c33
            by_cases c40 : x3_2 > 0
            ·rw [if_pos c40] at H
             have c40b0 : decide (0 < x3_2) = true := decide_eq_true c40
             clear c40
             obtain ⟨ji41, hji41⟩ : ∃ j_ : Int, (wrap64 (x3_2 - 1)) = j_ := ⟨_, rfl⟩
             replace H : (if 0 ≤ (ji41) then (if (ji41) < (l0_1.length : Int) then ((spec_l7ahead.f ((rd_T93 l0_1 (ji41)).f0) ((rd_T93 l0_1 (ji41)).f1) ((rd_T93 l0_1 x3_2).f0) ((rd_T93 l0_1 x3_2).f1)).bind fun t110 => (if t110 = true then (if x3_2 ≤ (l0_1.length : Int) then ((spec_l7find.f k2 (l0_1.take (x3_2 : Int).toNat) ((rd_T93 l0_1 x3_2).f0)).bind fun t115 => (if t115 ≥ 0 then (some false) else (spec_WheelOk.l0 k2 (wrap64 (x3_2 + 1)) a0_0 l0_1))) else (none)) else (some false))) else (none)) else (none)) = some r := by first | (rw [hji41] at H; exact H) | (simp only [hji41] at H ⊢; exact H)
             have hji41w : (IntKind.i64.wrap (x3_2 - 1)) = ji41 := (i64_w _).trans hji41
             by_cases c42 : 0 ≤ (ji41)
             ·rw [if_pos c42] at H
              have c42b0 : decide (0 ≤ (ji41)) = true := decide_eq_true c42
              clear c42
              by_cases c43 : (ji41) < (l0_1.length : Int)
              ·rw [if_pos c43] at H
               have c43b0 : decide ((ji41) < (l0_1.length : Int)) = true := decide_eq_true c43
               clear c43
               replace H := Option.bind_eq_some_iff.mp H
               obtain ⟨t110, A440, H⟩ := H
               replace H : (if t110 = true then (if x3_2 ≤ (l0_1.length : Int) then ((spec_l7find.f k2 (l0_1.take (x3_2 : Int).toNat) ((rd_T93 l0_1 x3_2).f0)).bind fun t115 => (if t115 ≥ 0 then (some false) else (spec_WheelOk.l0 k2 (wrap64 (x3_2 + 1)) a0_0 l0_1))) else (none)) else (some false)) = some r := H
               have A44 := Aside0.mk A440
               clear A440
               by_cases c45 : t110 = true
               ·subst c45
                have H1 : (if x3_2 ≤ (l0_1.length : Int) then ((spec_l7find.f k2 (l0_1.take (x3_2 : Int).toNat) ((rd_T93 l0_1 x3_2).f0)).bind fun t115 => (if t115 ≥ 0 then (some false) else (spec_WheelOk.l0 k2 (wrap64 (x3_2 + 1)) a0_0 l0_1))) else (none)) = some r := by rw [if_pos rfl] at H; exact H
                clear H
                have H := H1
                clear H1
                have c46b0 := eq_true (od : 0 ≤ x3_2)
                by_cases c47 : x3_2 ≤ (l0_1.length : Int)
                ·rw [if_pos c47] at H
                 have c47b0 := eq_true c47
                 have c47b1 : decide (x3_2 ≤ (l0_1.length : Int)) = true := decide_eq_true c47
                 clear c47
                 obtain ⟨y111, hy111⟩ : ∃ y_ : List (S93), y_ = (l0_1.take (x3_2 : Int).toNat) := ⟨_, rfl⟩
                 replace H : ((spec_l7find.f k2 y111 ((rd_T93 l0_1 x3_2).f0)).bind fun t115 => (if t115 ≥ 0 then (some false) else (spec_WheelOk.l0 k2 (wrap64 (x3_2 + 1)) a0_0 l0_1))) = some r := by first | (rw [hy111]; with_reducible exact H) | (have H2_ := (Option.bind_some _ _).symm.trans H; rw [hy111]; with_reducible exact H2_) | (have H2_ := (Option.bind_some _ _).symm.trans H; with_reducible exact H2_) | with_reducible exact H | (rw [hy111]; exact H) | exact H
                 have Ny111 := Aside0.mk hy111
                 clear hy111
                 replace H := Option.bind_eq_some_iff.mp H
                 obtain ⟨t115, A480, H⟩ := H
                 replace H : (if t115 ≥ 0 then (some false) else (spec_WheelOk.l0 k2 (wrap64 (x3_2 + 1)) a0_0 l0_1)) = some r := H
                 have A48 := Aside0.mk A480
                 clear A480
                 by_cases c49 : t115 ≥ 0
                 ·rw [if_pos c49] at H
                  have c49b0 : decide (0 ≤ t115) = true := decide_eq_true c49
                  clear c49
                  obtain rfl := Option.some.inj H
                  obtain ⟨hcz50_0, hcz50_1, -⟩ := cells_2 BK106.out trivial
                  obtain ⟨hfz50_0, hfz50_1, -⟩ := frz_2 BK106.out
                  have p107 : 0 ≤ (x3_2 : Int) := od
                  have q107 : x3_2 < (l0_1.length : Int) := od
                  obtain ⟨ad107, e107, hx107_0, hx107_1⟩ := at_T93 HR0_1.out x3_2 p107 q107
                  cases e107
                  replace hx107_0 := hxb HB hx107_0
                  replace hx107_1 := hxb HB hx107_1
                  replace p107 := eq_true p107
                  replace q107 := eq_true q107
                  try go_wp2_with (first | ((with_reducible refine gate_dst (N := 4) rfl ?_); (try (refine gate_guard (by rfl) ?_; dsimp only)); refine bx_ 4 #[.int .i64 0, .int .i64 0] 93 (h := ?_); intro gb108 hg w51 hbox hb; have BK108 := Aside0.mk (hbox); have GW108 := Aside0.mk ((by rw [hg]; exact (below_size bel) : w.heap.size ≤ gb108)); have GE108 := Aside0.mk ((by rw [hg]; exact (below_size bel) : w.heap.size ≤ gb108)); have NB106_108 := Aside0.mk ((by rw [hg]; exact Nat.ne_of_lt (blt BK106) : gb106 ≠ gb108)); have NB108_106 := Aside0.mk ((by rw [hg]; exact Nat.ne_of_gt (blt BK106) : gb108 ≠ gb106)); replace BK106 := Aside0.mk (blb BK106 hb); replace HB := Aside0.mk (below_step bel hb); clear hb hbox hg; have hnb52 := NB108_106.out; have hnc52 := NB106_108.out; obtain ⟨hcz53_0, hcz53_1, -⟩ := cells_2 BK108.out trivial; obtain ⟨hfz53_0, hfz53_1, -⟩ := frz_2 BK108.out))
                  have n0_ : Aside0 (((w51.setCell ⟨gb108, 0, none⟩ (.int .i64 ((rd_T93 l0_1 x3_2).f0))).setCell ⟨gb108, 1, none⟩ (.int .i64 ((rd_T93 l0_1 x3_2).f1))).heap[gb106]? = some (.cells #[.int .i64 a0_0, .slice (some ad107) l0_1.length c0_1] 65 (0, 0))) := ⟨by (with_reducible repeat (first | refine blk_drewN ?_ _ | refine blk_drew ?_ | refine blk_alloc ?_ _)); refine blk_far ?_ NB106_108.out _; (with_reducible repeat (first | refine blk_drewN ?_ _ | refine blk_drew ?_ | refine blk_alloc ?_ _)); refine blk_far ?_ NB106_108.out _; (with_reducible repeat (first | refine blk_drewN ?_ _ | refine blk_drew ?_ | refine blk_alloc ?_ _)); exact BK106.out⟩
                  have n1_ : Aside0 (((w51.setCell ⟨gb108, 0, none⟩ (.int .i64 ((rd_T93 l0_1 x3_2).f0))).setCell ⟨gb108, 1, none⟩ (.int .i64 ((rd_T93 l0_1 x3_2).f1))).heap[gb108]? = some (.cells #[.int .i64 ((rd_T93 l0_1 x3_2).f0), .int .i64 ((rd_T93 l0_1 x3_2).f1)] 93 (0, 0))) := ⟨by (with_reducible repeat (first | refine blk_drewN ?_ _ | refine blk_drew ?_ | refine blk_alloc ?_ _)); refine blk_put (cs := #[.int .i64 ((rd_T93 l0_1 x3_2).f0), .int .i64 0]) ?_ 1 _ rfl; (with_reducible repeat (first | refine blk_drewN ?_ _ | refine blk_drew ?_ | refine blk_alloc ?_ _)); refine blk_put (cs := #[.int .i64 0, .int .i64 0]) ?_ 0 _ rfl; (with_reducible repeat (first | refine blk_drewN ?_ _ | refine blk_drew ?_ | refine blk_alloc ?_ _)); exact BK108.out⟩
                  have n2_ : Aside0 (Below w.heap.size w ((w51.setCell ⟨gb108, 0, none⟩ (.int .i64 ((rd_T93 l0_1 x3_2).f0))).setCell ⟨gb108, 1, none⟩ (.int .i64 ((rd_T93 l0_1 x3_2).f1)))) := ⟨by repeat (first | (with_reducible first | exact HB.out | apply below_alloc | apply pw_below_drewN | apply below_drew1 | refine below_set ?_ GE106.out | refine below_set ?_ GE108.out) | exact HB.out)⟩
                  (try clear BK106)
                  (try clear BK108)
                  (try clear HB)
                  generalize ((w51.setCell ⟨gb108, 0, none⟩ (.int .i64 ((rd_T93 l0_1 x3_2).f0))).setCell ⟨gb108, 1, none⟩ (.int .i64 ((rd_T93 l0_1 x3_2).f1))) = w54 at n0_ n1_ n2_ ⊢
                  have BK106 := n0_
                  have BK108 := n1_
                  have HB := n2_
                  clear n0_ n1_ n2_
                  replace BK106 := Aside0.mk (blk_drew BK106.out)
                  replace BK108 := Aside0.mk (blk_drew BK108.out)
                  replace HB := Aside0.mk (below_drew1 HB.out)
                  have p109 : 0 ≤ ((ji41) : Int) := od
                  have q109 : (ji41) < (l0_1.length : Int) := od
                  obtain ⟨ad109, e109, hx109_0, hx109_1⟩ := at_T93 HR0_1.out (ji41) p109 q109
                  have hw109_1 := hx109_1
                  have hw109_0 := hx109_0
                  obtain rfl : ad107 = ad109 := (by injection e109)
                  replace hx109_0 := hxb HB hx109_0
                  replace hx109_1 := hxb HB hx109_1
                  replace p109 := eq_true p109
                  replace q109 := eq_true q109
                  refine start_ (n := 45) (S := fun w' => w'.cell? ⟨gb108, 0, none⟩ = some (.int .i64 ((rd_T93 l0_1 x3_2).f0)) ∧ w'.cell? ⟨gb108, 1, none⟩ = some (.int .i64 ((rd_T93 l0_1 x3_2).f1)) ∧ w'.cell? ⟨gb106, 0, none⟩ = some (.int .i64 a0_0) ∧ w'.cell? ⟨gb106, 1, none⟩ = some (.slice (some ad107) l0_1.length c0_1) ∧ w'.cell? (ad107.add (((ji41)).toNat * 2)) = some (.int .i64 ((rd_T93 l0_1 (ji41)).f0)) ∧ w'.cell? ⟨(ad107.add (((ji41)).toNat * 2)).block, (ad107.add (((ji41)).toNat * 2)).off + 1, none⟩ = some (.int .i64 ((rd_T93 l0_1 (ji41)).f1))) (ds := []) (tf 0 45) (by kernel_rfl) rfl rfl (cells_2 BK108.out ⟨(blk_cell BK106.out 0).trans rfl, (blk_cell BK106.out 1).trans rfl, (hxb HB hw109_0 :), (hxb HB hw109_1 :)⟩) (fun hHeld => ?_); refine with_tabW spec_WheelOk.tab7 spec_WheelOk.bits7 (fun HT_ HW_ => ?_)
                  generalize w54.drew = w55 at BK106 BK108 HB hx109_0 hx109_1 hHeld ⊢
                  refine pv_ HT_ 0 (some 31) (tf 1 44) (h := ?_)
                  refine tv_ HT_ HW_ hHeld 1 (some 32) (tf 2 43) (h := ?_)
                  refine pv_ HT_ 2 (some 33) (tf 3 42) (h := ?_)
                  refine pv_ HT_ 3 (some 34) (tf 4 41) (h := ?_)
                  refine pv_ HT_ 4 (some 35) (tf 5 40) (h := ?_)
                  refine tv_ HT_ HW_ hHeld 5 (some 36) (tf 6 39) (h := ?_)
                  refine pv_ HT_ 6 (some 37) (tf 7 38) (h := ?_)
                  refine pv_ HT_ 7 (some 38) (tf 8 37) (h := ?_)
                  refine pv_ HT_ 8 (some 39) (tf 9 36) (h := ?_)
                  refine pv_ HT_ 9 (some 40) (tf 10 35) (h := ?_)
                  refine pv_ HT_ 11 (some 42) (tb 45 3071) (h := ?_)
                  refine tv_ HT_ HW_ hHeld 10 (some 41) (tf 12 33) (h := ?_)
                  refine tv_ HT_ HW_ hHeld 12 (some 43) (tf 13 32) (h := ?_)
                  refine pv_ HT_ 13 (some 44) (tf 14 31) (h := ?_)
                  refine pv_ HT_ 14 (some 45) (tf 15 30) (h := ?_)
                  refine pv_ HT_ 15 (some 46) (tf 16 29) (h := ?_)
                  refine pv_ HT_ 16 (some 47) (tf 17 28) (h := ?_)
                  refine tv_ HT_ HW_ hHeld 17 (some 48) (tf 18 27) (h := ?_)
                  refine pv_ HT_ 18 (some 49) (tf 19 26) (h := ?_)
                  refine pv_ HT_ 19 (some 50) (tf 20 25) (h := ?_)
                  refine pv_ HT_ 20 (some 51) (tf 21 24) (h := ?_)
                  refine pv_ HT_ 21 (some 52) (tf 22 23) (h := ?_)
                  refine pv_ HT_ 22 (some 53) (tf 23 22) (h := ?_)
                  refine pv_ HT_ 23 (some 54) (tf 24 21) (h := ?_)
                  refine pv_ HT_ 24 (some 55) (tf 25 20) (h := ?_)
                  refine pv_ HT_ 26 (some 57) (tb 45 100663295) (h := ?_)
                  refine pv_ HT_ 27 (some 58) (tb 45 234881023) (h := ?_)
                  refine tv_ HT_ HW_ hHeld 25 (some 56) (tf 28 17) (h := ?_)
                  refine pv_ HT_ 28 (some 59) (tf 29 16) (h := ?_)
                  refine tv_ HT_ HW_ hHeld 29 (some 60) (tf 30 15) (h := ?_)
                  refine tv_ HT_ HW_ hHeld 30 (some 61) (tf 31 14) (h := ?_)
                  refine one_ (i := 31) (N := some 62) (tf 32 13) rfl rfl (one_of HT_.out (by kernel_rfl)) (by decide) (fun K hK => ?_)
                  refine goes_ Try.func60 (by kernel_rfl) rfl #[.agg #[.int .i64 ((rd_T93 l0_1 (ji41)).f0), .int .i64 ((rd_T93 l0_1 (ji41)).f1)], .agg #[.int .i64 ((rd_T93 l0_1 x3_2).f0), .int .i64 ((rd_T93 l0_1 x3_2).f1)]] (by rfl) rfl rfl (by (try simp only [List.map_toArray, List.map_cons, List.map_nil]); first | done | (simp only [hji41]; rfl) | rfl | (simp only [List.length_drop, List.length_take]; rfl)) ?_
                  with_reducible refine (spec_l7ahead.calls ((rd_T93 l0_1 (ji41)).f0) ((rd_T93 l0_1 (ji41)).f1) ((rd_T93 l0_1 x3_2).f0) ((rd_T93 l0_1 x3_2).f1) true _ A44.out).mono ?_
                  rintro e w56 ⟨rfl, hb⟩
                  refine ⟨_, rfl, ?_⟩
                  replace BK106 := Aside0.mk (blb BK106 hb)
                  replace BK108 := Aside0.mk (blb BK108 hb)
                  replace HB := Aside0.mk (below_step bel hb)
                  (try clear hb)
                  (try clear hb2)
                  (try clear hk)
                  (try clear hi)
                  have q57 : (x3_2 : Int) ≤ ((l0_1.length : Int) : Int) := od
                  obtain ⟨i057, hi057, _, hsz57, _⟩ := info_parts info93
                  have hroom57 : l0_1.length ≤ c0_1 := HC0_1.out
                  have hC57 : Kd.C k93 _ (some ad107) l0_1.length l0_1 := HR0_1.out
                  have hcut57 := cut_to (P := Try.prog) 63 93 .i64 Try.underlying63 hi057 (some ad107) l0_1.length c0_1 x3_2 od q57 hroom57
                  have hr57 := Kd.C_take (m := (x3_2 : Int).toNat) hC57 (by omega)
                  have hy57 : y111.length = (x3_2 : Int).toNat := (by rw [Ny111.out, List.length_take]; omega)
                  rw [← Ny111.out] at hr57
                  rw [← hy57] at hcut57
                  have HR114 := Aside0.mk hr57
                  have HC114 := Aside0.mk (show y111.length ≤ c0_1 from by omega)
                  clear hr57 hC57 hroom57 hi057 hsz57
                  have KY57 := Aside0.mk hy57
                  clear hy57
                  replace q57 := eq_true q57
                  refine hK.out _ _ (cells_2 BK108.out ⟨(blk_cell BK106.out 0).trans rfl, (blk_cell BK106.out 1).trans rfl, (hxb HB hw109_0 :), (hxb HB hw109_1 :)⟩) (fun hHeld => ?_)
                  clear hK K
                  refine norm_ (a' := ?_) ?_ ?_
                  rotate_left
                  ·show Act.put _ (some 62) _ = _
                   simp only [Act.put, List.setIfInBounds_toArray, List.set_cons_zero, List.set_cons_succ, i64_w, i32_w]
                   rfl
                  refine pv_ HT_ 32 (some 63) (tf 33 12) (h := ?_)
                  refine pv_ HT_ 33 (some 64) (tf 34 11) (h := ?_)
                  refine pv_ HT_ 34 (some 65) (tf 35 10) (h := ?_)
                  refine pv_ HT_ 35 (some 66) (tf 36 9) (h := ?_)
                  refine pv_ HT_ 36 (some 67) (tf 37 8) (h := ?_)
                  refine pv_ HT_ 38 (some 69) (tb 45 412316860415) (h := ?_)
                  refine pv_ HT_ 40 (some 71) (tb 45 1511828488191) (h := ?_)
                  refine tv_ HT_ HW_ hHeld 37 (some 68) (tb 45 1649267441663) (h := ?_)
                  refine pv_ HT_ 39 (some 70) (tf 41 4) (h := ?_)
                  refine tv_ HT_ HW_ hHeld 41 (some 72) (tf 42 3) (h := ?_)
                  refine one_ (i := 42) (N := some 73) (tf 43 2) rfl rfl (one_of HT_.out (by kernel_rfl)) (by decide) (fun K hK => ?_)
                  refine gs_ Try.func61 #[.slice (some ad107) y111.length c0_1, .int .i64 ((rd_T93 l0_1 x3_2).f0)] (h := ?_)
                  with_reducible refine (spec_l7find.calls k2 _ _ y111 ((rd_T93 l0_1 x3_2).f0) t115 _ ?side1 ?side2 A48.out).mono ?_
                  (case side1 => exact kcb)
                  (case side2 => exact HC114.out)
                  rintro e w' ⟨rfl, ⟨nd, rfl⟩⟩
                  refine ⟨_, rfl, ?_⟩
                  refine hK.out _ _ (cells_2 BK108.out ⟨(blk_cell BK106.out 0).trans rfl, (blk_cell BK106.out 1).trans rfl, (hxb HB hw109_0 :), (hxb HB hw109_1 :)⟩) (fun hHeld => ?_)
                  clear hK K
                  refine norm_ (a' := ?_) ?_ ?_
                  rotate_left
                  ·show Act.put _ (some 73) _ = _
                   simp only [Act.put, List.setIfInBounds_toArray, List.set_cons_zero, List.set_cons_succ, i64_w, i32_w]
                   rfl
                  refine pv_ HT_ 43 (some 74) (tf 44 1) (h := ?_)
                  refine pv_ HT_ 44 (some 75) (tf 45 0) (h := ?_)
                  refine done_ (done_of HT_.out (by kernel_rfl)) ?_
                  try go_wp2
                  go_ret
                  exact ⟨by first | rfl | (simp [errW_none, errW_some] <;> rfl) | (simp only [← hji41]; first | rfl | (simp [errW_none, errW_some] <;> rfl)) | (simp [*, errW_none, errW_some] <;> rfl), by repeat (first | (with_reducible first | exact HB.out | apply below_alloc | apply pw_below_drewN | apply below_drew1 | refine below_set ?_ GE106.out | refine below_set ?_ GE108.out) | exact HB.out)⟩
                 ·rw [if_neg c49] at H
                  have c49b0 : decide (0 ≤ t115) = false := decide_eq_false c49
                  clear c49
                  have H' := Aside0.mk H
                  clear H
                  obtain ⟨hcz58_0, hcz58_1, -⟩ := cells_2 BK106.out trivial
                  obtain ⟨hfz58_0, hfz58_1, -⟩ := frz_2 BK106.out
                  have p107 : 0 ≤ (x3_2 : Int) := od
                  have q107 : x3_2 < (l0_1.length : Int) := od
                  obtain ⟨ad107, e107, hx107_0, hx107_1⟩ := at_T93 HR0_1.out x3_2 p107 q107
                  cases e107
                  replace hx107_0 := hxb HB hx107_0
                  replace hx107_1 := hxb HB hx107_1
                  replace p107 := eq_true p107
                  replace q107 := eq_true q107
                  try go_wp2_with (first | ((with_reducible refine gate_dst (N := 4) rfl ?_); (try (refine gate_guard (by rfl) ?_; dsimp only)); refine bx_ 4 #[.int .i64 0, .int .i64 0] 93 (h := ?_); intro gb108 hg w59 hbox hb; have BK108 := Aside0.mk (hbox); have GW108 := Aside0.mk ((by rw [hg]; exact (below_size bel) : w.heap.size ≤ gb108)); have GE108 := Aside0.mk ((by rw [hg]; exact (below_size bel) : w.heap.size ≤ gb108)); have NB106_108 := Aside0.mk ((by rw [hg]; exact Nat.ne_of_lt (blt BK106) : gb106 ≠ gb108)); have NB108_106 := Aside0.mk ((by rw [hg]; exact Nat.ne_of_gt (blt BK106) : gb108 ≠ gb106)); replace BK106 := Aside0.mk (blb BK106 hb); replace HB := Aside0.mk (below_step bel hb); clear hb hbox hg; have hnb60 := NB108_106.out; have hnc60 := NB106_108.out; obtain ⟨hcz61_0, hcz61_1, -⟩ := cells_2 BK108.out trivial; obtain ⟨hfz61_0, hfz61_1, -⟩ := frz_2 BK108.out))
                  have n0_ : Aside0 (((w59.setCell ⟨gb108, 0, none⟩ (.int .i64 ((rd_T93 l0_1 x3_2).f0))).setCell ⟨gb108, 1, none⟩ (.int .i64 ((rd_T93 l0_1 x3_2).f1))).heap[gb106]? = some (.cells #[.int .i64 a0_0, .slice (some ad107) l0_1.length c0_1] 65 (0, 0))) := ⟨by (with_reducible repeat (first | refine blk_drewN ?_ _ | refine blk_drew ?_ | refine blk_alloc ?_ _)); refine blk_far ?_ NB106_108.out _; (with_reducible repeat (first | refine blk_drewN ?_ _ | refine blk_drew ?_ | refine blk_alloc ?_ _)); refine blk_far ?_ NB106_108.out _; (with_reducible repeat (first | refine blk_drewN ?_ _ | refine blk_drew ?_ | refine blk_alloc ?_ _)); exact BK106.out⟩
                  have n1_ : Aside0 (((w59.setCell ⟨gb108, 0, none⟩ (.int .i64 ((rd_T93 l0_1 x3_2).f0))).setCell ⟨gb108, 1, none⟩ (.int .i64 ((rd_T93 l0_1 x3_2).f1))).heap[gb108]? = some (.cells #[.int .i64 ((rd_T93 l0_1 x3_2).f0), .int .i64 ((rd_T93 l0_1 x3_2).f1)] 93 (0, 0))) := ⟨by (with_reducible repeat (first | refine blk_drewN ?_ _ | refine blk_drew ?_ | refine blk_alloc ?_ _)); refine blk_put (cs := #[.int .i64 ((rd_T93 l0_1 x3_2).f0), .int .i64 0]) ?_ 1 _ rfl; (with_reducible repeat (first | refine blk_drewN ?_ _ | refine blk_drew ?_ | refine blk_alloc ?_ _)); refine blk_put (cs := #[.int .i64 0, .int .i64 0]) ?_ 0 _ rfl; (with_reducible repeat (first | refine blk_drewN ?_ _ | refine blk_drew ?_ | refine blk_alloc ?_ _)); exact BK108.out⟩
                  have n2_ : Aside0 (Below w.heap.size w ((w59.setCell ⟨gb108, 0, none⟩ (.int .i64 ((rd_T93 l0_1 x3_2).f0))).setCell ⟨gb108, 1, none⟩ (.int .i64 ((rd_T93 l0_1 x3_2).f1)))) := ⟨by repeat (first | (with_reducible first | exact HB.out | apply below_alloc | apply pw_below_drewN | apply below_drew1 | refine below_set ?_ GE106.out | refine below_set ?_ GE108.out) | exact HB.out)⟩
                  (try clear BK106)
                  (try clear BK108)
                  (try clear HB)
                  generalize ((w59.setCell ⟨gb108, 0, none⟩ (.int .i64 ((rd_T93 l0_1 x3_2).f0))).setCell ⟨gb108, 1, none⟩ (.int .i64 ((rd_T93 l0_1 x3_2).f1))) = w62 at n0_ n1_ n2_ ⊢
                  have BK106 := n0_
                  have BK108 := n1_
                  have HB := n2_
                  clear n0_ n1_ n2_
                  replace BK106 := Aside0.mk (blk_drew BK106.out)
                  replace BK108 := Aside0.mk (blk_drew BK108.out)
                  replace HB := Aside0.mk (below_drew1 HB.out)
                  have p109 : 0 ≤ ((ji41) : Int) := od
                  have q109 : (ji41) < (l0_1.length : Int) := od
                  obtain ⟨ad109, e109, hx109_0, hx109_1⟩ := at_T93 HR0_1.out (ji41) p109 q109
                  have hw109_1 := hx109_1
                  have hw109_0 := hx109_0
                  obtain rfl : ad107 = ad109 := (by injection e109)
                  replace hx109_0 := hxb HB hx109_0
                  replace hx109_1 := hxb HB hx109_1
                  replace p109 := eq_true p109
                  replace q109 := eq_true q109
                  refine start_ (n := 45) (S := fun w' => w'.cell? ⟨gb108, 0, none⟩ = some (.int .i64 ((rd_T93 l0_1 x3_2).f0)) ∧ w'.cell? ⟨gb108, 1, none⟩ = some (.int .i64 ((rd_T93 l0_1 x3_2).f1)) ∧ w'.cell? ⟨gb106, 0, none⟩ = some (.int .i64 a0_0) ∧ w'.cell? ⟨gb106, 1, none⟩ = some (.slice (some ad107) l0_1.length c0_1) ∧ w'.cell? (ad107.add (((ji41)).toNat * 2)) = some (.int .i64 ((rd_T93 l0_1 (ji41)).f0)) ∧ w'.cell? ⟨(ad107.add (((ji41)).toNat * 2)).block, (ad107.add (((ji41)).toNat * 2)).off + 1, none⟩ = some (.int .i64 ((rd_T93 l0_1 (ji41)).f1))) (ds := []) (tf 0 45) (by kernel_rfl) rfl rfl (cells_2 BK108.out ⟨(blk_cell BK106.out 0).trans rfl, (blk_cell BK106.out 1).trans rfl, (hxb HB hw109_0 :), (hxb HB hw109_1 :)⟩) (fun hHeld => ?_); refine with_tabW spec_WheelOk.tab7 spec_WheelOk.bits7 (fun HT_ HW_ => ?_)
                  generalize w62.drew = w63 at BK106 BK108 HB hx109_0 hx109_1 hHeld ⊢
                  refine pv_ HT_ 0 (some 31) (tf 1 44) (h := ?_)
                  refine tv_ HT_ HW_ hHeld 1 (some 32) (tf 2 43) (h := ?_)
                  refine pv_ HT_ 2 (some 33) (tf 3 42) (h := ?_)
                  refine pv_ HT_ 3 (some 34) (tf 4 41) (h := ?_)
                  refine pv_ HT_ 4 (some 35) (tf 5 40) (h := ?_)
                  refine tv_ HT_ HW_ hHeld 5 (some 36) (tf 6 39) (h := ?_)
                  refine pv_ HT_ 6 (some 37) (tf 7 38) (h := ?_)
                  refine pv_ HT_ 7 (some 38) (tf 8 37) (h := ?_)
                  refine pv_ HT_ 8 (some 39) (tf 9 36) (h := ?_)
                  refine pv_ HT_ 9 (some 40) (tf 10 35) (h := ?_)
                  refine pv_ HT_ 11 (some 42) (tb 45 3071) (h := ?_)
                  refine tv_ HT_ HW_ hHeld 10 (some 41) (tf 12 33) (h := ?_)
                  refine tv_ HT_ HW_ hHeld 12 (some 43) (tf 13 32) (h := ?_)
                  refine pv_ HT_ 13 (some 44) (tf 14 31) (h := ?_)
                  refine pv_ HT_ 14 (some 45) (tf 15 30) (h := ?_)
                  refine pv_ HT_ 15 (some 46) (tf 16 29) (h := ?_)
                  refine pv_ HT_ 16 (some 47) (tf 17 28) (h := ?_)
                  refine tv_ HT_ HW_ hHeld 17 (some 48) (tf 18 27) (h := ?_)
                  refine pv_ HT_ 18 (some 49) (tf 19 26) (h := ?_)
                  refine pv_ HT_ 19 (some 50) (tf 20 25) (h := ?_)
                  refine pv_ HT_ 20 (some 51) (tf 21 24) (h := ?_)
                  refine pv_ HT_ 21 (some 52) (tf 22 23) (h := ?_)
                  refine pv_ HT_ 22 (some 53) (tf 23 22) (h := ?_)
                  refine pv_ HT_ 23 (some 54) (tf 24 21) (h := ?_)
                  refine pv_ HT_ 24 (some 55) (tf 25 20) (h := ?_)
                  refine pv_ HT_ 26 (some 57) (tb 45 100663295) (h := ?_)
                  refine pv_ HT_ 27 (some 58) (tb 45 234881023) (h := ?_)
                  refine tv_ HT_ HW_ hHeld 25 (some 56) (tf 28 17) (h := ?_)
                  refine pv_ HT_ 28 (some 59) (tf 29 16) (h := ?_)
                  refine tv_ HT_ HW_ hHeld 29 (some 60) (tf 30 15) (h := ?_)
                  refine tv_ HT_ HW_ hHeld 30 (some 61) (tf 31 14) (h := ?_)
                  refine one_ (i := 31) (N := some 62) (tf 32 13) rfl rfl (one_of HT_.out (by kernel_rfl)) (by decide) (fun K hK => ?_)
                  refine goes_ Try.func60 (by kernel_rfl) rfl #[.agg #[.int .i64 ((rd_T93 l0_1 (ji41)).f0), .int .i64 ((rd_T93 l0_1 (ji41)).f1)], .agg #[.int .i64 ((rd_T93 l0_1 x3_2).f0), .int .i64 ((rd_T93 l0_1 x3_2).f1)]] (by rfl) rfl rfl (by (try simp only [List.map_toArray, List.map_cons, List.map_nil]); first | done | (simp only [hji41]; rfl) | rfl | (simp only [List.length_drop, List.length_take]; rfl)) ?_
                  with_reducible refine (spec_l7ahead.calls ((rd_T93 l0_1 (ji41)).f0) ((rd_T93 l0_1 (ji41)).f1) ((rd_T93 l0_1 x3_2).f0) ((rd_T93 l0_1 x3_2).f1) true _ A44.out).mono ?_
                  rintro e w64 ⟨rfl, hb⟩
                  refine ⟨_, rfl, ?_⟩
                  replace BK106 := Aside0.mk (blb BK106 hb)
                  replace BK108 := Aside0.mk (blb BK108 hb)
                  replace HB := Aside0.mk (below_step bel hb)
                  (try clear hb)
                  (try clear hb2)
                  (try clear hk)
                  (try clear hi)
                  have q65 : (x3_2 : Int) ≤ ((l0_1.length : Int) : Int) := od
                  obtain ⟨i065, hi065, _, hsz65, _⟩ := info_parts info93
                  have hroom65 : l0_1.length ≤ c0_1 := HC0_1.out
                  have hC65 : Kd.C k93 _ (some ad107) l0_1.length l0_1 := HR0_1.out
                  have hcut65 := cut_to (P := Try.prog) 63 93 .i64 Try.underlying63 hi065 (some ad107) l0_1.length c0_1 x3_2 od q65 hroom65
                  have hr65 := Kd.C_take (m := (x3_2 : Int).toNat) hC65 (by omega)
                  have hy65 : y111.length = (x3_2 : Int).toNat := (by rw [Ny111.out, List.length_take]; omega)
                  rw [← Ny111.out] at hr65
                  rw [← hy65] at hcut65
                  have HR114 := Aside0.mk hr65
                  have HC114 := Aside0.mk (show y111.length ≤ c0_1 from by omega)
                  clear hr65 hC65 hroom65 hi065 hsz65
                  have KY65 := Aside0.mk hy65
                  clear hy65
                  replace q65 := eq_true q65
                  refine hK.out _ _ (cells_2 BK108.out ⟨(blk_cell BK106.out 0).trans rfl, (blk_cell BK106.out 1).trans rfl, (hxb HB hw109_0 :), (hxb HB hw109_1 :)⟩) (fun hHeld => ?_)
                  clear hK K
                  refine norm_ (a' := ?_) ?_ ?_
                  rotate_left
                  ·show Act.put _ (some 62) _ = _
                   simp only [Act.put, List.setIfInBounds_toArray, List.set_cons_zero, List.set_cons_succ, i64_w, i32_w]
                   rfl
                  refine pv_ HT_ 32 (some 63) (tf 33 12) (h := ?_)
                  refine pv_ HT_ 33 (some 64) (tf 34 11) (h := ?_)
                  refine pv_ HT_ 34 (some 65) (tf 35 10) (h := ?_)
                  refine pv_ HT_ 35 (some 66) (tf 36 9) (h := ?_)
                  refine pv_ HT_ 36 (some 67) (tf 37 8) (h := ?_)
                  refine pv_ HT_ 38 (some 69) (tb 45 412316860415) (h := ?_)
                  refine pv_ HT_ 40 (some 71) (tb 45 1511828488191) (h := ?_)
                  refine tv_ HT_ HW_ hHeld 37 (some 68) (tb 45 1649267441663) (h := ?_)
                  refine pv_ HT_ 39 (some 70) (tf 41 4) (h := ?_)
                  refine tv_ HT_ HW_ hHeld 41 (some 72) (tf 42 3) (h := ?_)
                  refine one_ (i := 42) (N := some 73) (tf 43 2) rfl rfl (one_of HT_.out (by kernel_rfl)) (by decide) (fun K hK => ?_)
                  refine gs_ Try.func61 #[.slice (some ad107) y111.length c0_1, .int .i64 ((rd_T93 l0_1 x3_2).f0)] (h := ?_)
                  with_reducible refine (spec_l7find.calls k2 _ _ y111 ((rd_T93 l0_1 x3_2).f0) t115 _ ?side1 ?side2 A48.out).mono ?_
                  (case side1 => exact kcb)
                  (case side2 => exact HC114.out)
                  rintro e w' ⟨rfl, ⟨nd, rfl⟩⟩
                  refine ⟨_, rfl, ?_⟩
                  refine hK.out _ _ (cells_2 BK108.out ⟨(blk_cell BK106.out 0).trans rfl, (blk_cell BK106.out 1).trans rfl, (hxb HB hw109_0 :), (hxb HB hw109_1 :)⟩) (fun hHeld => ?_)
                  clear hK K
                  refine norm_ (a' := ?_) ?_ ?_
                  rotate_left
                  ·show Act.put _ (some 73) _ = _
                   simp only [Act.put, List.setIfInBounds_toArray, List.set_cons_zero, List.set_cons_succ, i64_w, i32_w]
                   rfl
                  refine pv_ HT_ 43 (some 74) (tf 44 1) (h := ?_)
                  refine pv_ HT_ 44 (some 75) (tf 45 0) (h := ?_)
                  refine done_ (done_of HT_.out (by kernel_rfl)) ?_
                  try go_wp2
                  go_roundg k2
                  case measure => have := HJ1.out; have := HK2.out; omega
                  case rel => exact ⟨(wrap64 (x3_2 + 1)), (by first | rfl | (simp; done) | (simp [*]; done)), H', ⟨by have := HJ1.out; have := HK2.out; omega⟩, ⟨by (with_reducible repeat (first | refine blk_drewN ?_ _ | refine blk_drew ?_ | refine blk_alloc ?_ _)); exact BK106.out⟩, ⟨by repeat (first | (with_reducible first | exact HB.out | apply below_alloc | apply pw_below_drewN | apply below_drew1 | refine below_set ?_ GE106.out | refine below_set ?_ GE108.out) | exact HB.out)⟩⟩
                ·rw [if_neg c47] at H
                 exact absurd H (by simp)
               ·replace c45 := Bool.eq_false_iff.mpr c45
                subst c45
                have H1 : (some false) = some r := by rw [if_neg (show ¬ (false = true) by decide)] at H; exact H
                clear H
                have H := H1
                clear H1
                obtain rfl := Option.some.inj H
                obtain ⟨hcz66_0, hcz66_1, -⟩ := cells_2 BK106.out trivial
                obtain ⟨hfz66_0, hfz66_1, -⟩ := frz_2 BK106.out
                have p107 : 0 ≤ (x3_2 : Int) := od
                have q107 : x3_2 < (l0_1.length : Int) := od
                obtain ⟨ad107, e107, hx107_0, hx107_1⟩ := at_T93 HR0_1.out x3_2 p107 q107
                cases e107
                replace hx107_0 := hxb HB hx107_0
                replace hx107_1 := hxb HB hx107_1
                replace p107 := eq_true p107
                replace q107 := eq_true q107
                try go_wp2_with (first | ((with_reducible refine gate_dst (N := 4) rfl ?_); (try (refine gate_guard (by rfl) ?_; dsimp only)); refine bx_ 4 #[.int .i64 0, .int .i64 0] 93 (h := ?_); intro gb108 hg w67 hbox hb; have BK108 := Aside0.mk (hbox); have GW108 := Aside0.mk ((by rw [hg]; exact (below_size bel) : w.heap.size ≤ gb108)); have GE108 := Aside0.mk ((by rw [hg]; exact (below_size bel) : w.heap.size ≤ gb108)); have NB106_108 := Aside0.mk ((by rw [hg]; exact Nat.ne_of_lt (blt BK106) : gb106 ≠ gb108)); have NB108_106 := Aside0.mk ((by rw [hg]; exact Nat.ne_of_gt (blt BK106) : gb108 ≠ gb106)); replace BK106 := Aside0.mk (blb BK106 hb); replace HB := Aside0.mk (below_step bel hb); clear hb hbox hg; have hnb68 := NB108_106.out; have hnc68 := NB106_108.out; obtain ⟨hcz69_0, hcz69_1, -⟩ := cells_2 BK108.out trivial; obtain ⟨hfz69_0, hfz69_1, -⟩ := frz_2 BK108.out))
                have n0_ : Aside0 (((w67.setCell ⟨gb108, 0, none⟩ (.int .i64 ((rd_T93 l0_1 x3_2).f0))).setCell ⟨gb108, 1, none⟩ (.int .i64 ((rd_T93 l0_1 x3_2).f1))).heap[gb106]? = some (.cells #[.int .i64 a0_0, .slice (some ad107) l0_1.length c0_1] 65 (0, 0))) := ⟨by (with_reducible repeat (first | refine blk_drewN ?_ _ | refine blk_drew ?_ | refine blk_alloc ?_ _)); refine blk_far ?_ NB106_108.out _; (with_reducible repeat (first | refine blk_drewN ?_ _ | refine blk_drew ?_ | refine blk_alloc ?_ _)); refine blk_far ?_ NB106_108.out _; (with_reducible repeat (first | refine blk_drewN ?_ _ | refine blk_drew ?_ | refine blk_alloc ?_ _)); exact BK106.out⟩
                have n1_ : Aside0 (((w67.setCell ⟨gb108, 0, none⟩ (.int .i64 ((rd_T93 l0_1 x3_2).f0))).setCell ⟨gb108, 1, none⟩ (.int .i64 ((rd_T93 l0_1 x3_2).f1))).heap[gb108]? = some (.cells #[.int .i64 ((rd_T93 l0_1 x3_2).f0), .int .i64 ((rd_T93 l0_1 x3_2).f1)] 93 (0, 0))) := ⟨by (with_reducible repeat (first | refine blk_drewN ?_ _ | refine blk_drew ?_ | refine blk_alloc ?_ _)); refine blk_put (cs := #[.int .i64 ((rd_T93 l0_1 x3_2).f0), .int .i64 0]) ?_ 1 _ rfl; (with_reducible repeat (first | refine blk_drewN ?_ _ | refine blk_drew ?_ | refine blk_alloc ?_ _)); refine blk_put (cs := #[.int .i64 0, .int .i64 0]) ?_ 0 _ rfl; (with_reducible repeat (first | refine blk_drewN ?_ _ | refine blk_drew ?_ | refine blk_alloc ?_ _)); exact BK108.out⟩
                have n2_ : Aside0 (Below w.heap.size w ((w67.setCell ⟨gb108, 0, none⟩ (.int .i64 ((rd_T93 l0_1 x3_2).f0))).setCell ⟨gb108, 1, none⟩ (.int .i64 ((rd_T93 l0_1 x3_2).f1)))) := ⟨by repeat (first | (with_reducible first | exact HB.out | apply below_alloc | apply pw_below_drewN | apply below_drew1 | refine below_set ?_ GE106.out | refine below_set ?_ GE108.out) | exact HB.out)⟩
                (try clear BK106)
                (try clear BK108)
                (try clear HB)
                generalize ((w67.setCell ⟨gb108, 0, none⟩ (.int .i64 ((rd_T93 l0_1 x3_2).f0))).setCell ⟨gb108, 1, none⟩ (.int .i64 ((rd_T93 l0_1 x3_2).f1))) = w70 at n0_ n1_ n2_ ⊢
                have BK106 := n0_
                have BK108 := n1_
                have HB := n2_
                clear n0_ n1_ n2_
                replace BK106 := Aside0.mk (blk_drew BK106.out)
                replace BK108 := Aside0.mk (blk_drew BK108.out)
                replace HB := Aside0.mk (below_drew1 HB.out)
                have p109 : 0 ≤ ((ji41) : Int) := od
                have q109 : (ji41) < (l0_1.length : Int) := od
                obtain ⟨ad109, e109, hx109_0, hx109_1⟩ := at_T93 HR0_1.out (ji41) p109 q109
                have hw109_1 := hx109_1
                have hw109_0 := hx109_0
                obtain rfl : ad107 = ad109 := (by injection e109)
                replace hx109_0 := hxb HB hx109_0
                replace hx109_1 := hxb HB hx109_1
                replace p109 := eq_true p109
                replace q109 := eq_true q109
                refine start_ (n := 45) (S := fun w' => w'.cell? ⟨gb108, 0, none⟩ = some (.int .i64 ((rd_T93 l0_1 x3_2).f0)) ∧ w'.cell? ⟨gb108, 1, none⟩ = some (.int .i64 ((rd_T93 l0_1 x3_2).f1)) ∧ w'.cell? ⟨gb106, 0, none⟩ = some (.int .i64 a0_0) ∧ w'.cell? ⟨gb106, 1, none⟩ = some (.slice (some ad107) l0_1.length c0_1) ∧ w'.cell? (ad107.add (((ji41)).toNat * 2)) = some (.int .i64 ((rd_T93 l0_1 (ji41)).f0)) ∧ w'.cell? ⟨(ad107.add (((ji41)).toNat * 2)).block, (ad107.add (((ji41)).toNat * 2)).off + 1, none⟩ = some (.int .i64 ((rd_T93 l0_1 (ji41)).f1))) (ds := []) (tf 0 45) (by kernel_rfl) rfl rfl (cells_2 BK108.out ⟨(blk_cell BK106.out 0).trans rfl, (blk_cell BK106.out 1).trans rfl, (hxb HB hw109_0 :), (hxb HB hw109_1 :)⟩) (fun hHeld => ?_); refine with_tabW spec_WheelOk.tab7 spec_WheelOk.bits7 (fun HT_ HW_ => ?_)
                generalize w70.drew = w71 at BK106 BK108 HB hx109_0 hx109_1 hHeld ⊢
                refine pv_ HT_ 0 (some 31) (tf 1 44) (h := ?_)
                refine tv_ HT_ HW_ hHeld 1 (some 32) (tf 2 43) (h := ?_)
                refine pv_ HT_ 2 (some 33) (tf 3 42) (h := ?_)
                refine pv_ HT_ 3 (some 34) (tf 4 41) (h := ?_)
                refine pv_ HT_ 4 (some 35) (tf 5 40) (h := ?_)
                refine tv_ HT_ HW_ hHeld 5 (some 36) (tf 6 39) (h := ?_)
                refine pv_ HT_ 6 (some 37) (tf 7 38) (h := ?_)
                refine pv_ HT_ 7 (some 38) (tf 8 37) (h := ?_)
                refine pv_ HT_ 8 (some 39) (tf 9 36) (h := ?_)
                refine pv_ HT_ 9 (some 40) (tf 10 35) (h := ?_)
                refine pv_ HT_ 11 (some 42) (tb 45 3071) (h := ?_)
                refine tv_ HT_ HW_ hHeld 10 (some 41) (tf 12 33) (h := ?_)
                refine tv_ HT_ HW_ hHeld 12 (some 43) (tf 13 32) (h := ?_)
                refine pv_ HT_ 13 (some 44) (tf 14 31) (h := ?_)
                refine pv_ HT_ 14 (some 45) (tf 15 30) (h := ?_)
                refine pv_ HT_ 15 (some 46) (tf 16 29) (h := ?_)
                refine pv_ HT_ 16 (some 47) (tf 17 28) (h := ?_)
                refine tv_ HT_ HW_ hHeld 17 (some 48) (tf 18 27) (h := ?_)
                refine pv_ HT_ 18 (some 49) (tf 19 26) (h := ?_)
                refine pv_ HT_ 19 (some 50) (tf 20 25) (h := ?_)
                refine pv_ HT_ 20 (some 51) (tf 21 24) (h := ?_)
                refine pv_ HT_ 21 (some 52) (tf 22 23) (h := ?_)
                refine pv_ HT_ 22 (some 53) (tf 23 22) (h := ?_)
                refine pv_ HT_ 23 (some 54) (tf 24 21) (h := ?_)
                refine pv_ HT_ 24 (some 55) (tf 25 20) (h := ?_)
                refine pv_ HT_ 26 (some 57) (tb 45 100663295) (h := ?_)
                refine pv_ HT_ 27 (some 58) (tb 45 234881023) (h := ?_)
                refine tv_ HT_ HW_ hHeld 25 (some 56) (tf 28 17) (h := ?_)
                refine pv_ HT_ 28 (some 59) (tf 29 16) (h := ?_)
                refine tv_ HT_ HW_ hHeld 29 (some 60) (tf 30 15) (h := ?_)
                refine tv_ HT_ HW_ hHeld 30 (some 61) (tf 31 14) (h := ?_)
                refine one_ (i := 31) (N := some 62) (tf 32 13) rfl rfl (one_of HT_.out (by kernel_rfl)) (by decide) (fun K hK => ?_)
                refine goes_ Try.func60 (by kernel_rfl) rfl #[.agg #[.int .i64 ((rd_T93 l0_1 (ji41)).f0), .int .i64 ((rd_T93 l0_1 (ji41)).f1)], .agg #[.int .i64 ((rd_T93 l0_1 x3_2).f0), .int .i64 ((rd_T93 l0_1 x3_2).f1)]] (by rfl) rfl rfl (by (try simp only [List.map_toArray, List.map_cons, List.map_nil]); first | done | (simp only [hji41]; rfl) | rfl | (simp only [List.length_drop, List.length_take]; rfl)) ?_
                with_reducible refine (spec_l7ahead.calls ((rd_T93 l0_1 (ji41)).f0) ((rd_T93 l0_1 (ji41)).f1) ((rd_T93 l0_1 x3_2).f0) ((rd_T93 l0_1 x3_2).f1) false _ A44.out).mono ?_
                rintro e w72 ⟨rfl, hb⟩
                refine ⟨_, rfl, ?_⟩
                replace BK106 := Aside0.mk (blb BK106 hb)
                replace BK108 := Aside0.mk (blb BK108 hb)
                replace HB := Aside0.mk (below_step bel hb)
                (try clear hb)
                (try clear hb2)
                (try clear hk)
                (try clear hi)
                refine hK.out _ _ (cells_2 BK108.out ⟨(blk_cell BK106.out 0).trans rfl, (blk_cell BK106.out 1).trans rfl, (hxb HB hw109_0 :), (hxb HB hw109_1 :)⟩) (fun hHeld => ?_)
                clear hK K
                refine norm_ (a' := ?_) ?_ ?_
                rotate_left
                ·show Act.put _ (some 62) _ = _
                 simp only [Act.put, List.setIfInBounds_toArray, List.set_cons_zero, List.set_cons_succ, i64_w, i32_w]
                 rfl
                refine pv_ HT_ 32 (some 63) (tf 33 12) (h := ?_)
                refine pv_ HT_ 33 (some 64) (tf 34 11) (h := ?_)
                refine pv_ HT_ 34 (some 65) (tf 35 10) (h := ?_)
                refine pv_ HT_ 35 (some 66) (tf 36 9) (h := ?_)
                refine pu_ HT_ 36 (some 67) (tf 37 8) (h := ?_)
                refine pu_ HT_ 37 (some 68) (tf 38 7) (h := ?_)
                refine pu_ HT_ 38 (some 69) (tf 39 6) (h := ?_)
                refine pu_ HT_ 39 (some 70) (tf 40 5) (h := ?_)
                refine pu_ HT_ 40 (some 71) (tf 41 4) (h := ?_)
                refine pu_ HT_ 41 (some 72) (tf 42 3) (h := ?_)
                refine pu_ HT_ 42 (some 73) (tf 43 2) (h := ?_)
                refine pu_ HT_ 43 (some 74) (tf 44 1) (h := ?_)
                refine pv_ HT_ 44 (some 75) (tf 45 0) (h := ?_)
                refine done_ (done_of HT_.out (by kernel_rfl)) ?_
                try go_wp2
                go_ret
                exact ⟨by first | rfl | (simp [errW_none, errW_some] <;> rfl) | (simp only [← hji41]; first | rfl | (simp [errW_none, errW_some] <;> rfl)) | (simp [*, errW_none, errW_some] <;> rfl), by repeat (first | (with_reducible first | exact HB.out | apply below_alloc | apply pw_below_drewN | apply below_drew1 | refine below_set ?_ GE106.out | refine below_set ?_ GE108.out) | exact HB.out)⟩
              ·rw [if_neg c43] at H
               exact absurd H (by simp)
             ·rw [if_neg c42] at H
              exact absurd H (by simp)
            ·rw [if_neg c40] at H
             have c40b0 : decide (0 < x3_2) = false := decide_eq_false c40
             clear c40
             have c73b0 := eq_true (od : 0 ≤ x3_2)
             by_cases c74 : x3_2 ≤ (l0_1.length : Int)
             ·rw [if_pos c74] at H
              have c74b0 := eq_true c74
              have c74b1 : decide (x3_2 ≤ (l0_1.length : Int)) = true := decide_eq_true c74
              clear c74
              obtain ⟨y116, hy116⟩ : ∃ y_ : List (S93), y_ = (l0_1.take (x3_2 : Int).toNat) := ⟨_, rfl⟩
              replace H : ((spec_l7find.f k2 y116 ((rd_T93 l0_1 x3_2).f0)).bind fun t120 => (if t120 ≥ 0 then (some false) else (spec_WheelOk.l0 k2 (wrap64 (x3_2 + 1)) a0_0 l0_1))) = some r := by first | (rw [hy116]; with_reducible exact H) | (have H2_ := (Option.bind_some _ _).symm.trans H; rw [hy116]; with_reducible exact H2_) | (have H2_ := (Option.bind_some _ _).symm.trans H; with_reducible exact H2_) | with_reducible exact H | (rw [hy116]; exact H) | exact H
              have Ny116 := Aside0.mk hy116
              clear hy116
              replace H := Option.bind_eq_some_iff.mp H
              obtain ⟨t120, A750, H⟩ := H
              replace H : (if t120 ≥ 0 then (some false) else (spec_WheelOk.l0 k2 (wrap64 (x3_2 + 1)) a0_0 l0_1)) = some r := H
              have A75 := Aside0.mk A750
              clear A750
              by_cases c76 : t120 ≥ 0
              ·rw [if_pos c76] at H
               have c76b0 : decide (0 ≤ t120) = true := decide_eq_true c76
               clear c76
               obtain rfl := Option.some.inj H
               obtain ⟨hcz77_0, hcz77_1, -⟩ := cells_2 BK106.out trivial
               obtain ⟨hfz77_0, hfz77_1, -⟩ := frz_2 BK106.out
               have p107 : 0 ≤ (x3_2 : Int) := od
               have q107 : x3_2 < (l0_1.length : Int) := od
               obtain ⟨ad107, e107, hx107_0, hx107_1⟩ := at_T93 HR0_1.out x3_2 p107 q107
               cases e107
               replace hx107_0 := hxb HB hx107_0
               replace hx107_1 := hxb HB hx107_1
               replace p107 := eq_true p107
               replace q107 := eq_true q107
               try go_wp2_with (first | ((with_reducible refine gate_dst (N := 4) rfl ?_); (try (refine gate_guard (by rfl) ?_; dsimp only)); refine bx_ 4 #[.int .i64 0, .int .i64 0] 93 (h := ?_); intro gb108 hg w78 hbox hb; have BK108 := Aside0.mk (hbox); have GW108 := Aside0.mk ((by rw [hg]; exact (below_size bel) : w.heap.size ≤ gb108)); have GE108 := Aside0.mk ((by rw [hg]; exact (below_size bel) : w.heap.size ≤ gb108)); have NB106_108 := Aside0.mk ((by rw [hg]; exact Nat.ne_of_lt (blt BK106) : gb106 ≠ gb108)); have NB108_106 := Aside0.mk ((by rw [hg]; exact Nat.ne_of_gt (blt BK106) : gb108 ≠ gb106)); replace BK106 := Aside0.mk (blb BK106 hb); replace HB := Aside0.mk (below_step bel hb); clear hb hbox hg; have hnb79 := NB108_106.out; have hnc79 := NB106_108.out; obtain ⟨hcz80_0, hcz80_1, -⟩ := cells_2 BK108.out trivial; obtain ⟨hfz80_0, hfz80_1, -⟩ := frz_2 BK108.out))
               have n0_ : Aside0 (((w78.setCell ⟨gb108, 0, none⟩ (.int .i64 ((rd_T93 l0_1 x3_2).f0))).setCell ⟨gb108, 1, none⟩ (.int .i64 ((rd_T93 l0_1 x3_2).f1))).heap[gb106]? = some (.cells #[.int .i64 a0_0, .slice (some ad107) l0_1.length c0_1] 65 (0, 0))) := ⟨by (with_reducible repeat (first | refine blk_drewN ?_ _ | refine blk_drew ?_ | refine blk_alloc ?_ _)); refine blk_far ?_ NB106_108.out _; (with_reducible repeat (first | refine blk_drewN ?_ _ | refine blk_drew ?_ | refine blk_alloc ?_ _)); refine blk_far ?_ NB106_108.out _; (with_reducible repeat (first | refine blk_drewN ?_ _ | refine blk_drew ?_ | refine blk_alloc ?_ _)); exact BK106.out⟩
               have n1_ : Aside0 (((w78.setCell ⟨gb108, 0, none⟩ (.int .i64 ((rd_T93 l0_1 x3_2).f0))).setCell ⟨gb108, 1, none⟩ (.int .i64 ((rd_T93 l0_1 x3_2).f1))).heap[gb108]? = some (.cells #[.int .i64 ((rd_T93 l0_1 x3_2).f0), .int .i64 ((rd_T93 l0_1 x3_2).f1)] 93 (0, 0))) := ⟨by (with_reducible repeat (first | refine blk_drewN ?_ _ | refine blk_drew ?_ | refine blk_alloc ?_ _)); refine blk_put (cs := #[.int .i64 ((rd_T93 l0_1 x3_2).f0), .int .i64 0]) ?_ 1 _ rfl; (with_reducible repeat (first | refine blk_drewN ?_ _ | refine blk_drew ?_ | refine blk_alloc ?_ _)); refine blk_put (cs := #[.int .i64 0, .int .i64 0]) ?_ 0 _ rfl; (with_reducible repeat (first | refine blk_drewN ?_ _ | refine blk_drew ?_ | refine blk_alloc ?_ _)); exact BK108.out⟩
               have n2_ : Aside0 (Below w.heap.size w ((w78.setCell ⟨gb108, 0, none⟩ (.int .i64 ((rd_T93 l0_1 x3_2).f0))).setCell ⟨gb108, 1, none⟩ (.int .i64 ((rd_T93 l0_1 x3_2).f1)))) := ⟨by repeat (first | (with_reducible first | exact HB.out | apply below_alloc | apply pw_below_drewN | apply below_drew1 | refine below_set ?_ GE106.out | refine below_set ?_ GE108.out) | exact HB.out)⟩
               (try clear BK106)
               (try clear BK108)
               (try clear HB)
               generalize ((w78.setCell ⟨gb108, 0, none⟩ (.int .i64 ((rd_T93 l0_1 x3_2).f0))).setCell ⟨gb108, 1, none⟩ (.int .i64 ((rd_T93 l0_1 x3_2).f1))) = w81 at n0_ n1_ n2_ ⊢
               have BK106 := n0_
               have BK108 := n1_
               have HB := n2_
               clear n0_ n1_ n2_
               replace BK106 := Aside0.mk (blk_drew BK106.out)
               replace BK108 := Aside0.mk (blk_drew BK108.out)
               replace HB := Aside0.mk (below_drew1 HB.out)
               have q83 : (x3_2 : Int) ≤ ((l0_1.length : Int) : Int) := od
               obtain ⟨i083, hi083, _, hsz83, _⟩ := info_parts info93
               have hroom83 : l0_1.length ≤ c0_1 := HC0_1.out
               have hC83 : Kd.C k93 _ (some ad107) l0_1.length l0_1 := HR0_1.out
               have hcut83 := cut_to (P := Try.prog) 63 93 .i64 Try.underlying63 hi083 (some ad107) l0_1.length c0_1 x3_2 od q83 hroom83
               have hr83 := Kd.C_take (m := (x3_2 : Int).toNat) hC83 (by omega)
               have hy83 : y116.length = (x3_2 : Int).toNat := (by rw [Ny116.out, List.length_take]; omega)
               rw [← Ny116.out] at hr83
               rw [← hy83] at hcut83
               have HR119 := Aside0.mk hr83
               have HC119 := Aside0.mk (show y116.length ≤ c0_1 from by omega)
               clear hr83 hC83 hroom83 hi083 hsz83
               have KY83 := Aside0.mk hy83
               clear hy83
               replace q83 := eq_true q83
               refine start_ (n := 45) (S := fun w' => w'.cell? ⟨gb108, 0, none⟩ = some (.int .i64 ((rd_T93 l0_1 x3_2).f0)) ∧ w'.cell? ⟨gb108, 1, none⟩ = some (.int .i64 ((rd_T93 l0_1 x3_2).f1)) ∧ w'.cell? ⟨gb106, 0, none⟩ = some (.int .i64 a0_0) ∧ w'.cell? ⟨gb106, 1, none⟩ = some (.slice (some ad107) l0_1.length c0_1)) (ds := []) (tf 0 45) (by kernel_rfl) rfl rfl (cells_2 BK108.out ⟨(blk_cell BK106.out 0).trans rfl, (blk_cell BK106.out 1).trans rfl⟩) (fun hHeld => ?_); refine with_tabW spec_WheelOk.tab7 spec_WheelOk.bits7 (fun HT_ HW_ => ?_)
               generalize w81.drew = w82 at BK106 BK108 HB HR119 hHeld ⊢
               refine pv_ HT_ 0 (some 31) (tf 1 44) (h := ?_)
               refine tv_ HT_ HW_ hHeld 1 (some 32) (tf 2 43) (h := ?_)
               refine pv_ HT_ 2 (some 33) (tf 3 42) (h := ?_)
               refine pv_ HT_ 3 (some 34) (tf 4 41) (h := ?_)
               refine pv_ HT_ 4 (some 35) (tf 5 40) (h := ?_)
               refine tv_ HT_ HW_ hHeld 5 (some 36) (tf 6 39) (h := ?_)
               refine pv_ HT_ 6 (some 37) (tf 7 38) (h := ?_)
               refine pv_ HT_ 7 (some 38) (tf 8 37) (h := ?_)
               refine pv_ HT_ 8 (some 39) (tf 9 36) (h := ?_)
               refine pv_ HT_ 9 (some 40) (tf 10 35) (h := ?_)
               refine pv_ HT_ 11 (some 42) (tb 45 3071) (h := ?_)
               refine tv_ HT_ HW_ hHeld 10 (some 41) (tf 12 33) (h := ?_)
               refine tv_ HT_ HW_ hHeld 12 (some 43) (tf 13 32) (h := ?_)
               refine pv_ HT_ 13 (some 44) (tf 14 31) (h := ?_)
               refine pv_ HT_ 14 (some 45) (tf 15 30) (h := ?_)
               refine pv_ HT_ 15 (some 46) (tf 16 29) (h := ?_)
               refine pv_ HT_ 16 (some 47) (tf 17 28) (h := ?_)
               refine tv_ HT_ HW_ hHeld 17 (some 48) (tf 18 27) (h := ?_)
               refine pv_ HT_ 18 (some 49) (tf 19 26) (h := ?_)
               refine pv_ HT_ 19 (some 50) (tf 20 25) (h := ?_)
               refine pv_ HT_ 20 (some 51) (tf 21 24) (h := ?_)
               refine pv_ HT_ 21 (some 52) (tf 22 23) (h := ?_)
               refine pv_ HT_ 22 (some 53) (tf 23 22) (h := ?_)
               refine pv_ HT_ 23 (some 54) (tf 24 21) (h := ?_)
               refine pu_ HT_ 24 (some 55) (tf 25 20) (h := ?_)
               refine pu_ HT_ 25 (some 56) (tf 26 19) (h := ?_)
               refine pu_ HT_ 26 (some 57) (tf 27 18) (h := ?_)
               refine pu_ HT_ 27 (some 58) (tf 28 17) (h := ?_)
               refine pu_ HT_ 28 (some 59) (tf 29 16) (h := ?_)
               refine pu_ HT_ 29 (some 60) (tf 30 15) (h := ?_)
               refine pu_ HT_ 30 (some 61) (tf 31 14) (h := ?_)
               refine pu_ HT_ 31 (some 62) (tf 32 13) (h := ?_)
               refine pu_ HT_ 32 (some 63) (tf 33 12) (h := ?_)
               refine pv_ HT_ 33 (some 64) (tf 34 11) (h := ?_)
               refine pv_ HT_ 34 (some 65) (tf 35 10) (h := ?_)
               refine pv_ HT_ 35 (some 66) (tf 36 9) (h := ?_)
               refine pv_ HT_ 36 (some 67) (tf 37 8) (h := ?_)
               refine pv_ HT_ 38 (some 69) (tb 45 412316860415) (h := ?_)
               refine pv_ HT_ 40 (some 71) (tb 45 1511828488191) (h := ?_)
               refine tv_ HT_ HW_ hHeld 37 (some 68) (tb 45 1649267441663) (h := ?_)
               refine pv_ HT_ 39 (some 70) (tf 41 4) (h := ?_)
               refine tv_ HT_ HW_ hHeld 41 (some 72) (tf 42 3) (h := ?_)
               refine one_ (i := 42) (N := some 73) (tf 43 2) rfl rfl (one_of HT_.out (by kernel_rfl)) (by decide) (fun K hK => ?_)
               refine gs_ Try.func61 #[.slice (some ad107) y116.length c0_1, .int .i64 ((rd_T93 l0_1 x3_2).f0)] (h := ?_)
               with_reducible refine (spec_l7find.calls k2 _ _ y116 ((rd_T93 l0_1 x3_2).f0) t120 _ ?side1 ?side2 A75.out).mono ?_
               (case side1 => exact kcb)
               (case side2 => exact HC119.out)
               rintro e w' ⟨rfl, ⟨nd, rfl⟩⟩
               refine ⟨_, rfl, ?_⟩
               refine hK.out _ _ (cells_2 BK108.out ⟨(blk_cell BK106.out 0).trans rfl, (blk_cell BK106.out 1).trans rfl⟩) (fun hHeld => ?_)
               clear hK K
               refine norm_ (a' := ?_) ?_ ?_
               rotate_left
               ·show Act.put _ (some 73) _ = _
                simp only [Act.put, List.setIfInBounds_toArray, List.set_cons_zero, List.set_cons_succ, i64_w, i32_w]
                rfl
               refine pv_ HT_ 43 (some 74) (tf 44 1) (h := ?_)
               refine pv_ HT_ 44 (some 75) (tf 45 0) (h := ?_)
               refine done_ (done_of HT_.out (by kernel_rfl)) ?_
               try go_wp2
               go_ret
               exact ⟨by first | rfl | (simp [errW_none, errW_some] <;> rfl) | (simp [*, errW_none, errW_some] <;> rfl), by repeat (first | (with_reducible first | exact HB.out | apply below_alloc | apply pw_below_drewN | apply below_drew1 | refine below_set ?_ GE106.out | refine below_set ?_ GE108.out) | exact HB.out)⟩
              ·rw [if_neg c76] at H
               have c76b0 : decide (0 ≤ t120) = false := decide_eq_false c76
               clear c76
               have H' := Aside0.mk H
               clear H
               obtain ⟨hcz84_0, hcz84_1, -⟩ := cells_2 BK106.out trivial
               obtain ⟨hfz84_0, hfz84_1, -⟩ := frz_2 BK106.out
               have p107 : 0 ≤ (x3_2 : Int) := od
               have q107 : x3_2 < (l0_1.length : Int) := od
               obtain ⟨ad107, e107, hx107_0, hx107_1⟩ := at_T93 HR0_1.out x3_2 p107 q107
               cases e107
               replace hx107_0 := hxb HB hx107_0
               replace hx107_1 := hxb HB hx107_1
               replace p107 := eq_true p107
               replace q107 := eq_true q107
               try go_wp2_with (first | ((with_reducible refine gate_dst (N := 4) rfl ?_); (try (refine gate_guard (by rfl) ?_; dsimp only)); refine bx_ 4 #[.int .i64 0, .int .i64 0] 93 (h := ?_); intro gb108 hg w85 hbox hb; have BK108 := Aside0.mk (hbox); have GW108 := Aside0.mk ((by rw [hg]; exact (below_size bel) : w.heap.size ≤ gb108)); have GE108 := Aside0.mk ((by rw [hg]; exact (below_size bel) : w.heap.size ≤ gb108)); have NB106_108 := Aside0.mk ((by rw [hg]; exact Nat.ne_of_lt (blt BK106) : gb106 ≠ gb108)); have NB108_106 := Aside0.mk ((by rw [hg]; exact Nat.ne_of_gt (blt BK106) : gb108 ≠ gb106)); replace BK106 := Aside0.mk (blb BK106 hb); replace HB := Aside0.mk (below_step bel hb); clear hb hbox hg; have hnb86 := NB108_106.out; have hnc86 := NB106_108.out; obtain ⟨hcz87_0, hcz87_1, -⟩ := cells_2 BK108.out trivial; obtain ⟨hfz87_0, hfz87_1, -⟩ := frz_2 BK108.out))
               have n0_ : Aside0 (((w85.setCell ⟨gb108, 0, none⟩ (.int .i64 ((rd_T93 l0_1 x3_2).f0))).setCell ⟨gb108, 1, none⟩ (.int .i64 ((rd_T93 l0_1 x3_2).f1))).heap[gb106]? = some (.cells #[.int .i64 a0_0, .slice (some ad107) l0_1.length c0_1] 65 (0, 0))) := ⟨by (with_reducible repeat (first | refine blk_drewN ?_ _ | refine blk_drew ?_ | refine blk_alloc ?_ _)); refine blk_far ?_ NB106_108.out _; (with_reducible repeat (first | refine blk_drewN ?_ _ | refine blk_drew ?_ | refine blk_alloc ?_ _)); refine blk_far ?_ NB106_108.out _; (with_reducible repeat (first | refine blk_drewN ?_ _ | refine blk_drew ?_ | refine blk_alloc ?_ _)); exact BK106.out⟩
               have n1_ : Aside0 (((w85.setCell ⟨gb108, 0, none⟩ (.int .i64 ((rd_T93 l0_1 x3_2).f0))).setCell ⟨gb108, 1, none⟩ (.int .i64 ((rd_T93 l0_1 x3_2).f1))).heap[gb108]? = some (.cells #[.int .i64 ((rd_T93 l0_1 x3_2).f0), .int .i64 ((rd_T93 l0_1 x3_2).f1)] 93 (0, 0))) := ⟨by (with_reducible repeat (first | refine blk_drewN ?_ _ | refine blk_drew ?_ | refine blk_alloc ?_ _)); refine blk_put (cs := #[.int .i64 ((rd_T93 l0_1 x3_2).f0), .int .i64 0]) ?_ 1 _ rfl; (with_reducible repeat (first | refine blk_drewN ?_ _ | refine blk_drew ?_ | refine blk_alloc ?_ _)); refine blk_put (cs := #[.int .i64 0, .int .i64 0]) ?_ 0 _ rfl; (with_reducible repeat (first | refine blk_drewN ?_ _ | refine blk_drew ?_ | refine blk_alloc ?_ _)); exact BK108.out⟩
               have n2_ : Aside0 (Below w.heap.size w ((w85.setCell ⟨gb108, 0, none⟩ (.int .i64 ((rd_T93 l0_1 x3_2).f0))).setCell ⟨gb108, 1, none⟩ (.int .i64 ((rd_T93 l0_1 x3_2).f1)))) := ⟨by repeat (first | (with_reducible first | exact HB.out | apply below_alloc | apply pw_below_drewN | apply below_drew1 | refine below_set ?_ GE106.out | refine below_set ?_ GE108.out) | exact HB.out)⟩
               (try clear BK106)
               (try clear BK108)
               (try clear HB)
               generalize ((w85.setCell ⟨gb108, 0, none⟩ (.int .i64 ((rd_T93 l0_1 x3_2).f0))).setCell ⟨gb108, 1, none⟩ (.int .i64 ((rd_T93 l0_1 x3_2).f1))) = w88 at n0_ n1_ n2_ ⊢
               have BK106 := n0_
               have BK108 := n1_
               have HB := n2_
               clear n0_ n1_ n2_
               replace BK106 := Aside0.mk (blk_drew BK106.out)
               replace BK108 := Aside0.mk (blk_drew BK108.out)
               replace HB := Aside0.mk (below_drew1 HB.out)
               have q90 : (x3_2 : Int) ≤ ((l0_1.length : Int) : Int) := od
               obtain ⟨i090, hi090, _, hsz90, _⟩ := info_parts info93
               have hroom90 : l0_1.length ≤ c0_1 := HC0_1.out
               have hC90 : Kd.C k93 _ (some ad107) l0_1.length l0_1 := HR0_1.out
               have hcut90 := cut_to (P := Try.prog) 63 93 .i64 Try.underlying63 hi090 (some ad107) l0_1.length c0_1 x3_2 od q90 hroom90
               have hr90 := Kd.C_take (m := (x3_2 : Int).toNat) hC90 (by omega)
               have hy90 : y116.length = (x3_2 : Int).toNat := (by rw [Ny116.out, List.length_take]; omega)
               rw [← Ny116.out] at hr90
               rw [← hy90] at hcut90
               have HR119 := Aside0.mk hr90
               have HC119 := Aside0.mk (show y116.length ≤ c0_1 from by omega)
               clear hr90 hC90 hroom90 hi090 hsz90
               have KY90 := Aside0.mk hy90
               clear hy90
               replace q90 := eq_true q90
               refine start_ (n := 45) (S := fun w' => w'.cell? ⟨gb108, 0, none⟩ = some (.int .i64 ((rd_T93 l0_1 x3_2).f0)) ∧ w'.cell? ⟨gb108, 1, none⟩ = some (.int .i64 ((rd_T93 l0_1 x3_2).f1)) ∧ w'.cell? ⟨gb106, 0, none⟩ = some (.int .i64 a0_0) ∧ w'.cell? ⟨gb106, 1, none⟩ = some (.slice (some ad107) l0_1.length c0_1)) (ds := []) (tf 0 45) (by kernel_rfl) rfl rfl (cells_2 BK108.out ⟨(blk_cell BK106.out 0).trans rfl, (blk_cell BK106.out 1).trans rfl⟩) (fun hHeld => ?_); refine with_tabW spec_WheelOk.tab7 spec_WheelOk.bits7 (fun HT_ HW_ => ?_)
               generalize w88.drew = w89 at BK106 BK108 HB HR119 hHeld ⊢
               refine pv_ HT_ 0 (some 31) (tf 1 44) (h := ?_)
               refine tv_ HT_ HW_ hHeld 1 (some 32) (tf 2 43) (h := ?_)
               refine pv_ HT_ 2 (some 33) (tf 3 42) (h := ?_)
               refine pv_ HT_ 3 (some 34) (tf 4 41) (h := ?_)
               refine pv_ HT_ 4 (some 35) (tf 5 40) (h := ?_)
               refine tv_ HT_ HW_ hHeld 5 (some 36) (tf 6 39) (h := ?_)
               refine pv_ HT_ 6 (some 37) (tf 7 38) (h := ?_)
               refine pv_ HT_ 7 (some 38) (tf 8 37) (h := ?_)
               refine pv_ HT_ 8 (some 39) (tf 9 36) (h := ?_)
               refine pv_ HT_ 9 (some 40) (tf 10 35) (h := ?_)
               refine pv_ HT_ 11 (some 42) (tb 45 3071) (h := ?_)
               refine tv_ HT_ HW_ hHeld 10 (some 41) (tf 12 33) (h := ?_)
               refine tv_ HT_ HW_ hHeld 12 (some 43) (tf 13 32) (h := ?_)
               refine pv_ HT_ 13 (some 44) (tf 14 31) (h := ?_)
               refine pv_ HT_ 14 (some 45) (tf 15 30) (h := ?_)
               refine pv_ HT_ 15 (some 46) (tf 16 29) (h := ?_)
               refine pv_ HT_ 16 (some 47) (tf 17 28) (h := ?_)
               refine tv_ HT_ HW_ hHeld 17 (some 48) (tf 18 27) (h := ?_)
               refine pv_ HT_ 18 (some 49) (tf 19 26) (h := ?_)
               refine pv_ HT_ 19 (some 50) (tf 20 25) (h := ?_)
               refine pv_ HT_ 20 (some 51) (tf 21 24) (h := ?_)
               refine pv_ HT_ 21 (some 52) (tf 22 23) (h := ?_)
               refine pv_ HT_ 22 (some 53) (tf 23 22) (h := ?_)
               refine pv_ HT_ 23 (some 54) (tf 24 21) (h := ?_)
               refine pu_ HT_ 24 (some 55) (tf 25 20) (h := ?_)
               refine pu_ HT_ 25 (some 56) (tf 26 19) (h := ?_)
               refine pu_ HT_ 26 (some 57) (tf 27 18) (h := ?_)
               refine pu_ HT_ 27 (some 58) (tf 28 17) (h := ?_)
               refine pu_ HT_ 28 (some 59) (tf 29 16) (h := ?_)
               refine pu_ HT_ 29 (some 60) (tf 30 15) (h := ?_)
               refine pu_ HT_ 30 (some 61) (tf 31 14) (h := ?_)
               refine pu_ HT_ 31 (some 62) (tf 32 13) (h := ?_)
               refine pu_ HT_ 32 (some 63) (tf 33 12) (h := ?_)
               refine pv_ HT_ 33 (some 64) (tf 34 11) (h := ?_)
               refine pv_ HT_ 34 (some 65) (tf 35 10) (h := ?_)
               refine pv_ HT_ 35 (some 66) (tf 36 9) (h := ?_)
               refine pv_ HT_ 36 (some 67) (tf 37 8) (h := ?_)
               refine pv_ HT_ 38 (some 69) (tb 45 412316860415) (h := ?_)
               refine pv_ HT_ 40 (some 71) (tb 45 1511828488191) (h := ?_)
               refine tv_ HT_ HW_ hHeld 37 (some 68) (tb 45 1649267441663) (h := ?_)
               refine pv_ HT_ 39 (some 70) (tf 41 4) (h := ?_)
               refine tv_ HT_ HW_ hHeld 41 (some 72) (tf 42 3) (h := ?_)
               refine one_ (i := 42) (N := some 73) (tf 43 2) rfl rfl (one_of HT_.out (by kernel_rfl)) (by decide) (fun K hK => ?_)
               refine gs_ Try.func61 #[.slice (some ad107) y116.length c0_1, .int .i64 ((rd_T93 l0_1 x3_2).f0)] (h := ?_)
               with_reducible refine (spec_l7find.calls k2 _ _ y116 ((rd_T93 l0_1 x3_2).f0) t120 _ ?side1 ?side2 A75.out).mono ?_
               (case side1 => exact kcb)
               (case side2 => exact HC119.out)
               rintro e w' ⟨rfl, ⟨nd, rfl⟩⟩
               refine ⟨_, rfl, ?_⟩
               refine hK.out _ _ (cells_2 BK108.out ⟨(blk_cell BK106.out 0).trans rfl, (blk_cell BK106.out 1).trans rfl⟩) (fun hHeld => ?_)
               clear hK K
               refine norm_ (a' := ?_) ?_ ?_
               rotate_left
               ·show Act.put _ (some 73) _ = _
                simp only [Act.put, List.setIfInBounds_toArray, List.set_cons_zero, List.set_cons_succ, i64_w, i32_w]
                rfl
               refine pv_ HT_ 43 (some 74) (tf 44 1) (h := ?_)
               refine pv_ HT_ 44 (some 75) (tf 45 0) (h := ?_)
               refine done_ (done_of HT_.out (by kernel_rfl)) ?_
               try go_wp2
               go_roundg k2
               case measure => have := HJ1.out; have := HK2.out; omega
               case rel => exact ⟨(wrap64 (x3_2 + 1)), (by first | rfl | (simp; done) | (simp [*]; done)), H', ⟨by have := HJ1.out; have := HK2.out; omega⟩, ⟨by (with_reducible repeat (first | refine blk_drewN ?_ _ | refine blk_drew ?_ | refine blk_alloc ?_ _)); exact BK106.out⟩, ⟨by repeat (first | (with_reducible first | exact HB.out | apply below_alloc | apply pw_below_drewN | apply below_drew1 | refine below_set ?_ GE106.out | refine below_set ?_ GE108.out) | exact HB.out)⟩⟩
             ·rw [if_neg c74] at H
              exact absurd H (by simp)
       ·rw [if_neg c11] at H
        exact absurd H (by simp)
      ·rw [if_neg c10] at H
       have c10b0 : decide (x3_2 < (l0_1.length : Int)) = false := decide_eq_false c10
       clear c10
       obtain rfl := Option.some.inj H
       obtain ⟨hcz91_0, hcz91_1, -⟩ := cells_2 BK106.out trivial
       obtain ⟨hfz91_0, hfz91_1, -⟩ := frz_2 BK106.out
       go_wp2
       go_ret
       exact ⟨by first | rfl | (simp [errW_none, errW_some] <;> rfl) | (simp [*, errW_none, errW_some] <;> rfl), by repeat (first | (with_reducible first | exact HB.out | apply below_alloc | apply pw_below_drewN | apply below_drew1 | refine below_set ?_ GE106.out) | exact HB.out)⟩

end Go.Proofs.Ytmnjdmmljkahgaa.PW
