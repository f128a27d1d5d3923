-- Written for this claim by the session's program pp.py, out of the kit's print and the seat's translation.
import Derived.Test.YtoaddpfoecggpaaPGx0
namespace Go.Proofs.Ytoaddpfoecggpaa.PG
open Go.RowKit Go.Proofs.YtoaddpfoecggpaaW.PrintWords Go.Proofs.YtoaddpfoecggpaaW.PrintLast Go.Proofs.YtoaddpfoecggpaaW.PrintMore
attribute [local go_sem] max2_int min2_int max_two min_two max_three min_three max_four min_four   -- for this text's walks alone
set_option linter.unusedVariables false
set_option linter.unusedSimpArgs false

/-! ### spec_l6ok: function 59 -/
mutual
def spec_l6ok.j0 : Nat → Int → Int → Bool → List Int → Bool → Int → List (S30) → Option (Int)
 | 0, _, _, _, _, _, _, _ => none
 | k + 1, x2, x3, x72, x143000, x143001, x143002, x143003 => if x72 = true then (some (-1)) else (spec_l6ok.l0 k x2 x3 0 x143000 x143001 x143002 x143003)
def spec_l6ok.l0 : Nat → Int → Int → Int → List Int → Bool → Int → List (S30) → Option (Int)
 | 0, _, _, _, _, _, _, _ => none
 | k + 1, x2, x3, x9, x143000, x143001, x143002, x143003 => if x9 < (x143003.length : Int) then (if 0 ≤ x9 then (if (((rd_T30 x143003 x9).f0).length : Int) = 0 then (spec_l6ok.j2 k x2 x3 x9 true x143000 x143001 x143002 x143003 ((rd_T30 x143003 x9).f0) ((rd_T30 x143003 x9).f1) ((rd_T30 x143003 x9).f2) ((rd_T30 x143003 x9).f3)) else (if x9 > 0 then (if 0 ≤ (wrap64 (x9 - 1)) then (if (wrap64 (x9 - 1)) < (x143003.length : Int) then (if 0 < (((rd_T30 x143003 (wrap64 (x9 - 1))).f0).length : Int) then (if 0 < (((rd_T30 x143003 x9).f0).length : Int) then (spec_l6ok.j2 k x2 x3 x9 (decide ((rd ((rd_T30 x143003 (wrap64 (x9 - 1))).f0) 0) ≥ (rd ((rd_T30 x143003 x9).f0) 0))) x143000 x143001 x143002 x143003 ((rd_T30 x143003 x9).f0) ((rd_T30 x143003 x9).f1) ((rd_T30 x143003 x9).f2) ((rd_T30 x143003 x9).f3)) else (none)) else (none)) else (none)) else (none)) else (spec_l6ok.j2 k x2 x3 x9 false x143000 x143001 x143002 x143003 ((rd_T30 x143003 x9).f0) ((rd_T30 x143003 x9).f1) ((rd_T30 x143003 x9).f2) ((rd_T30 x143003 x9).f3)))) else (none)) else (some x2)
def spec_l6ok.j2 : Nat → Int → Int → Int → Bool → List Int → Bool → Int → List (S30) → List Int → Bool → Int → List (S30) → Option (Int)
 | 0, _, _, _, _, _, _, _, _, _, _, _, _ => none
 | k + 1, x2, x3, x9, x108, x143000, x143001, x143002, x143003, x145000, x145001, x145002, x145003 => if x108 = true then (some (-1)) else ((spec_l6ok.f k x145000 x145001 x145002 x145003 false x2 (wrap64 (x3 + 1))).bind fun t148 => (if t148 < 0 then (some (-1)) else (spec_l6ok.l0 k t148 x3 (wrap64 (x9 + 1)) x143000 x143001 x143002 x143003)))
def spec_l6ok.f : Nat → List Int → Bool → Int → List (S30) → Bool → Int → Int → Option (Int)
 | 0, _, _, _, _, _, _, _ => none
 | k + 1, l0_0, a0_1, a0_2, l0_3, a1, a2, a3 => if (wrap64 (a2 - 1)) < 0 then (spec_l6ok.j0 k (wrap64 (a2 - 1)) a3 true l0_0 a0_1 a0_2 l0_3) else (if a3 > 24 then (spec_l6ok.j0 k (wrap64 (a2 - 1)) a3 true l0_0 a0_1 a0_2 l0_3) else (if a1 = true then (if (l0_0.length : Int) > 0 then (spec_l6ok.j0 k (wrap64 (a2 - 1)) a3 true l0_0 a0_1 a0_2 l0_3) else (if a0_1 = true then (if a0_2 < 0 then (spec_l6ok.j0 k (wrap64 (a2 - 1)) a3 true l0_0 a0_1 a0_2 l0_3) else (if a0_2 > 2147483647 then (spec_l6ok.j0 k (wrap64 (a2 - 1)) a3 true l0_0 a0_1 a0_2 l0_3) else (spec_l6ok.j0 k (wrap64 (a2 - 1)) a3 false l0_0 a0_1 a0_2 l0_3))) else (if a0_2 = 0 then (if a0_2 < 0 then (spec_l6ok.j0 k (wrap64 (a2 - 1)) a3 true l0_0 a0_1 a0_2 l0_3) else (if a0_2 > 2147483647 then (spec_l6ok.j0 k (wrap64 (a2 - 1)) a3 true l0_0 a0_1 a0_2 l0_3) else (spec_l6ok.j0 k (wrap64 (a2 - 1)) a3 false l0_0 a0_1 a0_2 l0_3))) else (spec_l6ok.j0 k (wrap64 (a2 - 1)) a3 true l0_0 a0_1 a0_2 l0_3)))) else (if (l0_0.length : Int) = 0 then (spec_l6ok.j0 k (wrap64 (a2 - 1)) a3 true l0_0 a0_1 a0_2 l0_3) else (if a0_1 = true then (if a0_2 < 0 then (spec_l6ok.j0 k (wrap64 (a2 - 1)) a3 true l0_0 a0_1 a0_2 l0_3) else (if a0_2 > 2147483647 then (spec_l6ok.j0 k (wrap64 (a2 - 1)) a3 true l0_0 a0_1 a0_2 l0_3) else (spec_l6ok.j0 k (wrap64 (a2 - 1)) a3 false l0_0 a0_1 a0_2 l0_3))) else (if a0_2 = 0 then (if a0_2 < 0 then (spec_l6ok.j0 k (wrap64 (a2 - 1)) a3 true l0_0 a0_1 a0_2 l0_3) else (if a0_2 > 2147483647 then (spec_l6ok.j0 k (wrap64 (a2 - 1)) a3 true l0_0 a0_1 a0_2 l0_3) else (spec_l6ok.j0 k (wrap64 (a2 - 1)) a3 (decide ((l0_3.length : Int) < 2)) l0_0 a0_1 a0_2 l0_3))) else (spec_l6ok.j0 k (wrap64 (a2 - 1)) a3 true l0_0 a0_1 a0_2 l0_3))))))
end
theorem spec_l6ok.mono_l : ∀ k, (∀ y0 y1 y2 y3 y4 y5 y6, LeO (spec_l6ok.f k y0 y1 y2 y3 y4 y5 y6) (spec_l6ok.f (k + 1) y0 y1 y2 y3 y4 y5 y6)) ∧ (∀ y0 y1 y2 y3 y4 y5 y6, LeO (spec_l6ok.j0 k y0 y1 y2 y3 y4 y5 y6) (spec_l6ok.j0 (k + 1) y0 y1 y2 y3 y4 y5 y6)) ∧ (∀ y0 y1 y2 y3 y4 y5 y6, LeO (spec_l6ok.l0 k y0 y1 y2 y3 y4 y5 y6) (spec_l6ok.l0 (k + 1) y0 y1 y2 y3 y4 y5 y6)) ∧ (∀ y0 y1 y2 y3 y4 y5 y6 y7 y8 y9 y10 y11, LeO (spec_l6ok.j2 k y0 y1 y2 y3 y4 y5 y6 y7 y8 y9 y10 y11) (spec_l6ok.j2 (k + 1) y0 y1 y2 y3 y4 y5 y6 y7 y8 y9 y10 y11))
 | 0 => ⟨fun _ _ _ _ _ _ _ r h => by simp [spec_l6ok.f] at h, fun _ _ _ _ _ _ _ r h => by simp [spec_l6ok.j0] at h, fun _ _ _ _ _ _ _ r h => by simp [spec_l6ok.l0] at h, fun _ _ _ _ _ _ _ _ _ _ _ _ r h => by simp [spec_l6ok.j2] at h⟩
 | k + 1 => by
  obtain ⟨ih0, ih1, ih2, ih3⟩ := spec_l6ok.mono_l k
  refine ⟨?_, ?_, ?_, ?_⟩
  ·intro y0 y1 y2 y3 y4 y5 y6
   unfold spec_l6ok.f
   repeat' first
   | (with_reducible exact ih0 _ _ _ _ _ _ _)
   | (with_reducible exact ih1 _ _ _ _ _ _ _)
   | (with_reducible exact ih2 _ _ _ _ _ _ _)
   | (with_reducible exact ih3 _ _ _ _ _ _ _ _ _ _ _ _)
   | (with_reducible exact LeO.refl _)
   | (with_reducible exact LeO.none _)
   | (with_reducible refine LeO.ite ?_ ?_)
   | (with_reducible refine LeO.bind ?_ (fun _ => ?_))
   | exact ih0 _ _ _ _ _ _ _
   | exact ih1 _ _ _ _ _ _ _
   | exact ih2 _ _ _ _ _ _ _
   | exact ih3 _ _ _ _ _ _ _ _ _ _ _ _
   | exact LeO.none _
   | refine LeO.ite ?_ ?_
   | refine LeO.bind ?_ (fun _ => ?_)
  ·intro y0 y1 y2 y3 y4 y5 y6
   unfold spec_l6ok.j0
   repeat' first
   | (with_reducible exact ih0 _ _ _ _ _ _ _)
   | (with_reducible exact ih1 _ _ _ _ _ _ _)
   | (with_reducible exact ih2 _ _ _ _ _ _ _)
   | (with_reducible exact ih3 _ _ _ _ _ _ _ _ _ _ _ _)
   | (with_reducible exact LeO.refl _)
   | (with_reducible exact LeO.none _)
   | (with_reducible refine LeO.ite ?_ ?_)
   | (with_reducible refine LeO.bind ?_ (fun _ => ?_))
   | exact ih0 _ _ _ _ _ _ _
   | exact ih1 _ _ _ _ _ _ _
   | exact ih2 _ _ _ _ _ _ _
   | exact ih3 _ _ _ _ _ _ _ _ _ _ _ _
   | exact LeO.none _
   | refine LeO.ite ?_ ?_
   | refine LeO.bind ?_ (fun _ => ?_)
  ·intro y0 y1 y2 y3 y4 y5 y6
   unfold spec_l6ok.l0
   repeat' first
   | (with_reducible exact ih0 _ _ _ _ _ _ _)
   | (with_reducible exact ih1 _ _ _ _ _ _ _)
   | (with_reducible exact ih2 _ _ _ _ _ _ _)
   | (with_reducible exact ih3 _ _ _ _ _ _ _ _ _ _ _ _)
   | (with_reducible exact LeO.refl _)
   | (with_reducible exact LeO.none _)
   | (with_reducible refine LeO.ite ?_ ?_)
   | (with_reducible refine LeO.bind ?_ (fun _ => ?_))
   | exact ih0 _ _ _ _ _ _ _
   | exact ih1 _ _ _ _ _ _ _
   | exact ih2 _ _ _ _ _ _ _
   | exact ih3 _ _ _ _ _ _ _ _ _ _ _ _
   | exact LeO.none _
   | refine LeO.ite ?_ ?_
   | refine LeO.bind ?_ (fun _ => ?_)
  ·intro y0 y1 y2 y3 y4 y5 y6 y7 y8 y9 y10 y11
   unfold spec_l6ok.j2
   repeat' first
   | (with_reducible exact ih0 _ _ _ _ _ _ _)
   | (with_reducible exact ih1 _ _ _ _ _ _ _)
   | (with_reducible exact ih2 _ _ _ _ _ _ _)
   | (with_reducible exact ih3 _ _ _ _ _ _ _ _ _ _ _ _)
   | (with_reducible exact LeO.refl _)
   | (with_reducible exact LeO.none _)
   | (with_reducible refine LeO.ite ?_ ?_)
   | (with_reducible refine LeO.bind ?_ (fun _ => ?_))
   | exact ih0 _ _ _ _ _ _ _
   | exact ih1 _ _ _ _ _ _ _
   | exact ih2 _ _ _ _ _ _ _
   | exact ih3 _ _ _ _ _ _ _ _ _ _ _ _
   | exact LeO.none _
   | refine LeO.ite ?_ ?_
   | refine LeO.bind ?_ (fun _ => ?_)
theorem spec_l6ok.mono : ∀ a0 a1 a2 a3 a4 a5 a6 k, LeO (spec_l6ok.f k a0 a1 a2 a3 a4 a5 a6) (spec_l6ok.f (k + 1) a0 a1 a2 a3 a4 a5 a6) := by
 intro a0 a1 a2 a3 a4 a5 a6 k
 obtain ⟨ih0, ih1, ih2, ih3⟩ := spec_l6ok.mono_l k
 exact ih0 a0 a1 a2 a3 a4 a5 a6
set_option maxHeartbeats 8000000 in
set_option maxRecDepth 100000 in
theorem spec_l6ok.calls (k : Nat) : ∀ (A0_0 : Option Addr) (c0_0 : Nat) (l0_0 : List Int) (a0_1 : Bool) (a0_2 : Int) (A0_3 : Option Addr) (c0_3 : Nat) (l0_3 : List (S30)) (a1 : Bool) (a2 : Int) (a3 : Int) (r : Int) (w : World) (hr0_0 : Kd.C (Kd.int .u8) w A0_0 l0_0.length l0_0) (hc0_0 : l0_0.length ≤ c0_0) (hr0_3 : Kd.C k30 w A0_3 l0_3.length l0_3) (hc0_3 : l0_3.length ≤ c0_3) (h : spec_l6ok.f k l0_0 a0_1 a0_2 l0_3 a1 a2 a3 = some r),
  Calls Try.prog 59 #[.agg #[.slice A0_0 l0_0.length c0_0, .bool a0_1, .int .i64 a0_2, .slice A0_3 l0_3.length c0_3], .bool a1, .int .i64 a2, .int .i64 a3] w fun e w' => e = .returned (.int .i64 r) ∧ Below w.heap.size w w' := by
 induction k using Nat.strongRecOn with
 | _ k ih =>
 intro A0_0 c0_0 l0_0 a0_1 a0_2 A0_3 c0_3 l0_3 a1 a2 a3 r w hr0_0 hc0_0 hr0_3 hc0_3 h
 cases k with
 | zero => exact absurd h (by simp [spec_l6ok.f])
 | succ k =>
 simp only [spec_l6ok.f] at h
 have hu30 := Try.underlying30
 have HR0_0 := Aside0.mk hr0_0
 have HC0_0 := Aside0.mk hc0_0
 clear hr0_0 hc0_0
 have HR0_3 := Aside0.mk hr0_3
 have HC0_3 := Aside0.mk hc0_3
 clear hr0_3 hc0_3
 have HB := Aside0.mk (Below.refl w.heap.size w)
 have H : (if (wrap64 (a2 - 1)) < 0 then (spec_l6ok.j0 k (wrap64 (a2 - 1)) a3 true l0_0 a0_1 a0_2 l0_3) else (if a3 > 24 then (spec_l6ok.j0 k (wrap64 (a2 - 1)) a3 true l0_0 a0_1 a0_2 l0_3) else (if a1 = true then (if (l0_0.length : Int) > 0 then (spec_l6ok.j0 k (wrap64 (a2 - 1)) a3 true l0_0 a0_1 a0_2 l0_3) else (if a0_1 = true then (if a0_2 < 0 then (spec_l6ok.j0 k (wrap64 (a2 - 1)) a3 true l0_0 a0_1 a0_2 l0_3) else (if a0_2 > 2147483647 then (spec_l6ok.j0 k (wrap64 (a2 - 1)) a3 true l0_0 a0_1 a0_2 l0_3) else (spec_l6ok.j0 k (wrap64 (a2 - 1)) a3 false l0_0 a0_1 a0_2 l0_3))) else (if a0_2 = 0 then (if a0_2 < 0 then (spec_l6ok.j0 k (wrap64 (a2 - 1)) a3 true l0_0 a0_1 a0_2 l0_3) else (if a0_2 > 2147483647 then (spec_l6ok.j0 k (wrap64 (a2 - 1)) a3 true l0_0 a0_1 a0_2 l0_3) else (spec_l6ok.j0 k (wrap64 (a2 - 1)) a3 false l0_0 a0_1 a0_2 l0_3))) else (spec_l6ok.j0 k (wrap64 (a2 - 1)) a3 true l0_0 a0_1 a0_2 l0_3)))) else (if (l0_0.length : Int) = 0 then (spec_l6ok.j0 k (wrap64 (a2 - 1)) a3 true l0_0 a0_1 a0_2 l0_3) else (if a0_1 = true then (if a0_2 < 0 then (spec_l6ok.j0 k (wrap64 (a2 - 1)) a3 true l0_0 a0_1 a0_2 l0_3) else (if a0_2 > 2147483647 then (spec_l6ok.j0 k (wrap64 (a2 - 1)) a3 true l0_0 a0_1 a0_2 l0_3) else (spec_l6ok.j0 k (wrap64 (a2 - 1)) a3 false l0_0 a0_1 a0_2 l0_3))) else (if a0_2 = 0 then (if a0_2 < 0 then (spec_l6ok.j0 k (wrap64 (a2 - 1)) a3 true l0_0 a0_1 a0_2 l0_3) else (if a0_2 > 2147483647 then (spec_l6ok.j0 k (wrap64 (a2 - 1)) a3 true l0_0 a0_1 a0_2 l0_3) else (spec_l6ok.j0 k (wrap64 (a2 - 1)) a3 (decide ((l0_3.length : Int) < 2)) l0_0 a0_1 a0_2 l0_3))) else (spec_l6ok.j0 k (wrap64 (a2 - 1)) a3 true l0_0 a0_1 a0_2 l0_3))))))) = some r := h
 clear h
 have HC5 := Aside0.mk H
 clear H
 go_enter Try.func59, Try.ntmps59
 go_upto_region 2 with (first | ((with_reducible refine gate_dst (N := 4) rfl ?_); (try (refine gate_guard (by rfl) ?_; dsimp only)); refine bx_ 4 #[.slice A0_0 l0_0.length c0_0, .bool a0_1, .int .i64 a0_2, .slice A0_3 l0_3.length c0_3] 30 (h := ?_); intro gb142 hg w6 hbox hb; have BK142 := Aside0.mk (hbox); have GW142 := Aside0.mk ((by rw [hg]; exact (below_size bel) : w.heap.size ≤ gb142)); have GE142 := Aside0.mk ((by rw [hg]; exact (below_size bel) : w.heap.size ≤ gb142)); replace HB := Aside0.mk (below_step bel hb); clear hb hbox hg))
 repeat (go_quiet (first | ((with_reducible refine gate_dst (N := 4) rfl ?_); (try (refine gate_guard (by rfl) ?_; dsimp only)); refine bx_ 4 #[.slice A0_0 l0_0.length c0_0, .bool a0_1, .int .i64 a0_2, .slice A0_3 l0_3.length c0_3] 30 (h := ?_); intro gb142 hg w6 hbox hb; have BK142 := Aside0.mk (hbox); have GW142 := Aside0.mk ((by rw [hg]; exact (below_size bel) : w.heap.size ≤ gb142)); have GE142 := Aside0.mk ((by rw [hg]; exact (below_size bel) : w.heap.size ≤ gb142)); replace HB := Aside0.mk (below_step bel hb); clear hb hbox hg)); go_upto_region 2 with (first | ((with_reducible refine gate_dst (N := 4) rfl ?_); (try (refine gate_guard (by rfl) ?_; dsimp only)); refine bx_ 4 #[.slice A0_0 l0_0.length c0_0, .bool a0_1, .int .i64 a0_2, .slice A0_3 l0_3.length c0_3] 30 (h := ?_); intro gb142 hg w6 hbox hb; have BK142 := Aside0.mk (hbox); have GW142 := Aside0.mk ((by rw [hg]; exact (below_size bel) : w.heap.size ≤ gb142)); have GE142 := Aside0.mk ((by rw [hg]; exact (below_size bel) : w.heap.size ≤ gb142)); replace HB := Aside0.mk (below_step bel hb); clear hb hbox hg)))
 (try simp only [Act.put, List.setIfInBounds_toArray, List.set_cons_zero, List.set_cons_succ])
 go_cut [72] (fun v72 wc => ∃ (kq : Nat) (x72_4 : Bool), v72 = .bool x72_4 ∧ Aside0 (spec_l6ok.j0 kq (wrap64 (a2 - 1)) a3 x72_4 l0_0 a0_1 a0_2 l0_3 = some r) ∧ Aside0 (kq ≤ k) ∧ Aside0 (wc.heap[gb142]? = some (.cells #[(.slice A0_0 l0_0.length c0_0), .bool a0_1, .int .i64 a0_2, (.slice A0_3 l0_3.length c0_3)] 30 (0, 0))) ∧ Aside0 (Below w.heap.size w wc))
 case first =>
  have H := HC5.out
  clear HC5
  by_cases c7 : (wrap64 (a2 - 1)) < 0
  ·rw [if_pos c7] at H
   have c7b0 : decide ((wrap64 (a2 - 1)) < 0) = true := decide_eq_true c7
   clear c7
   (first | rw [c7b0] | (simp only [i64_w, i32_w]; rw [c7b0]) | skip)
   have H' := Aside0.mk H
   clear H
   go_wp2
   repeat (go_quiet (fail); try go_wp2)
   go_meet
   case rel => exact ⟨_, (true), (by first | rfl | (simp; done) | (simp [*]; done)), H', ⟨by first | omega | exact Nat.le_refl _⟩, ⟨by (with_reducible repeat (first | refine blk_drewN ?_ _ | refine blk_drew ?_ | refine blk_alloc ?_ _)); exact BK142.out⟩, ⟨by repeat (first | (with_reducible first | exact HB.out | apply below_alloc | apply pw_below_drewN | apply below_drew1 | refine below_set ?_ GE142.out) | exact HB.out)⟩⟩
  ·rw [if_neg c7] at H
   have c7b0 : decide ((wrap64 (a2 - 1)) < 0) = false := decide_eq_false c7
   clear c7
   (first | rw [c7b0] | (simp only [i64_w, i32_w]; rw [c7b0]) | skip)
   by_cases c8 : a3 > 24
   ·rw [if_pos c8] at H
    have c8b0 : decide (24 < a3) = true := decide_eq_true c8
    clear c8
    have H' := Aside0.mk H
    clear H
    go_wp2
    repeat (go_quiet (fail); try go_wp2)
    go_meet
    case rel => exact ⟨_, (true), (by first | rfl | (simp; done) | (simp [*]; done)), H', ⟨by first | omega | exact Nat.le_refl _⟩, ⟨by (with_reducible repeat (first | refine blk_drewN ?_ _ | refine blk_drew ?_ | refine blk_alloc ?_ _)); exact BK142.out⟩, ⟨by repeat (first | (with_reducible first | exact HB.out | apply below_alloc | apply pw_below_drewN | apply below_drew1 | refine below_set ?_ GE142.out) | exact HB.out)⟩⟩
   ·rw [if_neg c8] at H
    have c8b0 : decide (24 < a3) = false := decide_eq_false c8
    clear c8
    by_cases c9 : a1 = true
    ·subst c9
     have H1 : (if (l0_0.length : Int) > 0 then (spec_l6ok.j0 k (wrap64 (a2 - 1)) a3 true l0_0 a0_1 a0_2 l0_3) else (if a0_1 = true then (if a0_2 < 0 then (spec_l6ok.j0 k (wrap64 (a2 - 1)) a3 true l0_0 a0_1 a0_2 l0_3) else (if a0_2 > 2147483647 then (spec_l6ok.j0 k (wrap64 (a2 - 1)) a3 true l0_0 a0_1 a0_2 l0_3) else (spec_l6ok.j0 k (wrap64 (a2 - 1)) a3 false l0_0 a0_1 a0_2 l0_3))) else (if a0_2 = 0 then (if a0_2 < 0 then (spec_l6ok.j0 k (wrap64 (a2 - 1)) a3 true l0_0 a0_1 a0_2 l0_3) else (if a0_2 > 2147483647 then (spec_l6ok.j0 k (wrap64 (a2 - 1)) a3 true l0_0 a0_1 a0_2 l0_3) else (spec_l6ok.j0 k (wrap64 (a2 - 1)) a3 false l0_0 a0_1 a0_2 l0_3))) else (spec_l6ok.j0 k (wrap64 (a2 - 1)) a3 true l0_0 a0_1 a0_2 l0_3)))) = some r := by rw [if_pos rfl] at H; exact H
     clear H
     have H := H1
     clear H1
     by_cases c10 : (l0_0.length : Int) > 0
     ·rw [if_pos c10] at H
      have c10b0 : decide (0 < (l0_0.length : Int)) = true := decide_eq_true c10
      have c10b1 : decide (0 < l0_0.length) = true := decide_eq_true (by omega)
      clear c10
      have H' := Aside0.mk H
      clear H
      obtain ⟨hcz11_0, hcz11_1, hcz11_2, hcz11_3, -⟩ := cells_4 BK142.out trivial
      obtain ⟨hfz11_0, hfz11_1, hfz11_2, hfz11_3, -⟩ := frz_4 BK142.out
      go_wp2
      repeat (go_quiet (fail); try go_wp2)
      go_meet
      case rel => exact ⟨_, (true), (by first | rfl | (simp; done) | (simp [*]; done)), H', ⟨by first | omega | exact Nat.le_refl _⟩, ⟨by (with_reducible repeat (first | refine blk_drewN ?_ _ | refine blk_drew ?_ | refine blk_alloc ?_ _)); exact BK142.out⟩, ⟨by repeat (first | (with_reducible first | exact HB.out | apply below_alloc | apply pw_below_drewN | apply below_drew1 | refine below_set ?_ GE142.out) | exact HB.out)⟩⟩
     ·rw [if_neg c10] at H
      have c10b0 : decide (0 < (l0_0.length : Int)) = false := decide_eq_false c10
      have c10b1 : decide (0 < l0_0.length) = false := decide_eq_false (by omega)
      clear c10
      by_cases c12 : a0_1 = true
      ·subst c12
       have H1 : (if a0_2 < 0 then (spec_l6ok.j0 k (wrap64 (a2 - 1)) a3 true l0_0 true a0_2 l0_3) else (if a0_2 > 2147483647 then (spec_l6ok.j0 k (wrap64 (a2 - 1)) a3 true l0_0 true a0_2 l0_3) else (spec_l6ok.j0 k (wrap64 (a2 - 1)) a3 false l0_0 true a0_2 l0_3))) = some r := by rw [if_pos rfl] at H; exact H
       clear H
       have H := H1
       clear H1
       by_cases c13 : a0_2 < 0
       ·rw [if_pos c13] at H
        have c13b0 : decide (a0_2 < 0) = true := decide_eq_true c13
        clear c13
        have H' := Aside0.mk H
        clear H
        obtain ⟨hcz14_0, hcz14_1, hcz14_2, hcz14_3, -⟩ := cells_4 BK142.out trivial
        obtain ⟨hfz14_0, hfz14_1, hfz14_2, hfz14_3, -⟩ := frz_4 BK142.out
        go_wp2
        repeat (go_quiet (fail); try go_wp2)
        go_meet
        case rel => exact ⟨_, (true), (by first | rfl | (simp; done) | (simp [*]; done)), H', ⟨by first | omega | exact Nat.le_refl _⟩, ⟨by (with_reducible repeat (first | refine blk_drewN ?_ _ | refine blk_drew ?_ | refine blk_alloc ?_ _)); exact BK142.out⟩, ⟨by repeat (first | (with_reducible first | exact HB.out | apply below_alloc | apply pw_below_drewN | apply below_drew1 | refine below_set ?_ GE142.out) | exact HB.out)⟩⟩
       ·rw [if_neg c13] at H
        have c13b0 : decide (a0_2 < 0) = false := decide_eq_false c13
        clear c13
        by_cases c15 : a0_2 > 2147483647
        ·rw [if_pos c15] at H
         have c15b0 : decide (2147483647 < a0_2) = true := decide_eq_true c15
         clear c15
         have H' := Aside0.mk H
         clear H
         obtain ⟨hcz16_0, hcz16_1, hcz16_2, hcz16_3, -⟩ := cells_4 BK142.out trivial
         obtain ⟨hfz16_0, hfz16_1, hfz16_2, hfz16_3, -⟩ := frz_4 BK142.out
         go_wp2
         repeat (go_quiet (fail); try go_wp2)
         go_meet
         case rel => exact ⟨_, (true), (by first | rfl | (simp; done) | (simp [*]; done)), H', ⟨by first | omega | exact Nat.le_refl _⟩, ⟨by (with_reducible repeat (first | refine blk_drewN ?_ _ | refine blk_drew ?_ | refine blk_alloc ?_ _)); exact BK142.out⟩, ⟨by repeat (first | (with_reducible first | exact HB.out | apply below_alloc | apply pw_below_drewN | apply below_drew1 | refine below_set ?_ GE142.out) | exact HB.out)⟩⟩
        ·rw [if_neg c15] at H
         have c15b0 : decide (2147483647 < a0_2) = false := decide_eq_false c15
         clear c15
         have H' := Aside0.mk H
         clear H
         obtain ⟨hcz17_0, hcz17_1, hcz17_2, hcz17_3, -⟩ := cells_4 BK142.out trivial
         obtain ⟨hfz17_0, hfz17_1, hfz17_2, hfz17_3, -⟩ := frz_4 BK142.out
         go_wp2
         repeat (go_quiet (fail); try go_wp2)
         go_meet
         case rel => exact ⟨_, (false), (by first | rfl | (simp; done) | (simp [*]; done)), H', ⟨by first | omega | exact Nat.le_refl _⟩, ⟨by (with_reducible repeat (first | refine blk_drewN ?_ _ | refine blk_drew ?_ | refine blk_alloc ?_ _)); exact BK142.out⟩, ⟨by repeat (first | (with_reducible first | exact HB.out | apply below_alloc | apply pw_below_drewN | apply below_drew1 | refine below_set ?_ GE142.out) | exact HB.out)⟩⟩
      ·replace c12 := Bool.eq_false_iff.mpr c12
       subst c12
       have H1 : (if a0_2 = 0 then (if a0_2 < 0 then (spec_l6ok.j0 k (wrap64 (a2 - 1)) a3 true l0_0 false a0_2 l0_3) else (if a0_2 > 2147483647 then (spec_l6ok.j0 k (wrap64 (a2 - 1)) a3 true l0_0 false a0_2 l0_3) else (spec_l6ok.j0 k (wrap64 (a2 - 1)) a3 false l0_0 false a0_2 l0_3))) else (spec_l6ok.j0 k (wrap64 (a2 - 1)) a3 true l0_0 false a0_2 l0_3)) = some r := by rw [if_neg (show ¬ (false = true) by decide)] at H; exact H
       clear H
       have H := H1
       clear H1
       by_cases c18 : a0_2 = 0
       ·rw [if_pos c18] at H
        have c18b0 : (a0_2 == 0) = true := beq_iff_eq.mpr c18
        have c18b1 : (a0_2 != 0) = false := bne_eq_false_iff_eq.mpr c18
        clear c18
        by_cases c19 : a0_2 < 0
        ·rw [if_pos c19] at H
         have c19b0 : decide (a0_2 < 0) = true := decide_eq_true c19
         clear c19
         have H' := Aside0.mk H
         clear H
         obtain ⟨hcz20_0, hcz20_1, hcz20_2, hcz20_3, -⟩ := cells_4 BK142.out trivial
         obtain ⟨hfz20_0, hfz20_1, hfz20_2, hfz20_3, -⟩ := frz_4 BK142.out
         go_wp2
         repeat (go_quiet (fail); try go_wp2)
         go_meet
         case rel => exact ⟨_, (true), (by first | rfl | (simp; done) | (simp [*]; done)), H', ⟨by first | omega | exact Nat.le_refl _⟩, ⟨by (with_reducible repeat (first | refine blk_drewN ?_ _ | refine blk_drew ?_ | refine blk_alloc ?_ _)); exact BK142.out⟩, ⟨by repeat (first | (with_reducible first | exact HB.out | apply below_alloc | apply pw_below_drewN | apply below_drew1 | refine below_set ?_ GE142.out) | exact HB.out)⟩⟩
        ·rw [if_neg c19] at H
         have c19b0 : decide (a0_2 < 0) = false := decide_eq_false c19
         clear c19
         by_cases c21 : a0_2 > 2147483647
         ·rw [if_pos c21] at H
          have c21b0 : decide (2147483647 < a0_2) = true := decide_eq_true c21
          clear c21
          have H' := Aside0.mk H
          clear H
          obtain ⟨hcz22_0, hcz22_1, hcz22_2, hcz22_3, -⟩ := cells_4 BK142.out trivial
          obtain ⟨hfz22_0, hfz22_1, hfz22_2, hfz22_3, -⟩ := frz_4 BK142.out
          go_wp2
          repeat (go_quiet (fail); try go_wp2)
          go_meet
          case rel => exact ⟨_, (true), (by first | rfl | (simp; done) | (simp [*]; done)), H', ⟨by first | omega | exact Nat.le_refl _⟩, ⟨by (with_reducible repeat (first | refine blk_drewN ?_ _ | refine blk_drew ?_ | refine blk_alloc ?_ _)); exact BK142.out⟩, ⟨by repeat (first | (with_reducible first | exact HB.out | apply below_alloc | apply pw_below_drewN | apply below_drew1 | refine below_set ?_ GE142.out) | exact HB.out)⟩⟩
         ·rw [if_neg c21] at H
          have c21b0 : decide (2147483647 < a0_2) = false := decide_eq_false c21
          clear c21
          have H' := Aside0.mk H
          clear H
          obtain ⟨hcz23_0, hcz23_1, hcz23_2, hcz23_3, -⟩ := cells_4 BK142.out trivial
          obtain ⟨hfz23_0, hfz23_1, hfz23_2, hfz23_3, -⟩ := frz_4 BK142.out
          go_wp2
          repeat (go_quiet (fail); try go_wp2)
          go_meet
          case rel => exact ⟨_, (false), (by first | rfl | (simp; done) | (simp [*]; done)), H', ⟨by first | omega | exact Nat.le_refl _⟩, ⟨by (with_reducible repeat (first | refine blk_drewN ?_ _ | refine blk_drew ?_ | refine blk_alloc ?_ _)); exact BK142.out⟩, ⟨by repeat (first | (with_reducible first | exact HB.out | apply below_alloc | apply pw_below_drewN | apply below_drew1 | refine below_set ?_ GE142.out) | exact HB.out)⟩⟩
       ·rw [if_neg c18] at H
        have c18b0 : (a0_2 == 0) = false := beq_eq_false_iff_ne.mpr c18
        have c18b1 : (a0_2 != 0) = true := bne_iff_ne.mpr c18
        have H' := Aside0.mk H
        clear H
        obtain ⟨hcz24_0, hcz24_1, hcz24_2, hcz24_3, -⟩ := cells_4 BK142.out trivial
        obtain ⟨hfz24_0, hfz24_1, hfz24_2, hfz24_3, -⟩ := frz_4 BK142.out
        go_wp2
        repeat (go_quiet (fail); try go_wp2)
        go_meet
        case rel => exact ⟨_, (true), (by first | rfl | (simp; done) | (simp [*]; done)), H', ⟨by first | omega | exact Nat.le_refl _⟩, ⟨by (with_reducible repeat (first | refine blk_drewN ?_ _ | refine blk_drew ?_ | refine blk_alloc ?_ _)); exact BK142.out⟩, ⟨by repeat (first | (with_reducible first | exact HB.out | apply below_alloc | apply pw_below_drewN | apply below_drew1 | refine below_set ?_ GE142.out) | exact HB.out)⟩⟩
    ·replace c9 := Bool.eq_false_iff.mpr c9
     subst c9
     have H1 : (if (l0_0.length : Int) = 0 then (spec_l6ok.j0 k (wrap64 (a2 - 1)) a3 true l0_0 a0_1 a0_2 l0_3) else (if a0_1 = true then (if a0_2 < 0 then (spec_l6ok.j0 k (wrap64 (a2 - 1)) a3 true l0_0 a0_1 a0_2 l0_3) else (if a0_2 > 2147483647 then (spec_l6ok.j0 k (wrap64 (a2 - 1)) a3 true l0_0 a0_1 a0_2 l0_3) else (spec_l6ok.j0 k (wrap64 (a2 - 1)) a3 false l0_0 a0_1 a0_2 l0_3))) else (if a0_2 = 0 then (if a0_2 < 0 then (spec_l6ok.j0 k (wrap64 (a2 - 1)) a3 true l0_0 a0_1 a0_2 l0_3) else (if a0_2 > 2147483647 then (spec_l6ok.j0 k (wrap64 (a2 - 1)) a3 true l0_0 a0_1 a0_2 l0_3) else (spec_l6ok.j0 k (wrap64 (a2 - 1)) a3 (decide ((l0_3.length : Int) < 2)) l0_0 a0_1 a0_2 l0_3))) else (spec_l6ok.j0 k (wrap64 (a2 - 1)) a3 true l0_0 a0_1 a0_2 l0_3)))) = some r := by rw [if_neg (show ¬ (false = true) by decide)] at H; exact H
     clear H
     have H := H1
     clear H1
     by_cases c25 : (l0_0.length : Int) = 0
     ·rw [if_pos c25] at H
      have c25b0 : ((l0_0.length : Int) == 0) = true := beq_iff_eq.mpr c25
      have c25b1 : ((l0_0.length : Int) != 0) = false := bne_eq_false_iff_eq.mpr c25
      clear c25
      have H' := Aside0.mk H
      clear H
      obtain ⟨hcz26_0, hcz26_1, hcz26_2, hcz26_3, -⟩ := cells_4 BK142.out trivial
      obtain ⟨hfz26_0, hfz26_1, hfz26_2, hfz26_3, -⟩ := frz_4 BK142.out
      go_wp2
      repeat (go_quiet (fail); try go_wp2)
      go_meet
      case rel => exact ⟨_, (true), (by first | rfl | (simp; done) | (simp [*]; done)), H', ⟨by first | omega | exact Nat.le_refl _⟩, ⟨by (with_reducible repeat (first | refine blk_drewN ?_ _ | refine blk_drew ?_ | refine blk_alloc ?_ _)); exact BK142.out⟩, ⟨by repeat (first | (with_reducible first | exact HB.out | apply below_alloc | apply pw_below_drewN | apply below_drew1 | refine below_set ?_ GE142.out) | exact HB.out)⟩⟩
     ·rw [if_neg c25] at H
      have c25b0 : ((l0_0.length : Int) == 0) = false := beq_eq_false_iff_ne.mpr c25
      have c25b1 : ((l0_0.length : Int) != 0) = true := bne_iff_ne.mpr c25
      have c25b2 : ¬ (l0_0 = []) := fun h_ => c25 (by rw [h_]; rfl)
      by_cases c27 : a0_1 = true
      ·subst c27
       have H1 : (if a0_2 < 0 then (spec_l6ok.j0 k (wrap64 (a2 - 1)) a3 true l0_0 true a0_2 l0_3) else (if a0_2 > 2147483647 then (spec_l6ok.j0 k (wrap64 (a2 - 1)) a3 true l0_0 true a0_2 l0_3) else (spec_l6ok.j0 k (wrap64 (a2 - 1)) a3 false l0_0 true a0_2 l0_3))) = some r := by rw [if_pos rfl] at H; exact H
       clear H
       have H := H1
       clear H1
       by_cases c28 : a0_2 < 0
       ·rw [if_pos c28] at H
        have c28b0 : decide (a0_2 < 0) = true := decide_eq_true c28
        clear c28
        have H' := Aside0.mk H
        clear H
        obtain ⟨hcz29_0, hcz29_1, hcz29_2, hcz29_3, -⟩ := cells_4 BK142.out trivial
        obtain ⟨hfz29_0, hfz29_1, hfz29_2, hfz29_3, -⟩ := frz_4 BK142.out
        go_wp2
        repeat (go_quiet (fail); try go_wp2)
        go_meet
        case rel => exact ⟨_, (true), (by first | rfl | (simp; done) | (simp [*]; done)), H', ⟨by first | omega | exact Nat.le_refl _⟩, ⟨by (with_reducible repeat (first | refine blk_drewN ?_ _ | refine blk_drew ?_ | refine blk_alloc ?_ _)); exact BK142.out⟩, ⟨by repeat (first | (with_reducible first | exact HB.out | apply below_alloc | apply pw_below_drewN | apply below_drew1 | refine below_set ?_ GE142.out) | exact HB.out)⟩⟩
       ·rw [if_neg c28] at H
        have c28b0 : decide (a0_2 < 0) = false := decide_eq_false c28
        clear c28
        by_cases c30 : a0_2 > 2147483647
        ·rw [if_pos c30] at H
         have c30b0 : decide (2147483647 < a0_2) = true := decide_eq_true c30
         clear c30
         have H' := Aside0.mk H
         clear H
         obtain ⟨hcz31_0, hcz31_1, hcz31_2, hcz31_3, -⟩ := cells_4 BK142.out trivial
         obtain ⟨hfz31_0, hfz31_1, hfz31_2, hfz31_3, -⟩ := frz_4 BK142.out
         go_wp2
         repeat (go_quiet (fail); try go_wp2)
         go_meet
         case rel => exact ⟨_, (true), (by first | rfl | (simp; done) | (simp [*]; done)), H', ⟨by first | omega | exact Nat.le_refl _⟩, ⟨by (with_reducible repeat (first | refine blk_drewN ?_ _ | refine blk_drew ?_ | refine blk_alloc ?_ _)); exact BK142.out⟩, ⟨by repeat (first | (with_reducible first | exact HB.out | apply below_alloc | apply pw_below_drewN | apply below_drew1 | refine below_set ?_ GE142.out) | exact HB.out)⟩⟩
        ·rw [if_neg c30] at H
         have c30b0 : decide (2147483647 < a0_2) = false := decide_eq_false c30
         clear c30
         have H' := Aside0.mk H
         clear H
         obtain ⟨hcz32_0, hcz32_1, hcz32_2, hcz32_3, -⟩ := cells_4 BK142.out trivial
         obtain ⟨hfz32_0, hfz32_1, hfz32_2, hfz32_3, -⟩ := frz_4 BK142.out
         go_wp2
         repeat (go_quiet (fail); try go_wp2)
         go_meet
         case rel => exact ⟨_, (false), (by first | rfl | (simp; done) | (simp [*]; done)), H', ⟨by first | omega | exact Nat.le_refl _⟩, ⟨by (with_reducible repeat (first | refine blk_drewN ?_ _ | refine blk_drew ?_ | refine blk_alloc ?_ _)); exact BK142.out⟩, ⟨by repeat (first | (with_reducible first | exact HB.out | apply below_alloc | apply pw_below_drewN | apply below_drew1 | refine below_set ?_ GE142.out) | exact HB.out)⟩⟩
      ·replace c27 := Bool.eq_false_iff.mpr c27
       subst c27
       have H1 : (if a0_2 = 0 then (if a0_2 < 0 then (spec_l6ok.j0 k (wrap64 (a2 - 1)) a3 true l0_0 false a0_2 l0_3) else (if a0_2 > 2147483647 then (spec_l6ok.j0 k (wrap64 (a2 - 1)) a3 true l0_0 false a0_2 l0_3) else (spec_l6ok.j0 k (wrap64 (a2 - 1)) a3 (decide ((l0_3.length : Int) < 2)) l0_0 false a0_2 l0_3))) else (spec_l6ok.j0 k (wrap64 (a2 - 1)) a3 true l0_0 false a0_2 l0_3)) = some r := by rw [if_neg (show ¬ (false = true) by decide)] at H; exact H
       clear H
       have H := H1
       clear H1
       by_cases c33 : a0_2 = 0
       ·rw [if_pos c33] at H
        have c33b0 : (a0_2 == 0) = true := beq_iff_eq.mpr c33
        have c33b1 : (a0_2 != 0) = false := bne_eq_false_iff_eq.mpr c33
        clear c33
        by_cases c34 : a0_2 < 0
        ·rw [if_pos c34] at H
         have c34b0 : decide (a0_2 < 0) = true := decide_eq_true c34
         clear c34
         have H' := Aside0.mk H
         clear H
         obtain ⟨hcz35_0, hcz35_1, hcz35_2, hcz35_3, -⟩ := cells_4 BK142.out trivial
         obtain ⟨hfz35_0, hfz35_1, hfz35_2, hfz35_3, -⟩ := frz_4 BK142.out
         go_wp2
         repeat (go_quiet (fail); try go_wp2)
         go_meet
         case rel => exact ⟨_, (true), (by first | rfl | (simp; done) | (simp [*]; done)), H', ⟨by first | omega | exact Nat.le_refl _⟩, ⟨by (with_reducible repeat (first | refine blk_drewN ?_ _ | refine blk_drew ?_ | refine blk_alloc ?_ _)); exact BK142.out⟩, ⟨by repeat (first | (with_reducible first | exact HB.out | apply below_alloc | apply pw_below_drewN | apply below_drew1 | refine below_set ?_ GE142.out) | exact HB.out)⟩⟩
        ·rw [if_neg c34] at H
         have c34b0 : decide (a0_2 < 0) = false := decide_eq_false c34
         clear c34
         by_cases c36 : a0_2 > 2147483647
         ·rw [if_pos c36] at H
          have c36b0 : decide (2147483647 < a0_2) = true := decide_eq_true c36
          clear c36
          have H' := Aside0.mk H
          clear H
          obtain ⟨hcz37_0, hcz37_1, hcz37_2, hcz37_3, -⟩ := cells_4 BK142.out trivial
          obtain ⟨hfz37_0, hfz37_1, hfz37_2, hfz37_3, -⟩ := frz_4 BK142.out
          go_wp2
          repeat (go_quiet (fail); try go_wp2)
          go_meet
          case rel => exact ⟨_, (true), (by first | rfl | (simp; done) | (simp [*]; done)), H', ⟨by first | omega | exact Nat.le_refl _⟩, ⟨by (with_reducible repeat (first | refine blk_drewN ?_ _ | refine blk_drew ?_ | refine blk_alloc ?_ _)); exact BK142.out⟩, ⟨by repeat (first | (with_reducible first | exact HB.out | apply below_alloc | apply pw_below_drewN | apply below_drew1 | refine below_set ?_ GE142.out) | exact HB.out)⟩⟩
         ·rw [if_neg c36] at H
          have c36b0 : decide (2147483647 < a0_2) = false := decide_eq_false c36
          clear c36
          have H' := Aside0.mk H
          clear H
          obtain ⟨hcz38_0, hcz38_1, hcz38_2, hcz38_3, -⟩ := cells_4 BK142.out trivial
          obtain ⟨hfz38_0, hfz38_1, hfz38_2, hfz38_3, -⟩ := frz_4 BK142.out
          go_wp2
          repeat (go_quiet (fail); try go_wp2)
          go_meet
          case rel => exact ⟨_, (decide ((l0_3.length : Int) < 2)), (by first | rfl | (simp; done) | (simp [*]; done)), H', ⟨by first | omega | exact Nat.le_refl _⟩, ⟨by (with_reducible repeat (first | refine blk_drewN ?_ _ | refine blk_drew ?_ | refine blk_alloc ?_ _)); exact BK142.out⟩, ⟨by repeat (first | (with_reducible first | exact HB.out | apply below_alloc | apply pw_below_drewN | apply below_drew1 | refine below_set ?_ GE142.out) | exact HB.out)⟩⟩
       ·rw [if_neg c33] at H
        have c33b0 : (a0_2 == 0) = false := beq_eq_false_iff_ne.mpr c33
        have c33b1 : (a0_2 != 0) = true := bne_iff_ne.mpr c33
        have H' := Aside0.mk H
        clear H
        obtain ⟨hcz39_0, hcz39_1, hcz39_2, hcz39_3, -⟩ := cells_4 BK142.out trivial
        obtain ⟨hfz39_0, hfz39_1, hfz39_2, hfz39_3, -⟩ := frz_4 BK142.out
        go_wp2
        repeat (go_quiet (fail); try go_wp2)
        go_meet
        case rel => exact ⟨_, (true), (by first | rfl | (simp; done) | (simp [*]; done)), H', ⟨by first | omega | exact Nat.le_refl _⟩, ⟨by (with_reducible repeat (first | refine blk_drewN ?_ _ | refine blk_drew ?_ | refine blk_alloc ?_ _)); exact BK142.out⟩, ⟨by repeat (first | (with_reducible first | exact HB.out | apply below_alloc | apply pw_below_drewN | apply below_drew1 | refine below_set ?_ GE142.out) | exact HB.out)⟩⟩
 case rest =>
  clear HC5
  try clear c1; try clear c2; try clear p2; try clear c3; try clear c5; try clear p6; try clear c7; try clear c7b0; try clear c8; try clear c8b0; try clear c9; try clear c10; try clear c10b0; try clear c10b1; try clear c12; try clear c13; try clear c13b0; try clear c15; try clear c15b0; try clear c18; try clear c18b0; try clear c18b1; try clear c19; try clear c19b0; try clear c21; try clear c21b0; try clear c25; try clear c25b0; try clear c25b1; try clear c25b2; try clear c27; try clear c28; try clear c28b0; try clear c30; try clear c30b0; try clear c33; try clear c33b0; try clear c33b1; try clear c34; try clear c34b0; try clear c36; try clear c36b0; try clear hcz11_0; try clear hcz11_1; try clear hcz11_2; try clear hcz11_3; try clear hcz14_0; try clear hcz14_1; try clear hcz14_2; try clear hcz14_3; try clear hcz16_0; try clear hcz16_1; try clear hcz16_2; try clear hcz16_3; try clear hcz17_0; try clear hcz17_1; try clear hcz17_2; try clear hcz17_3; try clear hcz20_0; try clear hcz20_1; try clear hcz20_2; try clear hcz20_3; try clear hcz22_0; try clear hcz22_1; try clear hcz22_2; try clear hcz22_3; try clear hcz23_0; try clear hcz23_1; try clear hcz23_2; try clear hcz23_3; try clear hcz24_0; try clear hcz24_1; try clear hcz24_2; try clear hcz24_3; try clear hcz26_0; try clear hcz26_1; try clear hcz26_2; try clear hcz26_3; try clear hcz29_0; try clear hcz29_1; try clear hcz29_2; try clear hcz29_3; try clear hcz31_0; try clear hcz31_1; try clear hcz31_2; try clear hcz31_3; try clear hcz32_0; try clear hcz32_1; try clear hcz32_2; try clear hcz32_3; try clear hcz35_0; try clear hcz35_1; try clear hcz35_2; try clear hcz35_3; try clear hcz37_0; try clear hcz37_1; try clear hcz37_2; try clear hcz37_3; try clear hcz38_0; try clear hcz38_1; try clear hcz38_2; try clear hcz38_3; try clear hcz39_0; try clear hcz39_1; try clear hcz39_2; try clear hcz39_3; try clear hfz11_0; try clear hfz11_1; try clear hfz11_2; try clear hfz11_3; try clear hfz14_0; try clear hfz14_1; try clear hfz14_2; try clear hfz14_3; try clear hfz16_0; try clear hfz16_1; try clear hfz16_2; try clear hfz16_3; try clear hfz17_0; try clear hfz17_1; try clear hfz17_2; try clear hfz17_3; try clear hfz20_0; try clear hfz20_1; try clear hfz20_2; try clear hfz20_3; try clear hfz22_0; try clear hfz22_1; try clear hfz22_2; try clear hfz22_3; try clear hfz23_0; try clear hfz23_1; try clear hfz23_2; try clear hfz23_3; try clear hfz24_0; try clear hfz24_1; try clear hfz24_2; try clear hfz24_3; try clear hfz26_0; try clear hfz26_1; try clear hfz26_2; try clear hfz26_3; try clear hfz29_0; try clear hfz29_1; try clear hfz29_2; try clear hfz29_3; try clear hfz31_0; try clear hfz31_1; try clear hfz31_2; try clear hfz31_3; try clear hfz32_0; try clear hfz32_1; try clear hfz32_2; try clear hfz32_3; try clear hfz35_0; try clear hfz35_1; try clear hfz35_2; try clear hfz35_3; try clear hfz37_0; try clear hfz37_1; try clear hfz37_2; try clear hfz37_3; try clear hfz38_0; try clear hfz38_1; try clear hfz38_2; try clear hfz38_3; try clear hfz39_0; try clear hfz39_1; try clear hfz39_2; try clear hfz39_3
  obtain ⟨kq, x72_4, rfl, HA, HJ4, BK142, HB⟩ := hcut
  cases kq with
  | zero => exact absurd HA.out (by simp [spec_l6ok.j0])
  | succ kj4 =>
   have H := HA.out
   clear HA
   simp only [spec_l6ok.j0] at H
   by_cases c40 : x72_4 = true
   ·subst c40
    have H1 : (some (-1)) = some r := by rw [if_pos rfl] at H; exact H
    clear H
    have H := H1
    clear H1
    obtain rfl := Option.some.inj H
    go_wp2
    repeat (go_quiet (fail); try go_wp2)
    go_ret
    exact ⟨by first | rfl | (simp [errW_none, errW_some] <;> rfl) | (simp [*, errW_none, errW_some] <;> rfl), by repeat (first | (with_reducible first | exact HB.out | apply below_alloc | apply pw_below_drewN | apply below_drew1 | refine below_set ?_ GE142.out) | exact HB.out)⟩
   ·replace c40 := Bool.eq_false_iff.mpr c40
    subst c40
    have H1 : (spec_l6ok.l0 kj4 (wrap64 (a2 - 1)) a3 0 l0_0 a0_1 a0_2 l0_3) = some r := by rw [if_neg (show ¬ (false = true) by decide)] at H; exact H
    clear H
    have H := H1
    clear H1
    have H' := Aside0.mk H
    clear H
    go_wp2
    repeat (go_quiet (fail); try go_wp2)
    go_loopg [2, 9] kj4 (fun kq v2 v9 w' => ∃ (x2_2 : Int) (x9_2 : Int), v2 = .int .i64 x2_2 ∧ v9 = .int .i64 x9_2 ∧ Aside0 (spec_l6ok.l0 kq x2_2 a3 x9_2 l0_0 a0_1 a0_2 l0_3 = some r) ∧ Aside0 (kq ≤ kj4) ∧ Aside0 (w'.heap[gb142]? = some (.cells #[(.slice A0_0 l0_0.length c0_0), .bool a0_1, .int .i64 a0_2, (.slice A0_3 l0_3.length c0_3)] 30 (0, 0))) ∧ Aside0 (Below w.heap.size w w'))
    case atStart => exact ⟨((wrap64 (a2 - 1))), (0), (by first | rfl | (simp; done) | (simp [*]; done)), (by first | rfl | (simp; done) | (simp [*]; done)), H', ⟨Nat.le_refl _⟩, ⟨by (with_reducible repeat (first | refine blk_drewN ?_ _ | refine blk_drew ?_ | refine blk_alloc ?_ _)); exact BK142.out⟩, ⟨by repeat (first | (with_reducible first | exact HB.out | apply below_alloc | apply pw_below_drewN | apply below_drew1 | refine below_set ?_ GE142.out) | exact HB.out)⟩⟩
    case round =>
     clear H'
     try clear c1; try clear c2; try clear p2; try clear c3; try clear c4; try clear c5; try clear p6; try clear c7; try clear c7b0; try clear c8; try clear c8b0; try clear c9; try clear c10; try clear c10b0; try clear c10b1; try clear c12; try clear c13; try clear c13b0; try clear c15; try clear c15b0; try clear c18; try clear c18b0; try clear c18b1; try clear c19; try clear c19b0; try clear c21; try clear c21b0; try clear c25; try clear c25b0; try clear c25b1; try clear c25b2; try clear c27; try clear c28; try clear c28b0; try clear c30; try clear c30b0; try clear c33; try clear c33b0; try clear c33b1; try clear c34; try clear c34b0; try clear c36; try clear c36b0; try clear c40; try clear hcz11_0; try clear hcz11_1; try clear hcz11_2; try clear hcz11_3; try clear hcz14_0; try clear hcz14_1; try clear hcz14_2; try clear hcz14_3; try clear hcz16_0; try clear hcz16_1; try clear hcz16_2; try clear hcz16_3; try clear hcz17_0; try clear hcz17_1; try clear hcz17_2; try clear hcz17_3; try clear hcz20_0; try clear hcz20_1; try clear hcz20_2; try clear hcz20_3; try clear hcz22_0; try clear hcz22_1; try clear hcz22_2; try clear hcz22_3; try clear hcz23_0; try clear hcz23_1; try clear hcz23_2; try clear hcz23_3; try clear hcz24_0; try clear hcz24_1; try clear hcz24_2; try clear hcz24_3; try clear hcz26_0; try clear hcz26_1; try clear hcz26_2; try clear hcz26_3; try clear hcz29_0; try clear hcz29_1; try clear hcz29_2; try clear hcz29_3; try clear hcz31_0; try clear hcz31_1; try clear hcz31_2; try clear hcz31_3; try clear hcz32_0; try clear hcz32_1; try clear hcz32_2; try clear hcz32_3; try clear hcz35_0; try clear hcz35_1; try clear hcz35_2; try clear hcz35_3; try clear hcz37_0; try clear hcz37_1; try clear hcz37_2; try clear hcz37_3; try clear hcz38_0; try clear hcz38_1; try clear hcz38_2; try clear hcz38_3; try clear hcz39_0; try clear hcz39_1; try clear hcz39_2; try clear hcz39_3; try clear hfz11_0; try clear hfz11_1; try clear hfz11_2; try clear hfz11_3; try clear hfz14_0; try clear hfz14_1; try clear hfz14_2; try clear hfz14_3; try clear hfz16_0; try clear hfz16_1; try clear hfz16_2; try clear hfz16_3; try clear hfz17_0; try clear hfz17_1; try clear hfz17_2; try clear hfz17_3; try clear hfz20_0; try clear hfz20_1; try clear hfz20_2; try clear hfz20_3; try clear hfz22_0; try clear hfz22_1; try clear hfz22_2; try clear hfz22_3; try clear hfz23_0; try clear hfz23_1; try clear hfz23_2; try clear hfz23_3; try clear hfz24_0; try clear hfz24_1; try clear hfz24_2; try clear hfz24_3; try clear hfz26_0; try clear hfz26_1; try clear hfz26_2; try clear hfz26_3; try clear hfz29_0; try clear hfz29_1; try clear hfz29_2; try clear hfz29_3; try clear hfz31_0; try clear hfz31_1; try clear hfz31_2; try clear hfz31_3; try clear hfz32_0; try clear hfz32_1; try clear hfz32_2; try clear hfz32_3; try clear hfz35_0; try clear hfz35_1; try clear hfz35_2; try clear hfz35_3; try clear hfz37_0; try clear hfz37_1; try clear hfz37_2; try clear hfz37_3; try clear hfz38_0; try clear hfz38_1; try clear hfz38_2; try clear hfz38_3; try clear hfz39_0; try clear hfz39_1; try clear hfz39_2; try clear hfz39_3; try clear p2; try clear p6
     obtain ⟨x2_2, x9_2, rfl, rfl, HA, HK2, BK142, HB⟩ := hrel
     cases gk with
     | zero => exact absurd HA.out (by simp [spec_l6ok.l0])
     | succ k2 =>
      have H := HA.out
      clear HA
      simp only [spec_l6ok.l0] at H
      by_cases c41 : x9_2 < (l0_3.length : Int)
      ·rw [if_pos c41] at H
       have c41b0 : decide (x9_2 < (l0_3.length : Int)) = true := decide_eq_true c41
       clear c41
       by_cases c42 : 0 ≤ x9_2
       ·rw [if_pos c42] at H
        have c42b0 : decide (0 ≤ x9_2) = true := decide_eq_true c42
        clear c42
        have HC43 := Aside0.mk H
        clear H
        obtain ⟨hcz44_0, hcz44_1, hcz44_2, hcz44_3, -⟩ := cells_4 BK142.out trivial
        obtain ⟨hfz44_0, hfz44_1, hfz44_2, hfz44_3, -⟩ := frz_4 BK142.out
        have p143 : 0 ≤ (x9_2 : Int) := od
        have q143 : x9_2 < (l0_3.length : Int) := od
        obtain ⟨ad143, A143_0, c143_0, A143_3, c143_3, e143, hx143_0, hx143_1, hx143_2, hx143_3, hl143_0, hi143_0, hl143_3, hi143_3⟩ := at_T30 HR0_3.out x9_2 p143 q143
        cases e143
        replace hx143_0 := hxb HB hx143_0
        replace hx143_1 := hxb HB hx143_1
        replace hx143_2 := hxb HB hx143_2
        replace hx143_3 := hxb HB hx143_3
        have HR143_0 := Aside0.mk hi143_0
        have HC143_0 := Aside0.mk hl143_0
        clear hi143_0 hl143_0
        have HR143_3 := Aside0.mk hi143_3
        have HC143_3 := Aside0.mk hl143_3
        clear hi143_3 hl143_3
        replace p143 := eq_true p143
        replace q143 := eq_true q143
        go_upto_region 8 with (first | ((with_reducible refine gate_dst (N := 10) rfl ?_); (try (refine gate_guard (by rfl) ?_; dsimp only)); refine bx_ 10 #[.slice none 0 0, .bool false, .int .i64 0, .slice none 0 0] 30 (h := ?_); intro gb144 hg w45 hbox hb; have BK144 := Aside0.mk (hbox); have GW144 := Aside0.mk ((by rw [hg]; exact (below_size bel) : w.heap.size ≤ gb144)); have GE144 := Aside0.mk ((by rw [hg]; exact (below_size bel) : w.heap.size ≤ gb144)); have NB142_144 := Aside0.mk ((by rw [hg]; exact Nat.ne_of_lt (blt BK142) : gb142 ≠ gb144)); have NB144_142 := Aside0.mk ((by rw [hg]; exact Nat.ne_of_gt (blt BK142) : gb144 ≠ gb142)); replace BK142 := Aside0.mk (blb BK142 hb); replace HB := Aside0.mk (below_step bel hb); clear hb hbox hg; have hnb46 := NB144_142.out; have hnc46 := NB142_144.out; obtain ⟨hcz47_0, hcz47_1, hcz47_2, hcz47_3, -⟩ := cells_4 BK144.out trivial; obtain ⟨hfz47_0, hfz47_1, hfz47_2, hfz47_3, -⟩ := frz_4 BK144.out))
        repeat (go_quiet (first | ((with_reducible refine gate_dst (N := 10) rfl ?_); (try (refine gate_guard (by rfl) ?_; dsimp only)); refine bx_ 10 #[.slice none 0 0, .bool false, .int .i64 0, .slice none 0 0] 30 (h := ?_); intro gb144 hg w45 hbox hb; have BK144 := Aside0.mk (hbox); have GW144 := Aside0.mk ((by rw [hg]; exact (below_size bel) : w.heap.size ≤ gb144)); have GE144 := Aside0.mk ((by rw [hg]; exact (below_size bel) : w.heap.size ≤ gb144)); have NB142_144 := Aside0.mk ((by rw [hg]; exact Nat.ne_of_lt (blt BK142) : gb142 ≠ gb144)); have NB144_142 := Aside0.mk ((by rw [hg]; exact Nat.ne_of_gt (blt BK142) : gb144 ≠ gb142)); replace BK142 := Aside0.mk (blb BK142 hb); replace HB := Aside0.mk (below_step bel hb); clear hb hbox hg; have hnb46 := NB144_142.out; have hnc46 := NB142_144.out; obtain ⟨hcz47_0, hcz47_1, hcz47_2, hcz47_3, -⟩ := cells_4 BK144.out trivial; obtain ⟨hfz47_0, hfz47_1, hfz47_2, hfz47_3, -⟩ := frz_4 BK144.out)); go_upto_region 8 with (first | ((with_reducible refine gate_dst (N := 10) rfl ?_); (try (refine gate_guard (by rfl) ?_; dsimp only)); refine bx_ 10 #[.slice none 0 0, .bool false, .int .i64 0, .slice none 0 0] 30 (h := ?_); intro gb144 hg w45 hbox hb; have BK144 := Aside0.mk (hbox); have GW144 := Aside0.mk ((by rw [hg]; exact (below_size bel) : w.heap.size ≤ gb144)); have GE144 := Aside0.mk ((by rw [hg]; exact (below_size bel) : w.heap.size ≤ gb144)); have NB142_144 := Aside0.mk ((by rw [hg]; exact Nat.ne_of_lt (blt BK142) : gb142 ≠ gb144)); have NB144_142 := Aside0.mk ((by rw [hg]; exact Nat.ne_of_gt (blt BK142) : gb144 ≠ gb142)); replace BK142 := Aside0.mk (blb BK142 hb); replace HB := Aside0.mk (below_step bel hb); clear hb hbox hg; have hnb46 := NB144_142.out; have hnc46 := NB142_144.out; obtain ⟨hcz47_0, hcz47_1, hcz47_2, hcz47_3, -⟩ := cells_4 BK144.out trivial; obtain ⟨hfz47_0, hfz47_1, hfz47_2, hfz47_3, -⟩ := frz_4 BK144.out)))
        (try simp only [Act.put, List.setIfInBounds_toArray, List.set_cons_zero, List.set_cons_succ])
        go_cut [108] (fun v108 wc => ∃ (kq : Nat) (x108_42 : Bool), v108 = .bool x108_42 ∧ Aside0 (spec_l6ok.j2 kq x2_2 a3 x9_2 x108_42 l0_0 a0_1 a0_2 l0_3 ((rd_T30 l0_3 x9_2).f0) ((rd_T30 l0_3 x9_2).f1) ((rd_T30 l0_3 x9_2).f2) ((rd_T30 l0_3 x9_2).f3) = some r) ∧ Aside0 (kq ≤ k2) ∧ Aside0 (wc.heap[gb142]? = some (.cells #[(.slice A0_0 l0_0.length c0_0), .bool a0_1, .int .i64 a0_2, (.slice (some ad143) l0_3.length c0_3)] 30 (0, 0))) ∧ Aside0 (wc.heap[gb144]? = some (.cells #[(.slice A143_0 ((rd_T30 l0_3 x9_2).f0).length c143_0), .bool ((rd_T30 l0_3 x9_2).f1), .int .i64 ((rd_T30 l0_3 x9_2).f2), (.slice A143_3 ((rd_T30 l0_3 x9_2).f3).length c143_3)] 30 (0, 0))) ∧ Aside0 (Below w.heap.size w wc))
        case first =>
         have H := HC43.out
         clear HC43
         by_cases c48 : (((rd_T30 l0_3 x9_2).f0).length : Int) = 0
         ·rw [if_pos c48] at H
          have c48b0 : ((((rd_T30 l0_3 x9_2).f0).length : Int) == 0) = true := beq_iff_eq.mpr c48
          have c48b1 : ((((rd_T30 l0_3 x9_2).f0).length : Int) != 0) = false := bne_eq_false_iff_eq.mpr c48
          clear c48
          (first | rw [c48b0] | (simp only [i64_w, i32_w]; rw [c48b0]) | skip)
          have H' := Aside0.mk H
          clear H
          have hnb49 := NB144_142.out
          have hnc49 := NB142_144.out
          obtain ⟨hcz50_0, hcz50_1, hcz50_2, hcz50_3, -⟩ := cells_4 BK144.out trivial
          obtain ⟨hfz50_0, hfz50_1, hfz50_2, hfz50_3, -⟩ := frz_4 BK144.out
          go_wp2
          repeat (go_quiet (fail); try go_wp2)
          go_meet
          case rel => exact ⟨_, (true), (by first | rfl | (simp; done) | (simp [*]; done)), H', ⟨by have := HJ4.out; have := HK2.out; first | omega | exact Nat.le_refl _⟩, ⟨by (with_reducible repeat (first | refine blk_drewN ?_ _ | refine blk_drew ?_ | refine blk_alloc ?_ _)); refine blk_far ?_ NB142_144.out _; (with_reducible repeat (first | refine blk_drewN ?_ _ | refine blk_drew ?_ | refine blk_alloc ?_ _)); refine blk_far ?_ NB142_144.out _; (with_reducible repeat (first | refine blk_drewN ?_ _ | refine blk_drew ?_ | refine blk_alloc ?_ _)); refine blk_far ?_ NB142_144.out _; (with_reducible repeat (first | refine blk_drewN ?_ _ | refine blk_drew ?_ | refine blk_alloc ?_ _)); refine blk_far ?_ NB142_144.out _; (with_reducible repeat (first | refine blk_drewN ?_ _ | refine blk_drew ?_ | refine blk_alloc ?_ _)); exact BK142.out⟩, ⟨by (with_reducible repeat (first | refine blk_drewN ?_ _ | refine blk_drew ?_ | refine blk_alloc ?_ _)); refine blk_put (cs := #[.slice A143_0 ((rd_T30 l0_3 x9_2).f0).length c143_0, .bool ((rd_T30 l0_3 x9_2).f1), .int .i64 ((rd_T30 l0_3 x9_2).f2), .slice none 0 0]) ?_ 3 _ rfl; (with_reducible repeat (first | refine blk_drewN ?_ _ | refine blk_drew ?_ | refine blk_alloc ?_ _)); refine blk_put (cs := #[.slice A143_0 ((rd_T30 l0_3 x9_2).f0).length c143_0, .bool ((rd_T30 l0_3 x9_2).f1), .int .i64 0, .slice none 0 0]) ?_ 2 _ rfl; (with_reducible repeat (first | refine blk_drewN ?_ _ | refine blk_drew ?_ | refine blk_alloc ?_ _)); refine blk_put (cs := #[.slice A143_0 ((rd_T30 l0_3 x9_2).f0).length c143_0, .bool false, .int .i64 0, .slice none 0 0]) ?_ 1 _ rfl; (with_reducible repeat (first | refine blk_drewN ?_ _ | refine blk_drew ?_ | refine blk_alloc ?_ _)); refine blk_put (cs := #[.slice none 0 0, .bool false, .int .i64 0, .slice none 0 0]) ?_ 0 _ rfl; (with_reducible repeat (first | refine blk_drewN ?_ _ | refine blk_drew ?_ | refine blk_alloc ?_ _)); exact BK144.out⟩, ⟨by repeat (first | (with_reducible first | exact HB.out | apply below_alloc | apply pw_below_drewN | apply below_drew1 | refine below_set ?_ GE142.out | refine below_set ?_ GE144.out) | exact HB.out)⟩⟩
         ·rw [if_neg c48] at H
          have c48b0 : ((((rd_T30 l0_3 x9_2).f0).length : Int) == 0) = false := beq_eq_false_iff_ne.mpr c48
          have c48b1 : ((((rd_T30 l0_3 x9_2).f0).length : Int) != 0) = true := bne_iff_ne.mpr c48
          have c48b2 : ¬ (((rd_T30 l0_3 x9_2).f0) = []) := fun h_ => c48 (by rw [h_]; rfl)
          (first | rw [c48b0] | (simp only [i64_w, i32_w]; rw [c48b0]) | skip)
          by_cases c51 : x9_2 > 0
          ·rw [if_pos c51] at H
           have c51b0 : decide (0 < x9_2) = true := decide_eq_true c51
           clear c51
           obtain ⟨ji52, hji52⟩ : ∃ j_ : Int, (wrap64 (x9_2 - 1)) = j_ := ⟨_, rfl⟩
           replace H : (if 0 ≤ (ji52) then (if (ji52) < (l0_3.length : Int) then (if 0 < (((rd_T30 l0_3 (ji52)).f0).length : Int) then (if 0 < (((rd_T30 l0_3 x9_2).f0).length : Int) then (spec_l6ok.j2 k2 x2_2 a3 x9_2 (decide ((rd ((rd_T30 l0_3 (ji52)).f0) 0) ≥ (rd ((rd_T30 l0_3 x9_2).f0) 0))) l0_0 a0_1 a0_2 l0_3 ((rd_T30 l0_3 x9_2).f0) ((rd_T30 l0_3 x9_2).f1) ((rd_T30 l0_3 x9_2).f2) ((rd_T30 l0_3 x9_2).f3)) else (none)) else (none)) else (none)) else (none)) = some r := by first | (rw [hji52] at H; exact H) | (simp only [hji52] at H ⊢; exact H)
           have hji52w : (IntKind.i64.wrap (x9_2 - 1)) = ji52 := (i64_w _).trans hji52
           by_cases c53 : 0 ≤ (ji52)
           ·rw [if_pos c53] at H
            have c53b0 : decide (0 ≤ (ji52)) = true := decide_eq_true c53
            clear c53
            by_cases c54 : (ji52) < (l0_3.length : Int)
            ·rw [if_pos c54] at H
             have c54b0 : decide ((ji52) < (l0_3.length : Int)) = true := decide_eq_true c54
             clear c54
             by_cases c55 : 0 < (((rd_T30 l0_3 (ji52)).f0).length : Int)
             ·rw [if_pos c55] at H
              have c55b0 : decide (0 < (((rd_T30 l0_3 (ji52)).f0).length : Int)) = true := decide_eq_true c55
              have c55b1 : decide (0 < ((rd_T30 l0_3 (ji52)).f0).length) = true := decide_eq_true (by omega)
              clear c55
              by_cases c56 : 0 < (((rd_T30 l0_3 x9_2).f0).length : Int)
              ·rw [if_pos c56] at H
               have c56b0 : decide (0 < (((rd_T30 l0_3 x9_2).f0).length : Int)) = true := decide_eq_true c56
               have c56b1 : decide (0 < ((rd_T30 l0_3 x9_2).f0).length) = true := decide_eq_true (by omega)
               clear c56
               have H' := Aside0.mk H
               clear H
               have hnb57 := NB144_142.out
               have hnc57 := NB142_144.out
               obtain ⟨hcz58_0, hcz58_1, hcz58_2, hcz58_3, -⟩ := cells_4 BK144.out trivial
               obtain ⟨hfz58_0, hfz58_1, hfz58_2, hfz58_3, -⟩ := frz_4 BK144.out
               obtain ⟨hcz59_0, hcz59_1, hcz59_2, hcz59_3, -⟩ := cells_4 BK142.out trivial
               obtain ⟨hfz59_0, hfz59_1, hfz59_2, hfz59_3, -⟩ := frz_4 BK142.out
               have p145 : 0 ≤ ((ji52) : Int) := od
               have q145 : (ji52) < (l0_3.length : Int) := od
               obtain ⟨ad145, A145_0, c145_0, A145_3, c145_3, e145, hx145_0, hx145_1, hx145_2, hx145_3, hl145_0, hi145_0, hl145_3, hi145_3⟩ := at_T30 HR0_3.out (ji52) p145 q145
               obtain rfl : ad143 = ad145 := (by injection e145)
               have hn145_0 : ad143.block ≠ gb144 := Nat.ne_of_lt (Nat.lt_of_lt_of_le (by have := World.block_lt_of_cell? _ _ hx145_0; first | rwa [add_block] at this | exact this) GW144.out)
               have hn145_1 : ad143.block ≠ gb144 := Nat.ne_of_lt (Nat.lt_of_lt_of_le (by have := World.block_lt_of_cell? _ _ hx145_0; first | rwa [add_block] at this | exact this) GW144.out)
               have hn145_2 : ad143.block ≠ gb144 := Nat.ne_of_lt (Nat.lt_of_lt_of_le (by have := World.block_lt_of_cell? _ _ hx145_0; first | rwa [add_block] at this | exact this) GW144.out)
               have hn145_3 : ad143.block ≠ gb144 := Nat.ne_of_lt (Nat.lt_of_lt_of_le (by have := World.block_lt_of_cell? _ _ hx145_0; first | rwa [add_block] at this | exact this) GW144.out)
               replace hx145_0 := hxb HB hx145_0
               replace hx145_1 := hxb HB hx145_1
               replace hx145_2 := hxb HB hx145_2
               replace hx145_3 := hxb HB hx145_3
               have HR145_0 := Aside0.mk hi145_0
               have HC145_0 := Aside0.mk hl145_0
               clear hi145_0 hl145_0
               have HR145_3 := Aside0.mk hi145_3
               have HC145_3 := Aside0.mk hl145_3
               clear hi145_3 hl145_3
               replace hx145_0 := (cell_far (p := ⟨gb144, 0, none⟩) (by first | (rw [add_block]; exact hn145_0) | (show (Addr.add _ _).block ≠ _; rw [add_block]; exact hn145_0) | exact hn145_0) (.slice A143_0 ((rd_T30 l0_3 x9_2).f0).length c143_0)).trans hx145_0
               replace hx145_1 := (cell_far (p := ⟨gb144, 0, none⟩) (by first | (rw [add_block]; exact hn145_0) | (show (Addr.add _ _).block ≠ _; rw [add_block]; exact hn145_0) | exact hn145_0) (.slice A143_0 ((rd_T30 l0_3 x9_2).f0).length c143_0)).trans hx145_1
               replace hx145_2 := (cell_far (p := ⟨gb144, 0, none⟩) (by first | (rw [add_block]; exact hn145_0) | (show (Addr.add _ _).block ≠ _; rw [add_block]; exact hn145_0) | exact hn145_0) (.slice A143_0 ((rd_T30 l0_3 x9_2).f0).length c143_0)).trans hx145_2
               replace hx145_3 := (cell_far (p := ⟨gb144, 0, none⟩) (by first | (rw [add_block]; exact hn145_0) | (show (Addr.add _ _).block ≠ _; rw [add_block]; exact hn145_0) | exact hn145_0) (.slice A143_0 ((rd_T30 l0_3 x9_2).f0).length c143_0)).trans hx145_3
               replace hx145_0 := (cell_far (p := ⟨gb144, 1, none⟩) (by first | (rw [add_block]; exact hn145_1) | (show (Addr.add _ _).block ≠ _; rw [add_block]; exact hn145_1) | exact hn145_1) (.bool ((rd_T30 l0_3 x9_2).f1))).trans hx145_0
               replace hx145_1 := (cell_far (p := ⟨gb144, 1, none⟩) (by first | (rw [add_block]; exact hn145_1) | (show (Addr.add _ _).block ≠ _; rw [add_block]; exact hn145_1) | exact hn145_1) (.bool ((rd_T30 l0_3 x9_2).f1))).trans hx145_1
               replace hx145_2 := (cell_far (p := ⟨gb144, 1, none⟩) (by first | (rw [add_block]; exact hn145_1) | (show (Addr.add _ _).block ≠ _; rw [add_block]; exact hn145_1) | exact hn145_1) (.bool ((rd_T30 l0_3 x9_2).f1))).trans hx145_2
               replace hx145_3 := (cell_far (p := ⟨gb144, 1, none⟩) (by first | (rw [add_block]; exact hn145_1) | (show (Addr.add _ _).block ≠ _; rw [add_block]; exact hn145_1) | exact hn145_1) (.bool ((rd_T30 l0_3 x9_2).f1))).trans hx145_3
               replace hx145_0 := (cell_far (p := ⟨gb144, 2, none⟩) (by first | (rw [add_block]; exact hn145_2) | (show (Addr.add _ _).block ≠ _; rw [add_block]; exact hn145_2) | exact hn145_2) (.int .i64 ((rd_T30 l0_3 x9_2).f2))).trans hx145_0
               replace hx145_1 := (cell_far (p := ⟨gb144, 2, none⟩) (by first | (rw [add_block]; exact hn145_2) | (show (Addr.add _ _).block ≠ _; rw [add_block]; exact hn145_2) | exact hn145_2) (.int .i64 ((rd_T30 l0_3 x9_2).f2))).trans hx145_1
               replace hx145_2 := (cell_far (p := ⟨gb144, 2, none⟩) (by first | (rw [add_block]; exact hn145_2) | (show (Addr.add _ _).block ≠ _; rw [add_block]; exact hn145_2) | exact hn145_2) (.int .i64 ((rd_T30 l0_3 x9_2).f2))).trans hx145_2
               replace hx145_3 := (cell_far (p := ⟨gb144, 2, none⟩) (by first | (rw [add_block]; exact hn145_2) | (show (Addr.add _ _).block ≠ _; rw [add_block]; exact hn145_2) | exact hn145_2) (.int .i64 ((rd_T30 l0_3 x9_2).f2))).trans hx145_3
               replace hx145_0 := (cell_far (p := ⟨gb144, 3, none⟩) (by first | (rw [add_block]; exact hn145_3) | (show (Addr.add _ _).block ≠ _; rw [add_block]; exact hn145_3) | exact hn145_3) (.slice A143_3 ((rd_T30 l0_3 x9_2).f3).length c143_3)).trans hx145_0
               replace hx145_1 := (cell_far (p := ⟨gb144, 3, none⟩) (by first | (rw [add_block]; exact hn145_3) | (show (Addr.add _ _).block ≠ _; rw [add_block]; exact hn145_3) | exact hn145_3) (.slice A143_3 ((rd_T30 l0_3 x9_2).f3).length c143_3)).trans hx145_1
               replace hx145_2 := (cell_far (p := ⟨gb144, 3, none⟩) (by first | (rw [add_block]; exact hn145_3) | (show (Addr.add _ _).block ≠ _; rw [add_block]; exact hn145_3) | exact hn145_3) (.slice A143_3 ((rd_T30 l0_3 x9_2).f3).length c143_3)).trans hx145_2
               replace hx145_3 := (cell_far (p := ⟨gb144, 3, none⟩) (by first | (rw [add_block]; exact hn145_3) | (show (Addr.add _ _).block ≠ _; rw [add_block]; exact hn145_3) | exact hn145_3) (.slice A143_3 ((rd_T30 l0_3 x9_2).f3).length c143_3)).trans hx145_3
               (try have hy145_0 := fun (n_ : Nat) => (show ((((((w45.drewN n_).setCell ⟨gb144, 0, none⟩ (.slice A143_0 ((rd_T30 l0_3 x9_2).f0).length c143_0)).setCell ⟨gb144, 1, none⟩ (.bool ((rd_T30 l0_3 x9_2).f1))).setCell ⟨gb144, 2, none⟩ (.int .i64 ((rd_T30 l0_3 x9_2).f2))).setCell ⟨gb144, 3, none⟩ (.slice A143_3 ((rd_T30 l0_3 x9_2).f3).length c143_3))).cell? _ = some _ from hx145_0))
               (try have hy145_1 := fun (n_ : Nat) => (show ((((((w45.drewN n_).setCell ⟨gb144, 0, none⟩ (.slice A143_0 ((rd_T30 l0_3 x9_2).f0).length c143_0)).setCell ⟨gb144, 1, none⟩ (.bool ((rd_T30 l0_3 x9_2).f1))).setCell ⟨gb144, 2, none⟩ (.int .i64 ((rd_T30 l0_3 x9_2).f2))).setCell ⟨gb144, 3, none⟩ (.slice A143_3 ((rd_T30 l0_3 x9_2).f3).length c143_3))).cell? _ = some _ from hx145_1))
               (try have hy145_2 := fun (n_ : Nat) => (show ((((((w45.drewN n_).setCell ⟨gb144, 0, none⟩ (.slice A143_0 ((rd_T30 l0_3 x9_2).f0).length c143_0)).setCell ⟨gb144, 1, none⟩ (.bool ((rd_T30 l0_3 x9_2).f1))).setCell ⟨gb144, 2, none⟩ (.int .i64 ((rd_T30 l0_3 x9_2).f2))).setCell ⟨gb144, 3, none⟩ (.slice A143_3 ((rd_T30 l0_3 x9_2).f3).length c143_3))).cell? _ = some _ from hx145_2))
               (try have hy145_3 := fun (n_ : Nat) => (show ((((((w45.drewN n_).setCell ⟨gb144, 0, none⟩ (.slice A143_0 ((rd_T30 l0_3 x9_2).f0).length c143_0)).setCell ⟨gb144, 1, none⟩ (.bool ((rd_T30 l0_3 x9_2).f1))).setCell ⟨gb144, 2, none⟩ (.int .i64 ((rd_T30 l0_3 x9_2).f2))).setCell ⟨gb144, 3, none⟩ (.slice A143_3 ((rd_T30 l0_3 x9_2).f3).length c143_3))).cell? _ = some _ from hx145_3))
               clear hn145_0
               clear hn145_1
               clear hn145_2
               clear hn145_3
               replace p145 := eq_true p145
               replace q145 := eq_true q145
               have p146 : 0 ≤ (0 : Int) := (by omega)
               have q146 : 0 < (((rd_T30 l0_3 (ji52)).f0).length : Int) := od
               obtain ⟨ad146, e146, hx146_0⟩ := Kd.at_int HR145_0.out 0 p146 q146
               cases e146
               have qi146 : (0 < ((rd_T30 l0_3 (ji52)).f0).length) = True := eq_true (by omega)
               (try rw [show ((0 : Int)).toNat = 0 from rfl] at hx146_0)
               (try rw [Addr.add_zero'] at hx146_0)
               have hn146_0 : ad146.block ≠ gb144 := Nat.ne_of_lt (Nat.lt_of_lt_of_le (by have := World.block_lt_of_cell? _ _ hx146_0; first | rwa [add_block] at this | exact this) GW144.out)
               have hn146_1 : ad146.block ≠ gb144 := Nat.ne_of_lt (Nat.lt_of_lt_of_le (by have := World.block_lt_of_cell? _ _ hx146_0; first | rwa [add_block] at this | exact this) GW144.out)
               have hn146_2 : ad146.block ≠ gb144 := Nat.ne_of_lt (Nat.lt_of_lt_of_le (by have := World.block_lt_of_cell? _ _ hx146_0; first | rwa [add_block] at this | exact this) GW144.out)
               have hn146_3 : ad146.block ≠ gb144 := Nat.ne_of_lt (Nat.lt_of_lt_of_le (by have := World.block_lt_of_cell? _ _ hx146_0; first | rwa [add_block] at this | exact this) GW144.out)
               replace hx146_0 := hxb HB hx146_0
               replace hx146_0 := (cell_far (p := ⟨gb144, 0, none⟩) (by first | (rw [add_block]; exact hn146_0) | (show (Addr.add _ _).block ≠ _; rw [add_block]; exact hn146_0) | exact hn146_0) (.slice A143_0 ((rd_T30 l0_3 x9_2).f0).length c143_0)).trans hx146_0
               replace hx146_0 := (cell_far (p := ⟨gb144, 1, none⟩) (by first | (rw [add_block]; exact hn146_1) | (show (Addr.add _ _).block ≠ _; rw [add_block]; exact hn146_1) | exact hn146_1) (.bool ((rd_T30 l0_3 x9_2).f1))).trans hx146_0
               replace hx146_0 := (cell_far (p := ⟨gb144, 2, none⟩) (by first | (rw [add_block]; exact hn146_2) | (show (Addr.add _ _).block ≠ _; rw [add_block]; exact hn146_2) | exact hn146_2) (.int .i64 ((rd_T30 l0_3 x9_2).f2))).trans hx146_0
               replace hx146_0 := (cell_far (p := ⟨gb144, 3, none⟩) (by first | (rw [add_block]; exact hn146_3) | (show (Addr.add _ _).block ≠ _; rw [add_block]; exact hn146_3) | exact hn146_3) (.slice A143_3 ((rd_T30 l0_3 x9_2).f3).length c143_3)).trans hx146_0
               (try have hy146_0 := fun (n_ : Nat) => (show ((((((w45.drewN n_).setCell ⟨gb144, 0, none⟩ (.slice A143_0 ((rd_T30 l0_3 x9_2).f0).length c143_0)).setCell ⟨gb144, 1, none⟩ (.bool ((rd_T30 l0_3 x9_2).f1))).setCell ⟨gb144, 2, none⟩ (.int .i64 ((rd_T30 l0_3 x9_2).f2))).setCell ⟨gb144, 3, none⟩ (.slice A143_3 ((rd_T30 l0_3 x9_2).f3).length c143_3))).cell? _ = some _ from hx146_0))
               clear hn146_0
               clear hn146_1
               clear hn146_2
               clear hn146_3
               replace p146 := eq_true p146
               replace q146 := eq_true q146
               have p147 : 0 ≤ (0 : Int) := (by omega)
               have q147 : 0 < (((rd_T30 l0_3 x9_2).f0).length : Int) := od
               obtain ⟨ad147, e147, hx147_0⟩ := Kd.at_int HR143_0.out 0 p147 q147
               cases e147
               have qi147 : (0 < ((rd_T30 l0_3 x9_2).f0).length) = True := eq_true (by omega)
               (try rw [show ((0 : Int)).toNat = 0 from rfl] at hx147_0)
               (try rw [Addr.add_zero'] at hx147_0)
               have hn147_0 : ad147.block ≠ gb144 := Nat.ne_of_lt (Nat.lt_of_lt_of_le (by have := World.block_lt_of_cell? _ _ hx147_0; first | rwa [add_block] at this | exact this) GW144.out)
               have hn147_1 : ad147.block ≠ gb144 := Nat.ne_of_lt (Nat.lt_of_lt_of_le (by have := World.block_lt_of_cell? _ _ hx147_0; first | rwa [add_block] at this | exact this) GW144.out)
               have hn147_2 : ad147.block ≠ gb144 := Nat.ne_of_lt (Nat.lt_of_lt_of_le (by have := World.block_lt_of_cell? _ _ hx147_0; first | rwa [add_block] at this | exact this) GW144.out)
               have hn147_3 : ad147.block ≠ gb144 := Nat.ne_of_lt (Nat.lt_of_lt_of_le (by have := World.block_lt_of_cell? _ _ hx147_0; first | rwa [add_block] at this | exact this) GW144.out)
               replace hx147_0 := hxb HB hx147_0
               replace hx147_0 := (cell_far (p := ⟨gb144, 0, none⟩) (by first | (rw [add_block]; exact hn147_0) | (show (Addr.add _ _).block ≠ _; rw [add_block]; exact hn147_0) | exact hn147_0) (.slice (some ad147) ((rd_T30 l0_3 x9_2).f0).length c143_0)).trans hx147_0
               replace hx147_0 := (cell_far (p := ⟨gb144, 1, none⟩) (by first | (rw [add_block]; exact hn147_1) | (show (Addr.add _ _).block ≠ _; rw [add_block]; exact hn147_1) | exact hn147_1) (.bool ((rd_T30 l0_3 x9_2).f1))).trans hx147_0
               replace hx147_0 := (cell_far (p := ⟨gb144, 2, none⟩) (by first | (rw [add_block]; exact hn147_2) | (show (Addr.add _ _).block ≠ _; rw [add_block]; exact hn147_2) | exact hn147_2) (.int .i64 ((rd_T30 l0_3 x9_2).f2))).trans hx147_0
               replace hx147_0 := (cell_far (p := ⟨gb144, 3, none⟩) (by first | (rw [add_block]; exact hn147_3) | (show (Addr.add _ _).block ≠ _; rw [add_block]; exact hn147_3) | exact hn147_3) (.slice A143_3 ((rd_T30 l0_3 x9_2).f3).length c143_3)).trans hx147_0
               (try have hy147_0 := fun (n_ : Nat) => (show ((((((w45.drewN n_).setCell ⟨gb144, 0, none⟩ (.slice (some ad147) ((rd_T30 l0_3 x9_2).f0).length c143_0)).setCell ⟨gb144, 1, none⟩ (.bool ((rd_T30 l0_3 x9_2).f1))).setCell ⟨gb144, 2, none⟩ (.int .i64 ((rd_T30 l0_3 x9_2).f2))).setCell ⟨gb144, 3, none⟩ (.slice A143_3 ((rd_T30 l0_3 x9_2).f3).length c143_3))).cell? _ = some _ from hx147_0))
               clear hn147_0
               clear hn147_1
               clear hn147_2
               clear hn147_3
               replace p147 := eq_true p147
               replace q147 := eq_true q147
               go_wp2
               repeat (go_quiet (fail); try go_wp2)
               go_meet
               case rel => exact ⟨_, (decide ((rd ((rd_T30 l0_3 (ji52)).f0) 0) ≥ (rd ((rd_T30 l0_3 x9_2).f0) 0))), (by first | rfl | (simp; done) | (simp only [← hji52] <;> (first | rfl | simp)) | (simp [*]; done)), H', ⟨by have := HJ4.out; have := HK2.out; first | omega | exact Nat.le_refl _⟩, ⟨by (with_reducible repeat (first | refine blk_drewN ?_ _ | refine blk_drew ?_ | refine blk_alloc ?_ _)); refine blk_far ?_ NB142_144.out _; (with_reducible repeat (first | refine blk_drewN ?_ _ | refine blk_drew ?_ | refine blk_alloc ?_ _)); refine blk_far ?_ NB142_144.out _; (with_reducible repeat (first | refine blk_drewN ?_ _ | refine blk_drew ?_ | refine blk_alloc ?_ _)); refine blk_far ?_ NB142_144.out _; (with_reducible repeat (first | refine blk_drewN ?_ _ | refine blk_drew ?_ | refine blk_alloc ?_ _)); refine blk_far ?_ NB142_144.out _; (with_reducible repeat (first | refine blk_drewN ?_ _ | refine blk_drew ?_ | refine blk_alloc ?_ _)); exact BK142.out⟩, ⟨by (with_reducible repeat (first | refine blk_drewN ?_ _ | refine blk_drew ?_ | refine blk_alloc ?_ _)); refine blk_put (cs := #[.slice (some ad147) ((rd_T30 l0_3 x9_2).f0).length c143_0, .bool ((rd_T30 l0_3 x9_2).f1), .int .i64 ((rd_T30 l0_3 x9_2).f2), .slice none 0 0]) ?_ 3 _ rfl; (with_reducible repeat (first | refine blk_drewN ?_ _ | refine blk_drew ?_ | refine blk_alloc ?_ _)); refine blk_put (cs := #[.slice (some ad147) ((rd_T30 l0_3 x9_2).f0).length c143_0, .bool ((rd_T30 l0_3 x9_2).f1), .int .i64 0, .slice none 0 0]) ?_ 2 _ rfl; (with_reducible repeat (first | refine blk_drewN ?_ _ | refine blk_drew ?_ | refine blk_alloc ?_ _)); refine blk_put (cs := #[.slice (some ad147) ((rd_T30 l0_3 x9_2).f0).length c143_0, .bool false, .int .i64 0, .slice none 0 0]) ?_ 1 _ rfl; (with_reducible repeat (first | refine blk_drewN ?_ _ | refine blk_drew ?_ | refine blk_alloc ?_ _)); refine blk_put (cs := #[.slice none 0 0, .bool false, .int .i64 0, .slice none 0 0]) ?_ 0 _ rfl; (with_reducible repeat (first | refine blk_drewN ?_ _ | refine blk_drew ?_ | refine blk_alloc ?_ _)); exact BK144.out⟩, ⟨by repeat (first | (with_reducible first | exact HB.out | apply below_alloc | apply pw_below_drewN | apply below_drew1 | refine below_set ?_ GE142.out | refine below_set ?_ GE144.out) | exact HB.out)⟩⟩
              ·rw [if_neg c56] at H
               exact absurd H (by simp)
             ·rw [if_neg c55] at H
              exact absurd H (by simp)
            ·rw [if_neg c54] at H
             exact absurd H (by simp)
           ·rw [if_neg c53] at H
            exact absurd H (by simp)
          ·rw [if_neg c51] at H
           have c51b0 : decide (0 < x9_2) = false := decide_eq_false c51
           clear c51
           have H' := Aside0.mk H
           clear H
           have hnb60 := NB144_142.out
           have hnc60 := NB142_144.out
           obtain ⟨hcz61_0, hcz61_1, hcz61_2, hcz61_3, -⟩ := cells_4 BK144.out trivial
           obtain ⟨hfz61_0, hfz61_1, hfz61_2, hfz61_3, -⟩ := frz_4 BK144.out
           go_wp2
           repeat (go_quiet (fail); try go_wp2)
           go_meet
           case rel => exact ⟨_, (false), (by first | rfl | (simp; done) | (simp [*]; done)), H', ⟨by have := HJ4.out; have := HK2.out; first | omega | exact Nat.le_refl _⟩, ⟨by (with_reducible repeat (first | refine blk_drewN ?_ _ | refine blk_drew ?_ | refine blk_alloc ?_ _)); refine blk_far ?_ NB142_144.out _; (with_reducible repeat (first | refine blk_drewN ?_ _ | refine blk_drew ?_ | refine blk_alloc ?_ _)); refine blk_far ?_ NB142_144.out _; (with_reducible repeat (first | refine blk_drewN ?_ _ | refine blk_drew ?_ | refine blk_alloc ?_ _)); refine blk_far ?_ NB142_144.out _; (with_reducible repeat (first | refine blk_drewN ?_ _ | refine blk_drew ?_ | refine blk_alloc ?_ _)); refine blk_far ?_ NB142_144.out _; (with_reducible repeat (first | refine blk_drewN ?_ _ | refine blk_drew ?_ | refine blk_alloc ?_ _)); exact BK142.out⟩, ⟨by (with_reducible repeat (first | refine blk_drewN ?_ _ | refine blk_drew ?_ | refine blk_alloc ?_ _)); refine blk_put (cs := #[.slice A143_0 ((rd_T30 l0_3 x9_2).f0).length c143_0, .bool ((rd_T30 l0_3 x9_2).f1), .int .i64 ((rd_T30 l0_3 x9_2).f2), .slice none 0 0]) ?_ 3 _ rfl; (with_reducible repeat (first | refine blk_drewN ?_ _ | refine blk_drew ?_ | refine blk_alloc ?_ _)); refine blk_put (cs := #[.slice A143_0 ((rd_T30 l0_3 x9_2).f0).length c143_0, .bool ((rd_T30 l0_3 x9_2).f1), .int .i64 0, .slice none 0 0]) ?_ 2 _ rfl; (with_reducible repeat (first | refine blk_drewN ?_ _ | refine blk_drew ?_ | refine blk_alloc ?_ _)); refine blk_put (cs := #[.slice A143_0 ((rd_T30 l0_3 x9_2).f0).length c143_0, .bool false, .int .i64 0, .slice none 0 0]) ?_ 1 _ rfl; (with_reducible repeat (first | refine blk_drewN ?_ _ | refine blk_drew ?_ | refine blk_alloc ?_ _)); refine blk_put (cs := #[.slice none 0 0, .bool false, .int .i64 0, .slice none 0 0]) ?_ 0 _ rfl; (with_reducible repeat (first | refine blk_drewN ?_ _ | refine blk_drew ?_ | refine blk_alloc ?_ _)); exact BK144.out⟩, ⟨by repeat (first | (with_reducible first | exact HB.out | apply below_alloc | apply pw_below_drewN | apply below_drew1 | refine below_set ?_ GE142.out | refine below_set ?_ GE144.out) | exact HB.out)⟩⟩
        case rest =>
         clear HC43
         try clear c1; try clear p1; try clear q1; try clear hx1; try clear qi1; try clear c2; try clear p2; try clear c3; try clear c4; try clear c5; try clear c6; try clear p6; try clear c7; try clear c7b0; try clear c8; try clear c8b0; try clear c9; try clear c10; try clear c10b0; try clear c10b1; try clear c12; try clear c13; try clear c13b0; try clear c14; try clear p14; try clear q14; try clear hx14; try clear qi14; try clear c15; try clear c15b0; try clear c18; try clear c18b0; try clear c18b1; try clear c19; try clear c19b0; try clear c21; try clear c21b0; try clear c25; try clear c25b0; try clear c25b1; try clear c25b2; try clear c27; try clear c28; try clear c28b0; try clear c30; try clear c30b0; try clear c33; try clear c33b0; try clear c33b1; try clear c34; try clear c34b0; try clear c36; try clear c36b0; try clear c40; try clear c41; try clear c41b0; try clear c42; try clear c42b0; try clear c46; try clear c48; try clear c48b0; try clear c48b1; try clear c48b2; try clear c49; try clear c51; try clear c51b0; try clear c53; try clear c53b0; try clear c54; try clear c54b0; try clear c55; try clear c55b0; try clear c55b1; try clear c56; try clear c56b0; try clear c56b1; try clear c57; try clear c60; try clear hcz11_0; try clear hcz11_1; try clear hcz11_2; try clear hcz11_3; try clear hcz14_0; try clear hcz14_1; try clear hcz14_2; try clear hcz14_3; try clear hcz16_0; try clear hcz16_1; try clear hcz16_2; try clear hcz16_3; try clear hcz17_0; try clear hcz17_1; try clear hcz17_2; try clear hcz17_3; try clear hcz20_0; try clear hcz20_1; try clear hcz20_2; try clear hcz20_3; try clear hcz22_0; try clear hcz22_1; try clear hcz22_2; try clear hcz22_3; try clear hcz23_0; try clear hcz23_1; try clear hcz23_2; try clear hcz23_3; try clear hcz24_0; try clear hcz24_1; try clear hcz24_2; try clear hcz24_3; try clear hcz26_0; try clear hcz26_1; try clear hcz26_2; try clear hcz26_3; try clear hcz29_0; try clear hcz29_1; try clear hcz29_2; try clear hcz29_3; try clear hcz31_0; try clear hcz31_1; try clear hcz31_2; try clear hcz31_3; try clear hcz32_0; try clear hcz32_1; try clear hcz32_2; try clear hcz32_3; try clear hcz35_0; try clear hcz35_1; try clear hcz35_2; try clear hcz35_3; try clear hcz37_0; try clear hcz37_1; try clear hcz37_2; try clear hcz37_3; try clear hcz38_0; try clear hcz38_1; try clear hcz38_2; try clear hcz38_3; try clear hcz39_0; try clear hcz39_1; try clear hcz39_2; try clear hcz39_3; try clear hcz44_0; try clear hcz44_1; try clear hcz44_2; try clear hcz44_3; try clear hcz47_0; try clear hcz47_1; try clear hcz47_2; try clear hcz47_3; try clear hcz50_0; try clear hcz50_1; try clear hcz50_2; try clear hcz50_3; try clear hcz58_0; try clear hcz58_1; try clear hcz58_2; try clear hcz58_3; try clear hcz59_0; try clear hcz59_1; try clear hcz59_2; try clear hcz59_3; try clear hcz61_0; try clear hcz61_1; try clear hcz61_2; try clear hcz61_3; try clear hfz11_0; try clear hfz11_1; try clear hfz11_2; try clear hfz11_3; try clear hfz14_0; try clear hfz14_1; try clear hfz14_2; try clear hfz14_3; try clear hfz16_0; try clear hfz16_1; try clear hfz16_2; try clear hfz16_3; try clear hfz17_0; try clear hfz17_1; try clear hfz17_2; try clear hfz17_3; try clear hfz20_0; try clear hfz20_1; try clear hfz20_2; try clear hfz20_3; try clear hfz22_0; try clear hfz22_1; try clear hfz22_2; try clear hfz22_3; try clear hfz23_0; try clear hfz23_1; try clear hfz23_2; try clear hfz23_3; try clear hfz24_0; try clear hfz24_1; try clear hfz24_2; try clear hfz24_3; try clear hfz26_0; try clear hfz26_1; try clear hfz26_2; try clear hfz26_3; try clear hfz29_0; try clear hfz29_1; try clear hfz29_2; try clear hfz29_3; try clear hfz31_0; try clear hfz31_1; try clear hfz31_2; try clear hfz31_3; try clear hfz32_0; try clear hfz32_1; try clear hfz32_2; try clear hfz32_3; try clear hfz35_0; try clear hfz35_1; try clear hfz35_2; try clear hfz35_3; try clear hfz37_0; try clear hfz37_1; try clear hfz37_2; try clear hfz37_3; try clear hfz38_0; try clear hfz38_1; try clear hfz38_2; try clear hfz38_3; try clear hfz39_0; try clear hfz39_1; try clear hfz39_2; try clear hfz39_3; try clear hfz44_0; try clear hfz44_1; try clear hfz44_2; try clear hfz44_3; try clear hfz47_0; try clear hfz47_1; try clear hfz47_2; try clear hfz47_3; try clear hfz50_0; try clear hfz50_1; try clear hfz50_2; try clear hfz50_3; try clear hfz58_0; try clear hfz58_1; try clear hfz58_2; try clear hfz58_3; try clear hfz59_0; try clear hfz59_1; try clear hfz59_2; try clear hfz59_3; try clear hfz61_0; try clear hfz61_1; try clear hfz61_2; try clear hfz61_3; try clear hx143_0; try clear hx143_1; try clear hx143_2; try clear hx143_3; try clear hx145_0; try clear hx145_1; try clear hx145_2; try clear hx145_3; try clear hx146_0; try clear hx147_0; try clear p143; try clear p145; try clear p146; try clear p147; try clear p2; try clear p6; try clear q143; try clear q145; try clear q146; try clear q147
         obtain ⟨kq, x108_42, rfl, HA, HJ42, BK142, BK144, HB⟩ := hcut
         cases kq with
         | zero => exact absurd HA.out (by simp [spec_l6ok.j2])
         | succ kj42 =>
          have H := HA.out
          clear HA
          simp only [spec_l6ok.j2] at H
          by_cases c62 : x108_42 = true
          ·subst c62
           have H1 : (some (-1)) = some r := by rw [if_pos rfl] at H; exact H
           clear H
           have H := H1
           clear H1
           obtain rfl := Option.some.inj H
           go_wp2
           repeat (go_quiet (fail); try go_wp2)
           go_ret
           exact ⟨by first | rfl | (simp [errW_none, errW_some] <;> rfl) | (simp [*, errW_none, errW_some] <;> rfl), by repeat (first | (with_reducible first | exact HB.out | apply below_alloc | apply pw_below_drewN | apply below_drew1 | refine below_set ?_ GE142.out | refine below_set ?_ GE144.out) | exact HB.out)⟩
          ·replace c62 := Bool.eq_false_iff.mpr c62
           subst c62
           have H1 : ((spec_l6ok.f kj42 ((rd_T30 l0_3 x9_2).f0) ((rd_T30 l0_3 x9_2).f1) ((rd_T30 l0_3 x9_2).f2) ((rd_T30 l0_3 x9_2).f3) false x2_2 (wrap64 (a3 + 1))).bind fun t148 => (if t148 < 0 then (some (-1)) else (spec_l6ok.l0 kj42 t148 a3 (wrap64 (x9_2 + 1)) l0_0 a0_1 a0_2 l0_3))) = some r := by rw [if_neg (show ¬ (false = true) by decide)] at H; exact H
           clear H
           have H := H1
           clear H1
           replace H := Option.bind_eq_some_iff.mp H
           obtain ⟨t148, A630, H⟩ := H
           replace H : (if t148 < 0 then (some (-1)) else (spec_l6ok.l0 kj42 t148 a3 (wrap64 (x9_2 + 1)) l0_0 a0_1 a0_2 l0_3)) = some r := H
           have A63 := Aside0.mk A630
           clear A630
           by_cases c64 : t148 < 0
           ·rw [if_pos c64] at H
            have c64b0 : decide (t148 < 0) = true := decide_eq_true c64
            clear c64
            obtain rfl := Option.some.inj H
            have hnb65 := NB144_142.out
            have hnc65 := NB142_144.out
            have hcz66_0 : wc.cell? ⟨gb144, 0, none⟩ = some (.slice A143_0 ((rd_T30 l0_3 x9_2).f0).length c143_0) := (blk_cell BK144.out 0).trans rfl
            have hcz66_1 : wc.cell? ⟨gb144, 1, none⟩ = some (.bool ((rd_T30 l0_3 x9_2).f1)) := (blk_cell BK144.out 1).trans rfl
            have hcz66_2 : wc.cell? ⟨gb144, 2, none⟩ = some (.int .i64 ((rd_T30 l0_3 x9_2).f2)) := (blk_cell BK144.out 2).trans rfl
            have hcz66_3 : wc.cell? ⟨gb144, 3, none⟩ = some (.slice A143_3 ((rd_T30 l0_3 x9_2).f3).length c143_3) := (blk_cell BK144.out 3).trans rfl
            obtain ⟨hfz66_0, hfz66_1, hfz66_2, hfz66_3, -⟩ := frz_4 BK144.out
            go_wp2_with (first | (go_at_call 59; (with_reducible refine (ih kj42 (by have := HJ4.out; have := HK2.out; have := HJ42.out; omega) _ _ ((rd_T30 l0_3 x9_2).f0) ((rd_T30 l0_3 x9_2).f1) ((rd_T30 l0_3 x9_2).f2) _ _ ((rd_T30 l0_3 x9_2).f3) false x2_2 (wrap64 (a3 + 1)) t148 _ ?side1 ?side2 ?side3 ?side4 A63.out).mono ?_); (case side1 => exact kcb); (case side2 => exact HC143_0.out); (case side3 => exact kcb); (case side4 => exact HC143_3.out); rintro e w67 ⟨rfl, hb⟩; replace BK142 := Aside0.mk (blb BK142 hb); replace BK144 := Aside0.mk (blb BK144 hb); replace HB := Aside0.mk (below_step bel hb); (try clear hb); (try clear hb2); (try clear hk); (try clear hi)))
            repeat (go_quiet (first | (go_at_call 59; (with_reducible refine (ih kj42 (by have := HJ4.out; have := HK2.out; have := HJ42.out; omega) _ _ ((rd_T30 l0_3 x9_2).f0) ((rd_T30 l0_3 x9_2).f1) ((rd_T30 l0_3 x9_2).f2) _ _ ((rd_T30 l0_3 x9_2).f3) false x2_2 (wrap64 (a3 + 1)) t148 _ ?side1 ?side2 ?side3 ?side4 A63.out).mono ?_); (case side1 => exact kcb); (case side2 => exact HC143_0.out); (case side3 => exact kcb); (case side4 => exact HC143_3.out); rintro e w67 ⟨rfl, hb⟩; replace BK142 := Aside0.mk (blb BK142 hb); replace BK144 := Aside0.mk (blb BK144 hb); replace HB := Aside0.mk (below_step bel hb); (try clear hb); (try clear hb2); (try clear hk); (try clear hi))); try go_wp2_with (first | (go_at_call 59; (with_reducible refine (ih kj42 (by have := HJ4.out; have := HK2.out; have := HJ42.out; omega) _ _ ((rd_T30 l0_3 x9_2).f0) ((rd_T30 l0_3 x9_2).f1) ((rd_T30 l0_3 x9_2).f2) _ _ ((rd_T30 l0_3 x9_2).f3) false x2_2 (wrap64 (a3 + 1)) t148 _ ?side1 ?side2 ?side3 ?side4 A63.out).mono ?_); (case side1 => exact kcb); (case side2 => exact HC143_0.out); (case side3 => exact kcb); (case side4 => exact HC143_3.out); rintro e w67 ⟨rfl, hb⟩; replace BK142 := Aside0.mk (blb BK142 hb); replace BK144 := Aside0.mk (blb BK144 hb); replace HB := Aside0.mk (below_step bel hb); (try clear hb); (try clear hb2); (try clear hk); (try clear hi))))
            go_ret
            exact ⟨by first | rfl | (simp [errW_none, errW_some] <;> rfl) | (simp [*, errW_none, errW_some] <;> rfl), by repeat (first | (with_reducible first | exact HB.out | apply below_alloc | apply pw_below_drewN | apply below_drew1 | refine below_set ?_ GE142.out | refine below_set ?_ GE144.out) | exact HB.out)⟩
           ·rw [if_neg c64] at H
            have c64b0 : decide (t148 < 0) = false := decide_eq_false c64
            clear c64
            have H' := Aside0.mk H
            clear H
            have hnb68 := NB144_142.out
            have hnc68 := NB142_144.out
            have hcz69_0 : wc.cell? ⟨gb144, 0, none⟩ = some (.slice A143_0 ((rd_T30 l0_3 x9_2).f0).length c143_0) := (blk_cell BK144.out 0).trans rfl
            have hcz69_1 : wc.cell? ⟨gb144, 1, none⟩ = some (.bool ((rd_T30 l0_3 x9_2).f1)) := (blk_cell BK144.out 1).trans rfl
            have hcz69_2 : wc.cell? ⟨gb144, 2, none⟩ = some (.int .i64 ((rd_T30 l0_3 x9_2).f2)) := (blk_cell BK144.out 2).trans rfl
            have hcz69_3 : wc.cell? ⟨gb144, 3, none⟩ = some (.slice A143_3 ((rd_T30 l0_3 x9_2).f3).length c143_3) := (blk_cell BK144.out 3).trans rfl
            obtain ⟨hfz69_0, hfz69_1, hfz69_2, hfz69_3, -⟩ := frz_4 BK144.out
            go_wp2_with (first | (go_at_call 59; (with_reducible refine (ih kj42 (by have := HJ4.out; have := HK2.out; have := HJ42.out; omega) _ _ ((rd_T30 l0_3 x9_2).f0) ((rd_T30 l0_3 x9_2).f1) ((rd_T30 l0_3 x9_2).f2) _ _ ((rd_T30 l0_3 x9_2).f3) false x2_2 (wrap64 (a3 + 1)) t148 _ ?side1 ?side2 ?side3 ?side4 A63.out).mono ?_); (case side1 => exact kcb); (case side2 => exact HC143_0.out); (case side3 => exact kcb); (case side4 => exact HC143_3.out); rintro e w70 ⟨rfl, hb⟩; replace BK142 := Aside0.mk (blb BK142 hb); replace BK144 := Aside0.mk (blb BK144 hb); replace HB := Aside0.mk (below_step bel hb); (try clear hb); (try clear hb2); (try clear hk); (try clear hi)))
            repeat (go_quiet (first | (go_at_call 59; (with_reducible refine (ih kj42 (by have := HJ4.out; have := HK2.out; have := HJ42.out; omega) _ _ ((rd_T30 l0_3 x9_2).f0) ((rd_T30 l0_3 x9_2).f1) ((rd_T30 l0_3 x9_2).f2) _ _ ((rd_T30 l0_3 x9_2).f3) false x2_2 (wrap64 (a3 + 1)) t148 _ ?side1 ?side2 ?side3 ?side4 A63.out).mono ?_); (case side1 => exact kcb); (case side2 => exact HC143_0.out); (case side3 => exact kcb); (case side4 => exact HC143_3.out); rintro e w70 ⟨rfl, hb⟩; replace BK142 := Aside0.mk (blb BK142 hb); replace BK144 := Aside0.mk (blb BK144 hb); replace HB := Aside0.mk (below_step bel hb); (try clear hb); (try clear hb2); (try clear hk); (try clear hi))); try go_wp2_with (first | (go_at_call 59; (with_reducible refine (ih kj42 (by have := HJ4.out; have := HK2.out; have := HJ42.out; omega) _ _ ((rd_T30 l0_3 x9_2).f0) ((rd_T30 l0_3 x9_2).f1) ((rd_T30 l0_3 x9_2).f2) _ _ ((rd_T30 l0_3 x9_2).f3) false x2_2 (wrap64 (a3 + 1)) t148 _ ?side1 ?side2 ?side3 ?side4 A63.out).mono ?_); (case side1 => exact kcb); (case side2 => exact HC143_0.out); (case side3 => exact kcb); (case side4 => exact HC143_3.out); rintro e w70 ⟨rfl, hb⟩; replace BK142 := Aside0.mk (blb BK142 hb); replace BK144 := Aside0.mk (blb BK144 hb); replace HB := Aside0.mk (below_step bel hb); (try clear hb); (try clear hb2); (try clear hk); (try clear hi))))
            go_roundg kj42
            case measure => have := HJ4.out; have := HK2.out; have := HJ42.out; omega
            case rel => exact ⟨(t148), (wrap64 (x9_2 + 1)), (by first | rfl | (simp; done) | (simp [*]; done)), (by first | rfl | (simp; done) | (simp [*]; done)), H', ⟨by have := HJ4.out; have := HK2.out; have := HJ42.out; omega⟩, ⟨by (with_reducible repeat (first | refine blk_drewN ?_ _ | refine blk_drew ?_ | refine blk_alloc ?_ _)); exact BK142.out⟩, ⟨by repeat (first | (with_reducible first | exact HB.out | apply below_alloc | apply pw_below_drewN | apply below_drew1 | refine below_set ?_ GE142.out | refine below_set ?_ GE144.out) | exact HB.out)⟩⟩
       ·rw [if_neg c42] at H
        exact absurd H (by simp)
      ·rw [if_neg c41] at H
       have c41b0 : decide (x9_2 < (l0_3.length : Int)) = false := decide_eq_false c41
       clear c41
       obtain rfl := Option.some.inj H
       obtain ⟨hcz71_0, hcz71_1, hcz71_2, hcz71_3, -⟩ := cells_4 BK142.out trivial
       obtain ⟨hfz71_0, hfz71_1, hfz71_2, hfz71_3, -⟩ := frz_4 BK142.out
       go_wp2
       repeat (go_quiet (fail); try go_wp2)
       go_ret
       exact ⟨by first | rfl | (simp [errW_none, errW_some] <;> rfl) | (simp [*, errW_none, errW_some] <;> rfl), by repeat (first | (with_reducible first | exact HB.out | apply below_alloc | apply pw_below_drewN | apply below_drew1 | refine below_set ?_ GE142.out) | exact HB.out)⟩

/-! ### spec_l6long: function 60 -/
mutual
def spec_l6long.l0 : Nat → Int → Int → List Int → Bool → Int → List (S30) → Option (Int)
 | 0, _, _, _, _, _, _ => none
 | k + 1, x3, x4, x150000, x150001, x150002, x150003 => if x4 < (x150003.length : Int) then (if 0 ≤ x4 then ((spec_l6long.f k ((rd_T30 x150003 x4).f0) ((rd_T30 x150003 x4).f1) ((rd_T30 x150003 x4).f2) ((rd_T30 x150003 x4).f3)).bind fun t151 => (if t151 > x3 then (spec_l6long.l0 k t151 (wrap64 (x4 + 1)) x150000 x150001 x150002 x150003) else (spec_l6long.l0 k x3 (wrap64 (x4 + 1)) x150000 x150001 x150002 x150003))) else (none)) else (some (wrap64 (x3 + (x150000.length : Int))))
def spec_l6long.f : Nat → List Int → Bool → Int → List (S30) → Option (Int)
 | 0, _, _, _, _ => none
 | k + 1, l0_0, a0_1, a0_2, l0_3 => spec_l6long.l0 k 0 0 l0_0 a0_1 a0_2 l0_3
end
theorem spec_l6long.mono_l : ∀ k, (∀ y0 y1 y2 y3, LeO (spec_l6long.f k y0 y1 y2 y3) (spec_l6long.f (k + 1) y0 y1 y2 y3)) ∧ (∀ y0 y1 y2 y3 y4 y5, LeO (spec_l6long.l0 k y0 y1 y2 y3 y4 y5) (spec_l6long.l0 (k + 1) y0 y1 y2 y3 y4 y5))
 | 0 => ⟨fun _ _ _ _ r h => by simp [spec_l6long.f] at h, fun _ _ _ _ _ _ r h => by simp [spec_l6long.l0] at h⟩
 | k + 1 => by
  obtain ⟨ih0, ih1⟩ := spec_l6long.mono_l k
  refine ⟨?_, ?_⟩
  ·intro y0 y1 y2 y3
   unfold spec_l6long.f
   repeat' first
   | (with_reducible exact ih0 _ _ _ _)
   | (with_reducible exact ih1 _ _ _ _ _ _)
   | (with_reducible exact LeO.refl _)
   | (with_reducible exact LeO.none _)
   | (with_reducible refine LeO.ite ?_ ?_)
   | (with_reducible refine LeO.bind ?_ (fun _ => ?_))
   | exact ih0 _ _ _ _
   | exact ih1 _ _ _ _ _ _
   | exact LeO.none _
   | refine LeO.ite ?_ ?_
   | refine LeO.bind ?_ (fun _ => ?_)
  ·intro y0 y1 y2 y3 y4 y5
   unfold spec_l6long.l0
   repeat' first
   | (with_reducible exact ih0 _ _ _ _)
   | (with_reducible exact ih1 _ _ _ _ _ _)
   | (with_reducible exact LeO.refl _)
   | (with_reducible exact LeO.none _)
   | (with_reducible refine LeO.ite ?_ ?_)
   | (with_reducible refine LeO.bind ?_ (fun _ => ?_))
   | exact ih0 _ _ _ _
   | exact ih1 _ _ _ _ _ _
   | exact LeO.none _
   | refine LeO.ite ?_ ?_
   | refine LeO.bind ?_ (fun _ => ?_)
theorem spec_l6long.mono : ∀ a0 a1 a2 a3 k, LeO (spec_l6long.f k a0 a1 a2 a3) (spec_l6long.f (k + 1) a0 a1 a2 a3) := by
 intro a0 a1 a2 a3 k
 obtain ⟨ih0, ih1⟩ := spec_l6long.mono_l k
 exact ih0 a0 a1 a2 a3
set_option maxHeartbeats 8000000 in
set_option maxRecDepth 100000 in
theorem spec_l6long.calls (k : Nat) : ∀ (A0_0 : Option Addr) (c0_0 : Nat) (l0_0 : List Int) (a0_1 : Bool) (a0_2 : Int) (A0_3 : Option Addr) (c0_3 : Nat) (l0_3 : List (S30)) (r : Int) (w : World) (hr0_0 : Kd.C (Kd.int .u8) w A0_0 l0_0.length l0_0) (hc0_0 : l0_0.length ≤ c0_0) (hr0_3 : Kd.C k30 w A0_3 l0_3.length l0_3) (hc0_3 : l0_3.length ≤ c0_3) (h : spec_l6long.f k l0_0 a0_1 a0_2 l0_3 = some r),
  Calls Try.prog 60 #[.agg #[.slice A0_0 l0_0.length c0_0, .bool a0_1, .int .i64 a0_2, .slice A0_3 l0_3.length c0_3]] w fun e w' => e = .returned (.int .i64 r) ∧ Below w.heap.size w w' := by
 induction k using Nat.strongRecOn with
 | _ k ih =>
 intro A0_0 c0_0 l0_0 a0_1 a0_2 A0_3 c0_3 l0_3 r w hr0_0 hc0_0 hr0_3 hc0_3 h
 cases k with
 | zero => exact absurd h (by simp [spec_l6long.f])
 | succ k =>
 simp only [spec_l6long.f] at h
 have hu30 := Try.underlying30
 have HR0_0 := Aside0.mk hr0_0
 have HC0_0 := Aside0.mk hc0_0
 clear hr0_0 hc0_0
 have HR0_3 := Aside0.mk hr0_3
 have HC0_3 := Aside0.mk hc0_3
 clear hr0_3 hc0_3
 have HB := Aside0.mk (Below.refl w.heap.size w)
 have H : (spec_l6long.l0 k 0 0 l0_0 a0_1 a0_2 l0_3) = some r := h
 clear h
 have H' := Aside0.mk H
 clear H
 go_enter Try.func60, Try.ntmps60
 go_wp2_with (first | ((with_reducible refine gate_dst (N := 1) rfl ?_); refine bx_ 1 #[.slice A0_0 l0_0.length c0_0, .bool a0_1, .int .i64 a0_2, .slice A0_3 l0_3.length c0_3] 30 (h := ?_); intro gb149 hg w2 hbox hb; have BK149 := Aside0.mk (hbox); have GW149 := Aside0.mk ((by rw [hg]; exact (below_size bel) : w.heap.size ≤ gb149)); have GE149 := Aside0.mk ((by rw [hg]; exact (below_size bel) : w.heap.size ≤ gb149)); replace HB := Aside0.mk (below_step bel hb); clear hb hbox hg))
 go_loopg [3, 4] k (fun kq v3 v4 w' => ∃ (x3_1 : Int) (x4_1 : Int), v3 = .int .i64 x3_1 ∧ v4 = .int .i64 x4_1 ∧ Aside0 (spec_l6long.l0 kq x3_1 x4_1 l0_0 a0_1 a0_2 l0_3 = some r) ∧ Aside0 (kq ≤ k) ∧ Aside0 (w'.heap[gb149]? = some (.cells #[(.slice A0_0 l0_0.length c0_0), .bool a0_1, .int .i64 a0_2, (.slice A0_3 l0_3.length c0_3)] 30 (0, 0))) ∧ Aside0 (Below w.heap.size w w'))
 case atStart => exact ⟨(0), (0), (by first | rfl | (simp; done) | (simp [*]; done)), (by first | rfl | (simp; done) | (simp [*]; done)), H', ⟨Nat.le_refl _⟩, ⟨by (with_reducible repeat (first | refine blk_drewN ?_ _ | refine blk_drew ?_ | refine blk_alloc ?_ _)); exact BK149.out⟩, ⟨by repeat (first | (with_reducible first | exact HB.out | apply below_alloc | apply pw_below_drewN | apply below_drew1 | refine below_set ?_ GE149.out) | exact HB.out)⟩⟩
 case round =>
  clear H'
  try clear p2
  obtain ⟨x3_1, x4_1, rfl, rfl, HA, HK1, BK149, HB⟩ := hrel
  cases gk with
  | zero => exact absurd HA.out (by simp [spec_l6long.l0])
  | succ k1 =>
   have H := HA.out
   clear HA
   simp only [spec_l6long.l0] at H
   by_cases c3 : x4_1 < (l0_3.length : Int)
   ·rw [if_pos c3] at H
    have c3b0 : decide (x4_1 < (l0_3.length : Int)) = true := decide_eq_true c3
    clear c3
    by_cases c4 : 0 ≤ x4_1
    ·rw [if_pos c4] at H
     have c4b0 : decide (0 ≤ x4_1) = true := decide_eq_true c4
     clear c4
     replace H := Option.bind_eq_some_iff.mp H
     obtain ⟨t151, A50, H⟩ := H
     replace H : (if t151 > x3_1 then (spec_l6long.l0 k1 t151 (wrap64 (x4_1 + 1)) l0_0 a0_1 a0_2 l0_3) else (spec_l6long.l0 k1 x3_1 (wrap64 (x4_1 + 1)) l0_0 a0_1 a0_2 l0_3)) = some r := H
     have A5 := Aside0.mk A50
     clear A50
     by_cases c6 : t151 > x3_1
     ·rw [if_pos c6] at H
      have c6b0 : decide (x3_1 < t151) = true := decide_eq_true c6
      clear c6
      have H' := Aside0.mk H
      clear H
      obtain ⟨hcz7_0, hcz7_1, hcz7_2, hcz7_3, -⟩ := cells_4 BK149.out trivial
      obtain ⟨hfz7_0, hfz7_1, hfz7_2, hfz7_3, -⟩ := frz_4 BK149.out
      have p150 : 0 ≤ (x4_1 : Int) := od
      have q150 : x4_1 < (l0_3.length : Int) := od
      obtain ⟨ad150, A150_0, c150_0, A150_3, c150_3, e150, hx150_0, hx150_1, hx150_2, hx150_3, hl150_0, hi150_0, hl150_3, hi150_3⟩ := at_T30 HR0_3.out x4_1 p150 q150
      cases e150
      replace hx150_0 := hxb HB hx150_0
      replace hx150_1 := hxb HB hx150_1
      replace hx150_2 := hxb HB hx150_2
      replace hx150_3 := hxb HB hx150_3
      have HR150_0 := Aside0.mk hi150_0
      have HC150_0 := Aside0.mk hl150_0
      clear hi150_0 hl150_0
      have HR150_3 := Aside0.mk hi150_3
      have HC150_3 := Aside0.mk hl150_3
      clear hi150_3 hl150_3
      replace p150 := eq_true p150
      replace q150 := eq_true q150
      go_wp2_with (first | ((with_reducible refine gate_callee (f := 60) rfl ?_); refine gl_ (some 18) Try.func60 #[.agg #[.slice A150_0 ((rd_T30 l0_3 x4_1).f0).length c150_0, .bool ((rd_T30 l0_3 x4_1).f1), .int .i64 ((rd_T30 l0_3 x4_1).f2), .slice A150_3 ((rd_T30 l0_3 x4_1).f3).length c150_3]] (h := ?_); (with_reducible refine (ih k1 (by have := HK1.out; omega) _ _ ((rd_T30 l0_3 x4_1).f0) ((rd_T30 l0_3 x4_1).f1) ((rd_T30 l0_3 x4_1).f2) _ _ ((rd_T30 l0_3 x4_1).f3) t151 _ ?side1 ?side2 ?side3 ?side4 A5.out).mono ?_); (case side1 => exact kcb); (case side2 => exact HC150_0.out); (case side3 => exact kcb); (case side4 => exact HC150_3.out); rintro e w8 ⟨rfl, hb⟩; refine ⟨_, rfl, ?_⟩; replace BK149 := Aside0.mk (blb BK149 hb); replace HB := Aside0.mk (below_step bel hb); (try clear hb); (try clear hb2); (try clear hk); (try clear hi)))
      go_roundg k1
      case measure => have := HK1.out; omega
      case rel => exact ⟨(t151), (wrap64 (x4_1 + 1)), (by first | rfl | (simp; done) | (simp [*]; done)), (by first | rfl | (simp; done) | (simp [*]; done)), H', ⟨by have := HK1.out; omega⟩, ⟨by (with_reducible repeat (first | refine blk_drewN ?_ _ | refine blk_drew ?_ | refine blk_alloc ?_ _)); exact BK149.out⟩, ⟨by repeat (first | (with_reducible first | exact HB.out | apply below_alloc | apply pw_below_drewN | apply below_drew1 | refine below_set ?_ GE149.out) | exact HB.out)⟩⟩
     ·rw [if_neg c6] at H
      have c6b0 : decide (x3_1 < t151) = false := decide_eq_false c6
      clear c6
      have H' := Aside0.mk H
      clear H
      obtain ⟨hcz9_0, hcz9_1, hcz9_2, hcz9_3, -⟩ := cells_4 BK149.out trivial
      obtain ⟨hfz9_0, hfz9_1, hfz9_2, hfz9_3, -⟩ := frz_4 BK149.out
      have p150 : 0 ≤ (x4_1 : Int) := od
      have q150 : x4_1 < (l0_3.length : Int) := od
      obtain ⟨ad150, A150_0, c150_0, A150_3, c150_3, e150, hx150_0, hx150_1, hx150_2, hx150_3, hl150_0, hi150_0, hl150_3, hi150_3⟩ := at_T30 HR0_3.out x4_1 p150 q150
      cases e150
      replace hx150_0 := hxb HB hx150_0
      replace hx150_1 := hxb HB hx150_1
      replace hx150_2 := hxb HB hx150_2
      replace hx150_3 := hxb HB hx150_3
      have HR150_0 := Aside0.mk hi150_0
      have HC150_0 := Aside0.mk hl150_0
      clear hi150_0 hl150_0
      have HR150_3 := Aside0.mk hi150_3
      have HC150_3 := Aside0.mk hl150_3
      clear hi150_3 hl150_3
      replace p150 := eq_true p150
      replace q150 := eq_true q150
      go_wp2_with (first | ((with_reducible refine gate_callee (f := 60) rfl ?_); refine gl_ (some 18) Try.func60 #[.agg #[.slice A150_0 ((rd_T30 l0_3 x4_1).f0).length c150_0, .bool ((rd_T30 l0_3 x4_1).f1), .int .i64 ((rd_T30 l0_3 x4_1).f2), .slice A150_3 ((rd_T30 l0_3 x4_1).f3).length c150_3]] (h := ?_); (with_reducible refine (ih k1 (by have := HK1.out; omega) _ _ ((rd_T30 l0_3 x4_1).f0) ((rd_T30 l0_3 x4_1).f1) ((rd_T30 l0_3 x4_1).f2) _ _ ((rd_T30 l0_3 x4_1).f3) t151 _ ?side1 ?side2 ?side3 ?side4 A5.out).mono ?_); (case side1 => exact kcb); (case side2 => exact HC150_0.out); (case side3 => exact kcb); (case side4 => exact HC150_3.out); rintro e w10 ⟨rfl, hb⟩; refine ⟨_, rfl, ?_⟩; replace BK149 := Aside0.mk (blb BK149 hb); replace HB := Aside0.mk (below_step bel hb); (try clear hb); (try clear hb2); (try clear hk); (try clear hi)))
      go_roundg k1
      case measure => have := HK1.out; omega
      case rel => exact ⟨(x3_1), (wrap64 (x4_1 + 1)), (by first | rfl | (simp; done) | (simp [*]; done)), (by first | rfl | (simp; done) | (simp [*]; done)), H', ⟨by have := HK1.out; omega⟩, ⟨by (with_reducible repeat (first | refine blk_drewN ?_ _ | refine blk_drew ?_ | refine blk_alloc ?_ _)); exact BK149.out⟩, ⟨by repeat (first | (with_reducible first | exact HB.out | apply below_alloc | apply pw_below_drewN | apply below_drew1 | refine below_set ?_ GE149.out) | exact HB.out)⟩⟩
    ·rw [if_neg c4] at H
     exact absurd H (by simp)
   ·rw [if_neg c3] at H
    have c3b0 : decide (x4_1 < (l0_3.length : Int)) = false := decide_eq_false c3
    clear c3
    obtain rfl := Option.some.inj H
    obtain ⟨hcz11_0, hcz11_1, hcz11_2, hcz11_3, -⟩ := cells_4 BK149.out trivial
    obtain ⟨hfz11_0, hfz11_1, hfz11_2, hfz11_3, -⟩ := frz_4 BK149.out
    go_wp2
    go_ret
    exact ⟨by first | rfl | (simp [errW_none, errW_some] <;> rfl) | (simp [*, errW_none, errW_some] <;> rfl), by repeat (first | (with_reducible first | exact HB.out | apply below_alloc | apply pw_below_drewN | apply below_drew1 | refine below_set ?_ GE149.out) | exact HB.out)⟩

end Go.Proofs.Ytoaddpfoecggpaa.PG
