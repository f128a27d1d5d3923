-- Written for this claim by the session's program pp.py, out of the kit's print and the seat's translation.
import Derived.Test.YtoaddpfoecggpaaPGx0
import Derived.Test.YtoaddpfoecggpaaPGx3
namespace Go.Proofs.Ytoaddpfoecggpaa.PG
open Go.RowKit Go.Proofs.YtoaddpfoecggpaaW.PrintWords Go.Proofs.YtoaddpfoecggpaaW.PrintLast Go.Proofs.YtoaddpfoecggpaaW.PrintMore
attribute [local go_sem] max2_int min2_int max_two min_two max_three min_three max_four min_four   -- for this text's walks alone
set_option linter.unusedVariables false
set_option linter.unusedSimpArgs false

/-! ### spec_TreeOk: function 16 -/
def spec_TreeOk.f (k : Nat) (l0_0 : List Int) (a0_1 : Bool) (a0_2 : Int) (l0_3 : List (S30)) : Option (Bool) := (spec_l6ok.f k l0_0 a0_1 a0_2 l0_3 true 200 0).bind fun t153 => (if t153 ≥ 0 then ((spec_l6long.f k l0_0 a0_1 a0_2 l0_3).bind fun t154 => (some (decide (t154 ≤ 20)))) else (some false))
theorem spec_TreeOk.mono : ∀ a0 a1 a2 a3 k, LeO (spec_TreeOk.f k a0 a1 a2 a3) (spec_TreeOk.f (k + 1) a0 a1 a2 a3) := by
 intro a0 a1 a2 a3 k
 unfold spec_TreeOk.f
 repeat' first
   | (with_reducible exact spec_l6long.mono _ _ _ _ _)
   | (with_reducible exact spec_l6ok.mono _ _ _ _ _ _ _ _)
   | (with_reducible exact LeO.refl _)
   | (with_reducible exact LeO.none _)
   | (with_reducible refine LeO.ite ?_ ?_)
   | (with_reducible refine LeO.bind ?_ (fun _ => ?_))
   | exact spec_l6long.mono _ _ _ _ _
   | exact spec_l6ok.mono _ _ _ _ _ _ _ _
   | exact LeO.none _
   | refine LeO.ite ?_ ?_
   | refine LeO.bind ?_ (fun _ => ?_)
set_option maxHeartbeats 8000000 in
set_option maxRecDepth 100000 in
theorem spec_TreeOk.calls (k : Nat) (A0_0 : Option Addr) (c0_0 : Nat) (l0_0 : List Int) (a0_1 : Bool) (a0_2 : Int) (A0_3 : Option Addr) (c0_3 : Nat) (l0_3 : List (S30)) (r : Bool) (w : World) (hr0_0 : Kd.C (Kd.int .u8) w A0_0 l0_0.length l0_0) (hc0_0 : l0_0.length ≤ c0_0) (hr0_3 : Kd.C k30 w A0_3 l0_3.length l0_3) (hc0_3 : l0_3.length ≤ c0_3) (h : spec_TreeOk.f k l0_0 a0_1 a0_2 l0_3 = some r) :
  Calls Try.prog 16 #[.agg #[.slice A0_0 l0_0.length c0_0, .bool a0_1, .int .i64 a0_2, .slice A0_3 l0_3.length c0_3]] w fun e w' => e = .returned (.bool r) ∧ Below w.heap.size w w' := by
 have hu30 := Try.underlying30
 have HR0_0 := Aside0.mk hr0_0
 have HC0_0 := Aside0.mk hc0_0
 clear hr0_0 hc0_0
 have HR0_3 := Aside0.mk hr0_3
 have HC0_3 := Aside0.mk hc0_3
 clear hr0_3 hc0_3
 have HB := Aside0.mk (Below.refl w.heap.size w)
 have H : ((spec_l6ok.f k l0_0 a0_1 a0_2 l0_3 true 200 0).bind fun t153 => (if t153 ≥ 0 then ((spec_l6long.f k l0_0 a0_1 a0_2 l0_3).bind fun t154 => (some (decide (t154 ≤ 20)))) else (some false))) = some r := h
 clear h
 replace H := Option.bind_eq_some_iff.mp H
 obtain ⟨t153, A20, H⟩ := H
 replace H : (if t153 ≥ 0 then ((spec_l6long.f k l0_0 a0_1 a0_2 l0_3).bind fun t154 => (some (decide (t154 ≤ 20)))) else (some false)) = some r := H
 have A2 := Aside0.mk A20
 clear A20
 by_cases c3 : t153 ≥ 0
 ·rw [if_pos c3] at H
  have c3b0 : decide (0 ≤ t153) = true := decide_eq_true c3
  clear c3
  replace H := Option.bind_eq_some_iff.mp H
  obtain ⟨t154, A40, H⟩ := H
  replace H : (some (decide (t154 ≤ 20))) = some r := H
  have A4 := Aside0.mk A40
  clear A40
  obtain rfl := Option.some.inj H
  go_enter Try.func16, Try.ntmps16
  go_wp2_with (first | ((with_reducible refine gate_dst (N := 1) rfl ?_); refine bx_ 1 #[.slice A0_0 l0_0.length c0_0, .bool a0_1, .int .i64 a0_2, .slice A0_3 l0_3.length c0_3] 30 (h := ?_); intro gb152 hg w5 hbox hb; have BK152 := Aside0.mk (hbox); have GW152 := Aside0.mk ((by rw [hg]; exact (below_size bel) : w.heap.size ≤ gb152)); have GE152 := Aside0.mk ((by rw [hg]; exact (below_size bel) : w.heap.size ≤ gb152)); replace HB := Aside0.mk (below_step bel hb); clear hb hbox hg; obtain ⟨hcz6_0, hcz6_1, hcz6_2, hcz6_3, -⟩ := cells_4 BK152.out trivial; obtain ⟨hfz6_0, hfz6_1, hfz6_2, hfz6_3, -⟩ := frz_4 BK152.out) | ((with_reducible refine gate_callee (f := 59) rfl ?_); refine gl_ (some 4) Try.func59 #[.agg #[.slice A0_0 l0_0.length c0_0, .bool a0_1, .int .i64 a0_2, .slice A0_3 l0_3.length c0_3], .bool true, .int .i64 200, .int .i64 0] (h := ?_); (with_reducible refine (spec_l6ok.calls k _ _ l0_0 a0_1 a0_2 _ _ l0_3 true 200 0 t153 _ ?side1 ?side2 ?side3 ?side4 A2.out).mono ?_); (case side1 => exact kcb); (case side2 => exact HC0_0.out); (case side3 => exact kcb); (case side4 => exact HC0_3.out); rintro e w7 ⟨rfl, hb⟩; refine ⟨_, rfl, ?_⟩; replace BK152 := Aside0.mk (blb BK152 hb); replace HB := Aside0.mk (below_step bel hb); (try clear hb); (try clear hb2); (try clear hk); (try clear hi); obtain ⟨hcz8_0, hcz8_1, hcz8_2, hcz8_3, -⟩ := cells_4 BK152.out trivial; obtain ⟨hfz8_0, hfz8_1, hfz8_2, hfz8_3, -⟩ := frz_4 BK152.out) | (go_at_call 60; (with_reducible refine (spec_l6long.calls k _ _ l0_0 a0_1 a0_2 _ _ l0_3 t154 _ ?side1 ?side2 ?side3 ?side4 A4.out).mono ?_); (case side1 => exact kcb); (case side2 => exact HC0_0.out); (case side3 => exact kcb); (case side4 => exact HC0_3.out); rintro e w9 ⟨rfl, hb⟩; replace BK152 := Aside0.mk (blb BK152 hb); replace HB := Aside0.mk (below_step bel hb); (try clear hb); (try clear hb2); (try clear hk); (try clear hi)))
  go_ret
  exact ⟨by first | rfl | (simp [errW_none, errW_some] <;> rfl) | (simp [*, errW_none, errW_some] <;> rfl), by repeat (first | (with_reducible first | exact HB.out | apply below_alloc | apply pw_below_drewN | apply below_drew1 | refine below_set ?_ GE152.out) | exact HB.out)⟩
 ·rw [if_neg c3] at H
  have c3b0 : decide (0 ≤ t153) = false := decide_eq_false c3
  clear c3
  obtain rfl := Option.some.inj H
  go_enter Try.func16, Try.ntmps16
  go_wp2_with (first | ((with_reducible refine gate_dst (N := 1) rfl ?_); refine bx_ 1 #[.slice A0_0 l0_0.length c0_0, .bool a0_1, .int .i64 a0_2, .slice A0_3 l0_3.length c0_3] 30 (h := ?_); intro gb152 hg w10 hbox hb; have BK152 := Aside0.mk (hbox); have GW152 := Aside0.mk ((by rw [hg]; exact (below_size bel) : w.heap.size ≤ gb152)); have GE152 := Aside0.mk ((by rw [hg]; exact (below_size bel) : w.heap.size ≤ gb152)); replace HB := Aside0.mk (below_step bel hb); clear hb hbox hg; obtain ⟨hcz11_0, hcz11_1, hcz11_2, hcz11_3, -⟩ := cells_4 BK152.out trivial; obtain ⟨hfz11_0, hfz11_1, hfz11_2, hfz11_3, -⟩ := frz_4 BK152.out) | ((with_reducible refine gate_callee (f := 59) rfl ?_); refine gl_ (some 4) Try.func59 #[.agg #[.slice A0_0 l0_0.length c0_0, .bool a0_1, .int .i64 a0_2, .slice A0_3 l0_3.length c0_3], .bool true, .int .i64 200, .int .i64 0] (h := ?_); (with_reducible refine (spec_l6ok.calls k _ _ l0_0 a0_1 a0_2 _ _ l0_3 true 200 0 t153 _ ?side1 ?side2 ?side3 ?side4 A2.out).mono ?_); (case side1 => exact kcb); (case side2 => exact HC0_0.out); (case side3 => exact kcb); (case side4 => exact HC0_3.out); rintro e w12 ⟨rfl, hb⟩; refine ⟨_, rfl, ?_⟩; replace BK152 := Aside0.mk (blb BK152 hb); replace HB := Aside0.mk (below_step bel hb); (try clear hb); (try clear hb2); (try clear hk); (try clear hi)))
  go_ret
  exact ⟨by first | rfl | (simp [errW_none, errW_some] <;> rfl) | (simp [*, errW_none, errW_some] <;> rfl), by repeat (first | (with_reducible first | exact HB.out | apply below_alloc | apply pw_below_drewN | apply below_drew1 | refine below_set ?_ GE152.out) | exact HB.out)⟩

/-! ### spec_HasPrefix: function 75 -/
def spec_HasPrefix.f (l0 : List Int) (l1 : List Int) : Option (Bool) := if (l0.length : Int) ≥ (l1.length : Int) then (if 0 ≤ (l1.length : Int) then (if (l1.length : Int) ≤ (l0.length : Int) then (some ((strOfNums (l0.take ((l1.length : Int) : Int).toNat)).toList == (strOfNums l1).toList)) else (none)) else (none)) else (some false)
set_option maxHeartbeats 8000000 in
set_option maxRecDepth 100000 in
theorem spec_HasPrefix.calls (A0 : Option Addr) (c0 : Nat) (l0 : List Int) (A1 : Option Addr) (c1 : Nat) (l1 : List Int) (r : Bool) (w : World) (hr0 : Kd.C (Kd.int .u8) w A0 l0.length l0) (hc0 : l0.length ≤ c0) (hr1 : Kd.C (Kd.int .u8) w A1 l1.length l1) (hc1 : l1.length ≤ c1) (h : spec_HasPrefix.f l0 l1 = some r) :
  Calls Try.prog 75 #[.slice A0 l0.length c0, .slice A1 l1.length c1] w fun e w' => e = .returned (.bool r) ∧ Drawn0 w w' := by
 have HR0 := Aside0.mk hr0
 have HC0 := Aside0.mk hc0
 clear hr0 hc0
 have HR1 := Aside0.mk hr1
 have HC1 := Aside0.mk hc1
 clear hr1 hc1
 have H : (if (l0.length : Int) ≥ (l1.length : Int) then (if 0 ≤ (l1.length : Int) then (if (l1.length : Int) ≤ (l0.length : Int) then (some ((strOfNums (l0.take ((l1.length : Int) : Int).toNat)).toList == (strOfNums l1).toList)) else (none)) else (none)) else (some false)) = some r := h
 clear h
 by_cases c3 : (l0.length : Int) ≥ (l1.length : Int)
 ·rw [if_pos c3] at H
  have c3b0 : decide ((l1.length : Int) ≤ (l0.length : Int)) = true := decide_eq_true c3
  have c3b1 : decide (l1.length ≤ l0.length) = true := decide_eq_true (Int.ofNat_le.mp c3)
  clear c3
  by_cases c4 : 0 ≤ (l1.length : Int)
  ·rw [if_pos c4] at H
   have c4b0 := eq_true c4
   have c4b1 : decide (0 ≤ (l1.length : Int)) = true := decide_eq_true c4
   clear c4
   by_cases c5 : (l1.length : Int) ≤ (l0.length : Int)
   ·rw [if_pos c5] at H
    have c5b0 := eq_true c5
    have c5b1 : decide ((l1.length : Int) ≤ (l0.length : Int)) = true := decide_eq_true c5
    clear c5
    obtain rfl := Option.some.inj H
    obtain ⟨i06, hi06, _, hsz6, _⟩ := info_parts info5
    obtain ⟨hcut6, hA6, hC6⟩ := print_take_of (P := Try.prog) (Value.int .u8) 0 22 5 .i64 Try.underlying22 hi06 hsz6 A0 c0 l0 (l1.length : Int) od od HC0.out
    have HR155 := Aside0.mk (Kd.C_of_reads (h1 := fun _ => rfl) (hA6 _ (Kd.reads_of_C HR0.out)))
    have HC155 := Aside0.mk hC6
    clear hA6 hC6 hi06 hsz6
    (try rw [show (l0.take ((l1.length : Int) : Int).toNat).length = (l1.length : Int).toNat from (by rw [List.length_take]; have h_ : ((l1.length : Int) : Int) ≤ (l0.length : Int) := od; omega)] at hcut6)
    (try simp only [Int.toNat_natCast] at hcut6)
    have hcv7 := Kd.C_string (P := Try.prog) (A := A0) (c := c0) Try.underlying22 Try.underlying5 Try.underlying9 HR155.out
    have hcw7 := fun nq_ : Nat => Kd.C_string (P := Try.prog) (A := A0) (c := c0) Try.underlying22 Try.underlying5 Try.underlying9 (Kd.C_drewN HR155.out nq_)
    (try rw [show (l0.take ((l1.length : Int) : Int).toNat).length = (l1.length : Int).toNat from (by rw [List.length_take]; have h_ : ((l1.length : Int) : Int) ≤ (l0.length : Int) := od; omega)] at hcv7 hcw7)
    (try simp only [Int.toNat_natCast] at hcv7 hcw7)
    have hcv8 := Kd.C_string (P := Try.prog) (A := A1) (c := c1) Try.underlying22 Try.underlying5 Try.underlying9 HR1.out
    have hcw8 := fun nq_ : Nat => Kd.C_string (P := Try.prog) (A := A1) (c := c1) Try.underlying22 Try.underlying5 Try.underlying9 (Kd.C_drewN HR1.out nq_)
    go_enter Try.func75, Try.ntmps75
    go_wp2
    repeat (go_quiet (fail); try go_wp2)
    go_ret
    exact ⟨by first | rfl | (simp; done) | (simp [*]; done), by repeat (first | exact Drawn0.refl _ | apply Drawn0.step)⟩
   ·rw [if_neg c5] at H
    exact absurd H (by simp)
  ·rw [if_neg c4] at H
   exact absurd H (by simp)
 ·rw [if_neg c3] at H
  have c3b0 : decide ((l1.length : Int) ≤ (l0.length : Int)) = false := decide_eq_false c3
  have c3b1 : decide (l1.length ≤ l0.length) = false := decide_eq_false (fun h => c3 (Int.ofNat_le.mpr h))
  clear c3
  obtain rfl := Option.some.inj H
  go_enter Try.func75, Try.ntmps75
  go_wp2
  repeat (go_quiet (fail); try go_wp2)
  go_ret
  exact ⟨by first | rfl | (simp; done) | (simp [*]; done), by repeat (first | exact Drawn0.refl _ | apply Drawn0.step)⟩

/-! ### spec_l6get: function 66 -/
mutual
def spec_l6get.l0 : Nat → List Int → Int → List Int → Bool → Int → List (S30) → Option (Int × Bool)
 | 0, _, _, _, _, _, _ => none
 | k + 1, x1, x6, x157000, x157001, x157002, x157003 => if x6 < (x157003.length : Int) then (if 0 ≤ x6 then (if 0 < (((rd_T30 x157003 x6).f0).length : Int) then (if 0 < (x1.length : Int) then (if (rd ((rd_T30 x157003 x6).f0) 0) = (rd x1 0) then ((spec_l6get.f k ((rd_T30 x157003 x6).f0) ((rd_T30 x157003 x6).f1) ((rd_T30 x157003 x6).f2) ((rd_T30 x157003 x6).f3) x1).bind fun bt163 => (some (bt163.1, bt163.2))) else (spec_l6get.l0 k x1 (wrap64 (x6 + 1)) x157000 x157001 x157002 x157003)) else (none)) else (none)) else (none)) else (some (0, false))
def spec_l6get.f : Nat → List Int → Bool → Int → List (S30) → List Int → Option (Int × Bool)
 | 0, _, _, _, _, _ => none
 | k + 1, l0_0, a0_1, a0_2, l0_3, l1 => (spec_HasPrefix.f l1 l0_0).bind fun t157 => (if t157 = true then (if 0 ≤ (l0_0.length : Int) then (if (l0_0.length : Int) ≤ (l1.length : Int) then (if ((l1.drop ((l0_0.length : Int) : Int).toNat).length : Int) = 0 then (some (a0_2, a0_1)) else (spec_l6get.l0 k (l1.drop ((l0_0.length : Int) : Int).toNat) 0 l0_0 a0_1 a0_2 l0_3)) else (none)) else (none)) else (some (0, false)))
end
theorem spec_l6get.mono_l : ∀ k, (∀ y0 y1 y2 y3 y4, LeO (spec_l6get.f k y0 y1 y2 y3 y4) (spec_l6get.f (k + 1) y0 y1 y2 y3 y4)) ∧ (∀ y0 y1 y2 y3 y4 y5, LeO (spec_l6get.l0 k y0 y1 y2 y3 y4 y5) (spec_l6get.l0 (k + 1) y0 y1 y2 y3 y4 y5))
 | 0 => ⟨fun _ _ _ _ _ r h => by simp [spec_l6get.f] at h, fun _ _ _ _ _ _ r h => by simp [spec_l6get.l0] at h⟩
 | k + 1 => by
  obtain ⟨ih0, ih1⟩ := spec_l6get.mono_l k
  refine ⟨?_, ?_⟩
  ·intro y0 y1 y2 y3 y4
   unfold spec_l6get.f
   repeat' first
   | (with_reducible exact ih0 _ _ _ _ _)
   | (with_reducible exact ih1 _ _ _ _ _ _)
   | (with_reducible exact LeO.refl _)
   | (with_reducible exact LeO.none _)
   | (with_reducible refine LeO.ite ?_ ?_)
   | (with_reducible refine LeO.bind ?_ (fun _ => ?_))
   | exact ih0 _ _ _ _ _
   | exact ih1 _ _ _ _ _ _
   | exact LeO.none _
   | refine LeO.ite ?_ ?_
   | refine LeO.bind ?_ (fun _ => ?_)
  ·intro y0 y1 y2 y3 y4 y5
   unfold spec_l6get.l0
   repeat' first
   | (with_reducible exact ih0 _ _ _ _ _)
   | (with_reducible exact ih1 _ _ _ _ _ _)
   | (with_reducible exact LeO.refl _)
   | (with_reducible exact LeO.none _)
   | (with_reducible refine LeO.ite ?_ ?_)
   | (with_reducible refine LeO.bind ?_ (fun _ => ?_))
   | exact ih0 _ _ _ _ _
   | exact ih1 _ _ _ _ _ _
   | exact LeO.none _
   | refine LeO.ite ?_ ?_
   | refine LeO.bind ?_ (fun _ => ?_)
theorem spec_l6get.mono : ∀ a0 a1 a2 a3 a4 k, LeO (spec_l6get.f k a0 a1 a2 a3 a4) (spec_l6get.f (k + 1) a0 a1 a2 a3 a4) := by
 intro a0 a1 a2 a3 a4 k
 obtain ⟨ih0, ih1⟩ := spec_l6get.mono_l k
 exact ih0 a0 a1 a2 a3 a4
set_option maxHeartbeats 8000000 in
set_option maxRecDepth 100000 in
theorem spec_l6get.calls (k : Nat) : ∀ (A0_0 : Option Addr) (c0_0 : Nat) (l0_0 : List Int) (a0_1 : Bool) (a0_2 : Int) (A0_3 : Option Addr) (c0_3 : Nat) (l0_3 : List (S30)) (A1 : Option Addr) (c1 : Nat) (l1 : List Int) (r1 : Int) (r2 : Bool) (w : World) (hr0_0 : Kd.C (Kd.int .u8) w A0_0 l0_0.length l0_0) (hc0_0 : l0_0.length ≤ c0_0) (hr0_3 : Kd.C k30 w A0_3 l0_3.length l0_3) (hc0_3 : l0_3.length ≤ c0_3) (hr1 : Kd.C (Kd.int .u8) w A1 l1.length l1) (hc1 : l1.length ≤ c1) (h : spec_l6get.f k l0_0 a0_1 a0_2 l0_3 l1 = some (r1, r2)),
  Calls Try.prog 66 #[.agg #[.slice A0_0 l0_0.length c0_0, .bool a0_1, .int .i64 a0_2, .slice A0_3 l0_3.length c0_3], .slice A1 l1.length c1] w fun e w' => e = .returned (.tuple #[.int .i64 r1, .bool r2]) ∧ Below w.heap.size w w' := by
 induction k using Nat.strongRecOn with
 | _ k ih =>
 intro A0_0 c0_0 l0_0 a0_1 a0_2 A0_3 c0_3 l0_3 A1 c1 l1 r1 r2 w hr0_0 hc0_0 hr0_3 hc0_3 hr1 hc1 h
 cases k with
 | zero => exact absurd h (by simp [spec_l6get.f])
 | succ k =>
 simp only [spec_l6get.f] at h
 have hu30 := Try.underlying30
 have HR0_0 := Aside0.mk hr0_0
 have HC0_0 := Aside0.mk hc0_0
 clear hr0_0 hc0_0
 have HR0_3 := Aside0.mk hr0_3
 have HC0_3 := Aside0.mk hc0_3
 clear hr0_3 hc0_3
 have HR1 := Aside0.mk hr1
 have HC1 := Aside0.mk hc1
 clear hr1 hc1
 have HB := Aside0.mk (Below.refl w.heap.size w)
 have H : ((spec_HasPrefix.f l1 l0_0).bind fun t157 => (if t157 = true then (if 0 ≤ (l0_0.length : Int) then (if (l0_0.length : Int) ≤ (l1.length : Int) then (if ((l1.drop ((l0_0.length : Int) : Int).toNat).length : Int) = 0 then (some (a0_2, a0_1)) else (spec_l6get.l0 k (l1.drop ((l0_0.length : Int) : Int).toNat) 0 l0_0 a0_1 a0_2 l0_3)) else (none)) else (none)) else (some (0, false)))) = some (r1, r2) := h
 clear h
 replace H := Option.bind_eq_some_iff.mp H
 obtain ⟨t157, A30, H⟩ := H
 replace H : (if t157 = true then (if 0 ≤ (l0_0.length : Int) then (if (l0_0.length : Int) ≤ (l1.length : Int) then (if ((l1.drop ((l0_0.length : Int) : Int).toNat).length : Int) = 0 then (some (a0_2, a0_1)) else (spec_l6get.l0 k (l1.drop ((l0_0.length : Int) : Int).toNat) 0 l0_0 a0_1 a0_2 l0_3)) else (none)) else (none)) else (some (0, false))) = some (r1, r2) := H
 have A3 := Aside0.mk A30
 clear A30
 by_cases c4 : t157 = true
 ·subst c4
  have H1 : (if 0 ≤ (l0_0.length : Int) then (if (l0_0.length : Int) ≤ (l1.length : Int) then (if ((l1.drop ((l0_0.length : Int) : Int).toNat).length : Int) = 0 then (some (a0_2, a0_1)) else (spec_l6get.l0 k (l1.drop ((l0_0.length : Int) : Int).toNat) 0 l0_0 a0_1 a0_2 l0_3)) else (none)) else (none)) = some (r1, r2) := by rw [if_pos rfl] at H; exact H
  clear H
  have H := H1
  clear H1
  by_cases c5 : 0 ≤ (l0_0.length : Int)
  ·rw [if_pos c5] at H
   have c5b0 := eq_true c5
   have c5b1 : decide (0 ≤ (l0_0.length : Int)) = true := decide_eq_true c5
   clear c5
   by_cases c6 : (l0_0.length : Int) ≤ (l1.length : Int)
   ·rw [if_pos c6] at H
    have c6b0 := eq_true c6
    have c6b1 : decide ((l0_0.length : Int) ≤ (l1.length : Int)) = true := decide_eq_true c6
    clear c6
    by_cases c7 : ((l1.drop ((l0_0.length : Int) : Int).toNat).length : Int) = 0
    ·rw [if_pos c7] at H
     have c7b0 : (((l1.drop ((l0_0.length : Int) : Int).toNat).length : Int) == 0) = true := beq_iff_eq.mpr c7
     have c7b0z : (((l1.length - l0_0.length : Nat) : Int) == 0) = true := by rw [← c7b0]; simp only [List.length_drop, Int.toNat_natCast]
     have c7b1 : (((l1.drop ((l0_0.length : Int) : Int).toNat).length : Int) != 0) = false := bne_eq_false_iff_eq.mpr c7
     clear c7
     simp only [Option.some.injEq, Prod.mk.injEq] at H
     obtain ⟨rfl, rfl⟩ := H
     go_enter Try.func66, Try.ntmps66
     go_wp2_with (first | ((with_reducible refine gate_dst (N := 2) rfl ?_); refine bx_ 2 #[.slice A0_0 l0_0.length c0_0, .bool a0_1, .int .i64 a0_2, .slice A0_3 l0_3.length c0_3] 30 (h := ?_); intro gb156 hg w8 hbox hb; have BK156 := Aside0.mk (hbox); have GW156 := Aside0.mk ((by rw [hg]; exact (below_size bel) : w.heap.size ≤ gb156)); have GE156 := Aside0.mk ((by rw [hg]; exact (below_size bel) : w.heap.size ≤ gb156)); replace HB := Aside0.mk (below_step bel hb); clear hb hbox hg; obtain ⟨hcz9_0, hcz9_1, hcz9_2, hcz9_3, -⟩ := cells_4 BK156.out trivial; obtain ⟨hfz9_0, hfz9_1, hfz9_2, hfz9_3, -⟩ := frz_4 BK156.out) | (go_at_call 75; (with_reducible refine (spec_HasPrefix.calls _ _ l1 _ _ l0_0 true _ ?side1 ?side2 ?side3 ?side4 A3.out).mono ?_); (case side1 => exact kcb); (case side2 => exact HC1.out); (case side3 => exact kcb); (case side4 => exact HC0_0.out); rintro e w' ⟨rfl, ⟨nd, rfl⟩⟩; (try first | exact ⟨rfl, _, World.drewN_drewN _ _ _⟩ | exact ⟨rfl, _, Eq.trans (World.drewN_drewN _ _ _) (congrArg (World.drewN _) (Nat.add_assoc _ _ _))⟩); obtain ⟨i010, hi010, _, hsz10, _⟩ := info_parts info5; obtain ⟨A10, hcut10, hA10, hC10⟩ := print_drop_of (P := Try.prog) (Value.int .u8) 0 22 5 .i64 Try.underlying22 hi010 hsz10 A1 c1 l1 (l0_0.length : Int) od od HC1.out; have HR158 := Aside0.mk (Kd.C_of_reads (h1 := fun _ => rfl) (hA10 _ (Kd.reads_of_C HR1.out))); have HC158 := Aside0.mk hC10; clear hA10 hC10 hi010 hsz10; (try rw [show (l1.drop ((l0_0.length : Int) : Int).toNat).length = (l1.length - (l0_0.length : Int).toNat) from List.length_drop] at hcut10); (try simp only [Int.toNat_natCast] at hcut10)))
     repeat (go_quiet (first | ((with_reducible refine gate_dst (N := 2) rfl ?_); refine bx_ 2 #[.slice A0_0 l0_0.length c0_0, .bool a0_1, .int .i64 a0_2, .slice A0_3 l0_3.length c0_3] 30 (h := ?_); intro gb156 hg w8 hbox hb; have BK156 := Aside0.mk (hbox); have GW156 := Aside0.mk ((by rw [hg]; exact (below_size bel) : w.heap.size ≤ gb156)); have GE156 := Aside0.mk ((by rw [hg]; exact (below_size bel) : w.heap.size ≤ gb156)); replace HB := Aside0.mk (below_step bel hb); clear hb hbox hg; obtain ⟨hcz9_0, hcz9_1, hcz9_2, hcz9_3, -⟩ := cells_4 BK156.out trivial; obtain ⟨hfz9_0, hfz9_1, hfz9_2, hfz9_3, -⟩ := frz_4 BK156.out) | (go_at_call 75; (with_reducible refine (spec_HasPrefix.calls _ _ l1 _ _ l0_0 true _ ?side1 ?side2 ?side3 ?side4 A3.out).mono ?_); (case side1 => exact kcb); (case side2 => exact HC1.out); (case side3 => exact kcb); (case side4 => exact HC0_0.out); rintro e w' ⟨rfl, ⟨nd, rfl⟩⟩; (try first | exact ⟨rfl, _, World.drewN_drewN _ _ _⟩ | exact ⟨rfl, _, Eq.trans (World.drewN_drewN _ _ _) (congrArg (World.drewN _) (Nat.add_assoc _ _ _))⟩); obtain ⟨i010, hi010, _, hsz10, _⟩ := info_parts info5; obtain ⟨A10, hcut10, hA10, hC10⟩ := print_drop_of (P := Try.prog) (Value.int .u8) 0 22 5 .i64 Try.underlying22 hi010 hsz10 A1 c1 l1 (l0_0.length : Int) od od HC1.out; have HR158 := Aside0.mk (Kd.C_of_reads (h1 := fun _ => rfl) (hA10 _ (Kd.reads_of_C HR1.out))); have HC158 := Aside0.mk hC10; clear hA10 hC10 hi010 hsz10; (try rw [show (l1.drop ((l0_0.length : Int) : Int).toNat).length = (l1.length - (l0_0.length : Int).toNat) from List.length_drop] at hcut10); (try simp only [Int.toNat_natCast] at hcut10))); try go_wp2_with (first | ((with_reducible refine gate_dst (N := 2) rfl ?_); refine bx_ 2 #[.slice A0_0 l0_0.length c0_0, .bool a0_1, .int .i64 a0_2, .slice A0_3 l0_3.length c0_3] 30 (h := ?_); intro gb156 hg w8 hbox hb; have BK156 := Aside0.mk (hbox); have GW156 := Aside0.mk ((by rw [hg]; exact (below_size bel) : w.heap.size ≤ gb156)); have GE156 := Aside0.mk ((by rw [hg]; exact (below_size bel) : w.heap.size ≤ gb156)); replace HB := Aside0.mk (below_step bel hb); clear hb hbox hg; obtain ⟨hcz9_0, hcz9_1, hcz9_2, hcz9_3, -⟩ := cells_4 BK156.out trivial; obtain ⟨hfz9_0, hfz9_1, hfz9_2, hfz9_3, -⟩ := frz_4 BK156.out) | (go_at_call 75; (with_reducible refine (spec_HasPrefix.calls _ _ l1 _ _ l0_0 true _ ?side1 ?side2 ?side3 ?side4 A3.out).mono ?_); (case side1 => exact kcb); (case side2 => exact HC1.out); (case side3 => exact kcb); (case side4 => exact HC0_0.out); rintro e w' ⟨rfl, ⟨nd, rfl⟩⟩; (try first | exact ⟨rfl, _, World.drewN_drewN _ _ _⟩ | exact ⟨rfl, _, Eq.trans (World.drewN_drewN _ _ _) (congrArg (World.drewN _) (Nat.add_assoc _ _ _))⟩); obtain ⟨i010, hi010, _, hsz10, _⟩ := info_parts info5; obtain ⟨A10, hcut10, hA10, hC10⟩ := print_drop_of (P := Try.prog) (Value.int .u8) 0 22 5 .i64 Try.underlying22 hi010 hsz10 A1 c1 l1 (l0_0.length : Int) od od HC1.out; have HR158 := Aside0.mk (Kd.C_of_reads (h1 := fun _ => rfl) (hA10 _ (Kd.reads_of_C HR1.out))); have HC158 := Aside0.mk hC10; clear hA10 hC10 hi010 hsz10; (try rw [show (l1.drop ((l0_0.length : Int) : Int).toNat).length = (l1.length - (l0_0.length : Int).toNat) from List.length_drop] at hcut10); (try simp only [Int.toNat_natCast] at hcut10))))
     go_ret2
     exact ⟨by first | rfl | (simp [errW_none, errW_some] <;> rfl) | (simp [*, errW_none, errW_some] <;> rfl), by repeat (first | (with_reducible first | exact HB.out | apply below_alloc | apply pw_below_drewN | apply below_drew1 | refine below_set ?_ GE156.out) | exact HB.out)⟩
    ·rw [if_neg c7] at H
     have c7b0 : (((l1.drop ((l0_0.length : Int) : Int).toNat).length : Int) == 0) = false := beq_eq_false_iff_ne.mpr c7
     have c7b0z : (((l1.length - l0_0.length : Nat) : Int) == 0) = false := by rw [← c7b0]; simp only [List.length_drop, Int.toNat_natCast]
     have c7b1 : (((l1.drop ((l0_0.length : Int) : Int).toNat).length : Int) != 0) = true := bne_iff_ne.mpr c7
     have c7b2 : ¬ ((l1.drop ((l0_0.length : Int) : Int).toNat) = []) := fun h_ => c7 (by rw [h_]; rfl)
     have H' := Aside0.mk H
     clear H
     go_enter Try.func66, Try.ntmps66
     go_wp2_with (first | ((with_reducible refine gate_dst (N := 2) rfl ?_); refine bx_ 2 #[.slice A0_0 l0_0.length c0_0, .bool a0_1, .int .i64 a0_2, .slice A0_3 l0_3.length c0_3] 30 (h := ?_); intro gb156 hg w11 hbox hb; have BK156 := Aside0.mk (hbox); have GW156 := Aside0.mk ((by rw [hg]; exact (below_size bel) : w.heap.size ≤ gb156)); have GE156 := Aside0.mk ((by rw [hg]; exact (below_size bel) : w.heap.size ≤ gb156)); replace HB := Aside0.mk (below_step bel hb); clear hb hbox hg; obtain ⟨hcz12_0, hcz12_1, hcz12_2, hcz12_3, -⟩ := cells_4 BK156.out trivial; obtain ⟨hfz12_0, hfz12_1, hfz12_2, hfz12_3, -⟩ := frz_4 BK156.out) | (go_at_call 75; (with_reducible refine (spec_HasPrefix.calls _ _ l1 _ _ l0_0 true _ ?side1 ?side2 ?side3 ?side4 A3.out).mono ?_); (case side1 => exact kcb); (case side2 => exact HC1.out); (case side3 => exact kcb); (case side4 => exact HC0_0.out); rintro e w' ⟨rfl, ⟨nd, rfl⟩⟩; (try first | exact ⟨rfl, _, World.drewN_drewN _ _ _⟩ | exact ⟨rfl, _, Eq.trans (World.drewN_drewN _ _ _) (congrArg (World.drewN _) (Nat.add_assoc _ _ _))⟩); obtain ⟨i013, hi013, _, hsz13, _⟩ := info_parts info5; obtain ⟨A13, hcut13, hA13, hC13⟩ := print_drop_of (P := Try.prog) (Value.int .u8) 0 22 5 .i64 Try.underlying22 hi013 hsz13 A1 c1 l1 (l0_0.length : Int) od od HC1.out; have HR158 := Aside0.mk (Kd.C_of_reads (h1 := fun _ => rfl) (hA13 _ (Kd.reads_of_C HR1.out))); have HC158 := Aside0.mk hC13; clear hA13 hC13 hi013 hsz13; (try rw [show (l1.drop ((l0_0.length : Int) : Int).toNat).length = (l1.length - (l0_0.length : Int).toNat) from List.length_drop] at hcut13); (try simp only [Int.toNat_natCast] at hcut13)))
     repeat (go_quiet (first | ((with_reducible refine gate_dst (N := 2) rfl ?_); refine bx_ 2 #[.slice A0_0 l0_0.length c0_0, .bool a0_1, .int .i64 a0_2, .slice A0_3 l0_3.length c0_3] 30 (h := ?_); intro gb156 hg w11 hbox hb; have BK156 := Aside0.mk (hbox); have GW156 := Aside0.mk ((by rw [hg]; exact (below_size bel) : w.heap.size ≤ gb156)); have GE156 := Aside0.mk ((by rw [hg]; exact (below_size bel) : w.heap.size ≤ gb156)); replace HB := Aside0.mk (below_step bel hb); clear hb hbox hg; obtain ⟨hcz12_0, hcz12_1, hcz12_2, hcz12_3, -⟩ := cells_4 BK156.out trivial; obtain ⟨hfz12_0, hfz12_1, hfz12_2, hfz12_3, -⟩ := frz_4 BK156.out) | (go_at_call 75; (with_reducible refine (spec_HasPrefix.calls _ _ l1 _ _ l0_0 true _ ?side1 ?side2 ?side3 ?side4 A3.out).mono ?_); (case side1 => exact kcb); (case side2 => exact HC1.out); (case side3 => exact kcb); (case side4 => exact HC0_0.out); rintro e w' ⟨rfl, ⟨nd, rfl⟩⟩; (try first | exact ⟨rfl, _, World.drewN_drewN _ _ _⟩ | exact ⟨rfl, _, Eq.trans (World.drewN_drewN _ _ _) (congrArg (World.drewN _) (Nat.add_assoc _ _ _))⟩); obtain ⟨i013, hi013, _, hsz13, _⟩ := info_parts info5; obtain ⟨A13, hcut13, hA13, hC13⟩ := print_drop_of (P := Try.prog) (Value.int .u8) 0 22 5 .i64 Try.underlying22 hi013 hsz13 A1 c1 l1 (l0_0.length : Int) od od HC1.out; have HR158 := Aside0.mk (Kd.C_of_reads (h1 := fun _ => rfl) (hA13 _ (Kd.reads_of_C HR1.out))); have HC158 := Aside0.mk hC13; clear hA13 hC13 hi013 hsz13; (try rw [show (l1.drop ((l0_0.length : Int) : Int).toNat).length = (l1.length - (l0_0.length : Int).toNat) from List.length_drop] at hcut13); (try simp only [Int.toNat_natCast] at hcut13))); try go_wp2_with (first | ((with_reducible refine gate_dst (N := 2) rfl ?_); refine bx_ 2 #[.slice A0_0 l0_0.length c0_0, .bool a0_1, .int .i64 a0_2, .slice A0_3 l0_3.length c0_3] 30 (h := ?_); intro gb156 hg w11 hbox hb; have BK156 := Aside0.mk (hbox); have GW156 := Aside0.mk ((by rw [hg]; exact (below_size bel) : w.heap.size ≤ gb156)); have GE156 := Aside0.mk ((by rw [hg]; exact (below_size bel) : w.heap.size ≤ gb156)); replace HB := Aside0.mk (below_step bel hb); clear hb hbox hg; obtain ⟨hcz12_0, hcz12_1, hcz12_2, hcz12_3, -⟩ := cells_4 BK156.out trivial; obtain ⟨hfz12_0, hfz12_1, hfz12_2, hfz12_3, -⟩ := frz_4 BK156.out) | (go_at_call 75; (with_reducible refine (spec_HasPrefix.calls _ _ l1 _ _ l0_0 true _ ?side1 ?side2 ?side3 ?side4 A3.out).mono ?_); (case side1 => exact kcb); (case side2 => exact HC1.out); (case side3 => exact kcb); (case side4 => exact HC0_0.out); rintro e w' ⟨rfl, ⟨nd, rfl⟩⟩; (try first | exact ⟨rfl, _, World.drewN_drewN _ _ _⟩ | exact ⟨rfl, _, Eq.trans (World.drewN_drewN _ _ _) (congrArg (World.drewN _) (Nat.add_assoc _ _ _))⟩); obtain ⟨i013, hi013, _, hsz13, _⟩ := info_parts info5; obtain ⟨A13, hcut13, hA13, hC13⟩ := print_drop_of (P := Try.prog) (Value.int .u8) 0 22 5 .i64 Try.underlying22 hi013 hsz13 A1 c1 l1 (l0_0.length : Int) od od HC1.out; have HR158 := Aside0.mk (Kd.C_of_reads (h1 := fun _ => rfl) (hA13 _ (Kd.reads_of_C HR1.out))); have HC158 := Aside0.mk hC13; clear hA13 hC13 hi013 hsz13; (try rw [show (l1.drop ((l0_0.length : Int) : Int).toNat).length = (l1.length - (l0_0.length : Int).toNat) from List.length_drop] at hcut13); (try simp only [Int.toNat_natCast] at hcut13))))
     go_loopg [6] k (fun kq v6 w' => ∃ (x6_1 : Int), v6 = .int .i64 x6_1 ∧ Aside0 (spec_l6get.l0 kq (l1.drop ((l0_0.length : Int) : Int).toNat) x6_1 l0_0 a0_1 a0_2 l0_3 = some (r1, r2)) ∧ Aside0 (kq ≤ k) ∧ Aside0 (w'.heap[gb156]? = some (.cells #[(.slice A0_0 l0_0.length c0_0), .bool a0_1, .int .i64 a0_2, (.slice A0_3 l0_3.length c0_3)] 30 (0, 0))) ∧ Aside0 (Below w.heap.size w w'))
     case atStart => exact ⟨(0), (by first | rfl | (simp; done) | (simp [*]; done)), H', ⟨Nat.le_refl _⟩, ⟨by (with_reducible repeat (first | refine blk_drewN ?_ _ | refine blk_drew ?_ | refine blk_alloc ?_ _)); exact BK156.out⟩, ⟨by repeat (first | (with_reducible first | exact HB.out | apply below_alloc | apply pw_below_drewN | apply below_drew1 | refine below_set ?_ GE156.out) | exact HB.out)⟩⟩
     case round =>
      clear H'
      try clear c1; try clear p2; try clear c4; try clear c5; try clear c5b0; try clear c5b1; try clear c6; try clear c6b0; try clear c6b1; try clear c7; try clear c7b0; try clear c7b1; try clear c7b2; try clear hcz12_0; try clear hcz12_1; try clear hcz12_2; try clear hcz12_3; try clear hcz9_0; try clear hcz9_1; try clear hcz9_2; try clear hcz9_3; try clear hfz12_0; try clear hfz12_1; try clear hfz12_2; try clear hfz12_3; try clear hfz9_0; try clear hfz9_1; try clear hfz9_2; try clear hfz9_3
      obtain ⟨x6_1, rfl, HA, HK1, BK156, HB⟩ := hrel
      cases gk with
      | zero => exact absurd HA.out (by simp [spec_l6get.l0])
      | succ k1 =>
       have H := HA.out
       clear HA
       simp only [spec_l6get.l0] at H
       by_cases c14 : x6_1 < (l0_3.length : Int)
       ·rw [if_pos c14] at H
        have c14b0 : decide (x6_1 < (l0_3.length : Int)) = true := decide_eq_true c14
        clear c14
        by_cases c15 : 0 ≤ x6_1
        ·rw [if_pos c15] at H
         have c15b0 : decide (0 ≤ x6_1) = true := decide_eq_true c15
         clear c15
         by_cases c16 : 0 < (((rd_T30 l0_3 x6_1).f0).length : Int)
         ·rw [if_pos c16] at H
          have c16b0 : decide (0 < (((rd_T30 l0_3 x6_1).f0).length : Int)) = true := decide_eq_true c16
          have c16b1 : decide (0 < ((rd_T30 l0_3 x6_1).f0).length) = true := decide_eq_true (by omega)
          clear c16
          by_cases c17 : 0 < ((l1.drop ((l0_0.length : Int) : Int).toNat).length : Int)
          ·rw [if_pos c17] at H
           have c17b0 : decide (0 < ((l1.drop ((l0_0.length : Int) : Int).toNat).length : Int)) = true := decide_eq_true c17
           have c17b1 : decide (0 < (l1.drop ((l0_0.length : Int) : Int).toNat).length) = true := decide_eq_true (by omega)
           clear c17
           by_cases c18 : (rd ((rd_T30 l0_3 x6_1).f0) 0) = (rd (l1.drop ((l0_0.length : Int) : Int).toNat) 0)
           ·rw [if_pos c18] at H
            have c18b0 : ((rd ((rd_T30 l0_3 x6_1).f0) 0) == (rd (l1.drop ((l0_0.length : Int) : Int).toNat) 0)) = true := beq_iff_eq.mpr c18
            have c18b0y := c18b0; (try simp only [Int.toNat_natCast] at c18b0y)
            have c18b1 : ((rd ((rd_T30 l0_3 x6_1).f0) 0) != (rd (l1.drop ((l0_0.length : Int) : Int).toNat) 0)) = false := bne_eq_false_iff_eq.mpr c18
            have c18b1y := c18b1; (try simp only [Int.toNat_natCast] at c18b1y)
            clear c18
            replace H := Option.bind_eq_some_iff.mp H
            obtain ⟨⟨t163, t164⟩, A190, H⟩ := H
            replace H : (some (t163, t164)) = some (r1, r2) := H
            have A19 := Aside0.mk A190
            clear A190
            simp only [Option.some.injEq, Prod.mk.injEq] at H
            obtain ⟨rfl, rfl⟩ := H
            obtain ⟨hcz20_0, hcz20_1, hcz20_2, hcz20_3, -⟩ := cells_4 BK156.out trivial
            obtain ⟨hfz20_0, hfz20_1, hfz20_2, hfz20_3, -⟩ := frz_4 BK156.out
            have p159 : 0 ≤ (x6_1 : Int) := od
            have q159 : x6_1 < (l0_3.length : Int) := od
            obtain ⟨ad159, A159_0, c159_0, A159_3, c159_3, e159, hx159_0, hx159_1, hx159_2, hx159_3, hl159_0, hi159_0, hl159_3, hi159_3⟩ := at_T30 HR0_3.out x6_1 p159 q159
            cases e159
            replace hx159_0 := hxb HB hx159_0
            replace hx159_1 := hxb HB hx159_1
            replace hx159_2 := hxb HB hx159_2
            replace hx159_3 := hxb HB hx159_3
            have HR159_0 := Aside0.mk hi159_0
            have HC159_0 := Aside0.mk hl159_0
            clear hi159_0 hl159_0
            have HR159_3 := Aside0.mk hi159_3
            have HC159_3 := Aside0.mk hl159_3
            clear hi159_3 hl159_3
            replace p159 := eq_true p159
            replace q159 := eq_true q159
            have p160 : 0 ≤ (0 : Int) := (by omega)
            have q160 : 0 < (((rd_T30 l0_3 x6_1).f0).length : Int) := od
            obtain ⟨ad160, e160, hx160_0⟩ := Kd.at_int HR159_0.out 0 p160 q160
            cases e160
            have qi160 : (0 < ((rd_T30 l0_3 x6_1).f0).length) = True := eq_true (by omega)
            (try rw [show ((0 : Int)).toNat = 0 from rfl] at hx160_0)
            (try rw [Addr.add_zero'] at hx160_0)
            replace hx160_0 := hxb HB hx160_0
            replace p160 := eq_true p160
            replace q160 := eq_true q160
            have p161 : 0 ≤ (0 : Int) := (by omega)
            have q161 : 0 < ((l1.drop ((l0_0.length : Int) : Int).toNat).length : Int) := od
            obtain ⟨ad161, e161, hx161_0⟩ := Kd.at_int HR158.out 0 p161 q161
            cases e161
            have qi161 : (0 < (l1.drop ((l0_0.length : Int) : Int).toNat).length) = True := eq_true (by omega)
            have qi161z : (0 < l1.length - l0_0.length) = True := by have h_ := of_eq_true qi161; rw [List.length_drop, Int.toNat_natCast] at h_; exact eq_true h_
            have qi161y : ((0 : Int) < ((l1.length - l0_0.length : Nat) : Int)) = True := eq_true (by have h_ := of_eq_true qi161z; omega)
            (try rw [show ((0 : Int)).toNat = 0 from rfl] at hx161_0)
            (try rw [Addr.add_zero'] at hx161_0)
            replace hx161_0 := hxb HB hx161_0
            replace p161 := eq_true p161
            replace q161 := eq_true q161
            have p162 : 0 ≤ (x6_1 : Int) := od
            have q162 : x6_1 < (l0_3.length : Int) := od
            obtain ⟨ad162, A162_0, c162_0, A162_3, c162_3, e162, hx162_0, hx162_1, hx162_2, hx162_3, hl162_0, hi162_0, hl162_3, hi162_3⟩ := at_T30 HR0_3.out x6_1 p162 q162
            obtain rfl : ad159 = ad162 := (by injection e162)
            replace hx162_0 := hxb HB hx162_0
            replace hx162_1 := hxb HB hx162_1
            replace hx162_2 := hxb HB hx162_2
            replace hx162_3 := hxb HB hx162_3
            have HR162_0 := Aside0.mk hi162_0
            have HC162_0 := Aside0.mk hl162_0
            clear hi162_0 hl162_0
            have HR162_3 := Aside0.mk hi162_3
            have HC162_3 := Aside0.mk hl162_3
            clear hi162_3 hl162_3
            replace p162 := eq_true p162
            replace q162 := eq_true q162
            have ea_ := Option.some.inj (hx159_0.symm.trans hx162_0)
            injection ea_ with ea_ en_ ec_
            subst ea_
            subst ec_
            clear en_
            have ea_ := Option.some.inj (hx159_3.symm.trans hx162_3)
            injection ea_ with ea_ en_ ec_
            subst ea_
            subst ec_
            clear en_
            go_wp2_with (first | (go_at_call 66; refine calls_of_args (args' := #[.agg #[.slice (some ad160) ((rd_T30 l0_3 x6_1).f0).length c159_0, .bool ((rd_T30 l0_3 x6_1).f1), .int .i64 ((rd_T30 l0_3 x6_1).f2), .slice A159_3 ((rd_T30 l0_3 x6_1).f3).length c159_3], .slice (some ad161) (l1.drop ((l0_0.length : Int) : Int).toNat).length (c1 - (l0_0.length : Int).toNat)]) (by first | (rw [show (l1.drop ((l0_0.length : Int) : Int).toNat).length = (l1.length - (l0_0.length : Int).toNat) from List.length_drop] <;> rfl) | rfl) ?_; (with_reducible refine (ih k1 (by have := HK1.out; omega) _ _ ((rd_T30 l0_3 x6_1).f0) ((rd_T30 l0_3 x6_1).f1) ((rd_T30 l0_3 x6_1).f2) _ _ ((rd_T30 l0_3 x6_1).f3) _ _ (l1.drop ((l0_0.length : Int) : Int).toNat) t163 t164 _ ?side1 ?side2 ?side3 ?side4 ?side5 ?side6 A19.out).mono ?_); (case side1 => exact kcb); (case side2 => exact HC162_0.out); (case side3 => exact kcb); (case side4 => exact HC162_3.out); (case side5 => exact kcb); (case side6 => exact HC158.out); rintro e w21 ⟨rfl, hb⟩; replace BK156 := Aside0.mk (blb BK156 hb); replace HB := Aside0.mk (below_step bel hb); (try clear hb); (try clear hb2); (try clear hk); (try clear hi)))
            repeat (go_quiet (first | (go_at_call 66; refine calls_of_args (args' := #[.agg #[.slice (some ad160) ((rd_T30 l0_3 x6_1).f0).length c159_0, .bool ((rd_T30 l0_3 x6_1).f1), .int .i64 ((rd_T30 l0_3 x6_1).f2), .slice A159_3 ((rd_T30 l0_3 x6_1).f3).length c159_3], .slice (some ad161) (l1.drop ((l0_0.length : Int) : Int).toNat).length (c1 - (l0_0.length : Int).toNat)]) (by first | (rw [show (l1.drop ((l0_0.length : Int) : Int).toNat).length = (l1.length - (l0_0.length : Int).toNat) from List.length_drop] <;> rfl) | rfl) ?_; (with_reducible refine (ih k1 (by have := HK1.out; omega) _ _ ((rd_T30 l0_3 x6_1).f0) ((rd_T30 l0_3 x6_1).f1) ((rd_T30 l0_3 x6_1).f2) _ _ ((rd_T30 l0_3 x6_1).f3) _ _ (l1.drop ((l0_0.length : Int) : Int).toNat) t163 t164 _ ?side1 ?side2 ?side3 ?side4 ?side5 ?side6 A19.out).mono ?_); (case side1 => exact kcb); (case side2 => exact HC162_0.out); (case side3 => exact kcb); (case side4 => exact HC162_3.out); (case side5 => exact kcb); (case side6 => exact HC158.out); rintro e w21 ⟨rfl, hb⟩; replace BK156 := Aside0.mk (blb BK156 hb); replace HB := Aside0.mk (below_step bel hb); (try clear hb); (try clear hb2); (try clear hk); (try clear hi))); try go_wp2_with (first | (go_at_call 66; refine calls_of_args (args' := #[.agg #[.slice (some ad160) ((rd_T30 l0_3 x6_1).f0).length c159_0, .bool ((rd_T30 l0_3 x6_1).f1), .int .i64 ((rd_T30 l0_3 x6_1).f2), .slice A159_3 ((rd_T30 l0_3 x6_1).f3).length c159_3], .slice (some ad161) (l1.drop ((l0_0.length : Int) : Int).toNat).length (c1 - (l0_0.length : Int).toNat)]) (by first | (rw [show (l1.drop ((l0_0.length : Int) : Int).toNat).length = (l1.length - (l0_0.length : Int).toNat) from List.length_drop] <;> rfl) | rfl) ?_; (with_reducible refine (ih k1 (by have := HK1.out; omega) _ _ ((rd_T30 l0_3 x6_1).f0) ((rd_T30 l0_3 x6_1).f1) ((rd_T30 l0_3 x6_1).f2) _ _ ((rd_T30 l0_3 x6_1).f3) _ _ (l1.drop ((l0_0.length : Int) : Int).toNat) t163 t164 _ ?side1 ?side2 ?side3 ?side4 ?side5 ?side6 A19.out).mono ?_); (case side1 => exact kcb); (case side2 => exact HC162_0.out); (case side3 => exact kcb); (case side4 => exact HC162_3.out); (case side5 => exact kcb); (case side6 => exact HC158.out); rintro e w21 ⟨rfl, hb⟩; replace BK156 := Aside0.mk (blb BK156 hb); replace HB := Aside0.mk (below_step bel hb); (try clear hb); (try clear hb2); (try clear hk); (try clear hi))))
            go_ret2
            exact ⟨by first | rfl | (simp [errW_none, errW_some] <;> rfl) | (simp [*, errW_none, errW_some] <;> rfl), by repeat (first | (with_reducible first | exact HB.out | apply below_alloc | apply pw_below_drewN | apply below_drew1 | refine below_set ?_ GE156.out) | exact HB.out)⟩
           ·rw [if_neg c18] at H
            have c18b0 : ((rd ((rd_T30 l0_3 x6_1).f0) 0) == (rd (l1.drop ((l0_0.length : Int) : Int).toNat) 0)) = false := beq_eq_false_iff_ne.mpr c18
            have c18b0y := c18b0; (try simp only [Int.toNat_natCast] at c18b0y)
            have c18b1 : ((rd ((rd_T30 l0_3 x6_1).f0) 0) != (rd (l1.drop ((l0_0.length : Int) : Int).toNat) 0)) = true := bne_iff_ne.mpr c18
            have c18b1y := c18b1; (try simp only [Int.toNat_natCast] at c18b1y)
            have H' := Aside0.mk H
            clear H
            obtain ⟨hcz22_0, hcz22_1, hcz22_2, hcz22_3, -⟩ := cells_4 BK156.out trivial
            obtain ⟨hfz22_0, hfz22_1, hfz22_2, hfz22_3, -⟩ := frz_4 BK156.out
            have p159 : 0 ≤ (x6_1 : Int) := od
            have q159 : x6_1 < (l0_3.length : Int) := od
            obtain ⟨ad159, A159_0, c159_0, A159_3, c159_3, e159, hx159_0, hx159_1, hx159_2, hx159_3, hl159_0, hi159_0, hl159_3, hi159_3⟩ := at_T30 HR0_3.out x6_1 p159 q159
            cases e159
            replace hx159_0 := hxb HB hx159_0
            replace hx159_1 := hxb HB hx159_1
            replace hx159_2 := hxb HB hx159_2
            replace hx159_3 := hxb HB hx159_3
            have HR159_0 := Aside0.mk hi159_0
            have HC159_0 := Aside0.mk hl159_0
            clear hi159_0 hl159_0
            have HR159_3 := Aside0.mk hi159_3
            have HC159_3 := Aside0.mk hl159_3
            clear hi159_3 hl159_3
            replace p159 := eq_true p159
            replace q159 := eq_true q159
            have p160 : 0 ≤ (0 : Int) := (by omega)
            have q160 : 0 < (((rd_T30 l0_3 x6_1).f0).length : Int) := od
            obtain ⟨ad160, e160, hx160_0⟩ := Kd.at_int HR159_0.out 0 p160 q160
            cases e160
            have qi160 : (0 < ((rd_T30 l0_3 x6_1).f0).length) = True := eq_true (by omega)
            (try rw [show ((0 : Int)).toNat = 0 from rfl] at hx160_0)
            (try rw [Addr.add_zero'] at hx160_0)
            replace hx160_0 := hxb HB hx160_0
            replace p160 := eq_true p160
            replace q160 := eq_true q160
            have p161 : 0 ≤ (0 : Int) := (by omega)
            have q161 : 0 < ((l1.drop ((l0_0.length : Int) : Int).toNat).length : Int) := od
            obtain ⟨ad161, e161, hx161_0⟩ := Kd.at_int HR158.out 0 p161 q161
            cases e161
            have qi161 : (0 < (l1.drop ((l0_0.length : Int) : Int).toNat).length) = True := eq_true (by omega)
            have qi161z : (0 < l1.length - l0_0.length) = True := by have h_ := of_eq_true qi161; rw [List.length_drop, Int.toNat_natCast] at h_; exact eq_true h_
            have qi161y : ((0 : Int) < ((l1.length - l0_0.length : Nat) : Int)) = True := eq_true (by have h_ := of_eq_true qi161z; omega)
            (try rw [show ((0 : Int)).toNat = 0 from rfl] at hx161_0)
            (try rw [Addr.add_zero'] at hx161_0)
            replace hx161_0 := hxb HB hx161_0
            replace p161 := eq_true p161
            replace q161 := eq_true q161
            go_wp2
            repeat (go_quiet (fail); try go_wp2)
            go_roundg k1
            case measure => have := HK1.out; omega
            case rel => exact ⟨(wrap64 (x6_1 + 1)), (by first | rfl | (simp; done) | (simp [*]; done)), H', ⟨by have := HK1.out; omega⟩, ⟨by (with_reducible repeat (first | refine blk_drewN ?_ _ | refine blk_drew ?_ | refine blk_alloc ?_ _)); exact BK156.out⟩, ⟨by repeat (first | (with_reducible first | exact HB.out | apply below_alloc | apply pw_below_drewN | apply below_drew1 | refine below_set ?_ GE156.out) | exact HB.out)⟩⟩
          ·rw [if_neg c17] at H
           exact absurd H (by simp)
         ·rw [if_neg c16] at H
          exact absurd H (by simp)
        ·rw [if_neg c15] at H
         exact absurd H (by simp)
       ·rw [if_neg c14] at H
        have c14b0 : decide (x6_1 < (l0_3.length : Int)) = false := decide_eq_false c14
        clear c14
        simp only [Option.some.injEq, Prod.mk.injEq] at H
        obtain ⟨rfl, rfl⟩ := H
        obtain ⟨hcz23_0, hcz23_1, hcz23_2, hcz23_3, -⟩ := cells_4 BK156.out trivial
        obtain ⟨hfz23_0, hfz23_1, hfz23_2, hfz23_3, -⟩ := frz_4 BK156.out
        go_wp2
        repeat (go_quiet (fail); try go_wp2)
        go_ret2
        exact ⟨by first | rfl | (simp [errW_none, errW_some] <;> rfl) | (simp [*, errW_none, errW_some] <;> rfl), by repeat (first | (with_reducible first | exact HB.out | apply below_alloc | apply pw_below_drewN | apply below_drew1 | refine below_set ?_ GE156.out) | exact HB.out)⟩
   ·rw [if_neg c6] at H
    exact absurd H (by simp)
  ·rw [if_neg c5] at H
   exact absurd H (by simp)
 ·replace c4 := Bool.eq_false_iff.mpr c4
  subst c4
  have H1 : (some (0, false)) = some (r1, r2) := by rw [if_neg (show ¬ (false = true) by decide)] at H; exact H
  clear H
  have H := H1
  clear H1
  simp only [Option.some.injEq, Prod.mk.injEq] at H
  obtain ⟨rfl, rfl⟩ := H
  go_enter Try.func66, Try.ntmps66
  go_wp2_with (first | ((with_reducible refine gate_dst (N := 2) rfl ?_); refine bx_ 2 #[.slice A0_0 l0_0.length c0_0, .bool a0_1, .int .i64 a0_2, .slice A0_3 l0_3.length c0_3] 30 (h := ?_); intro gb156 hg w24 hbox hb; have BK156 := Aside0.mk (hbox); have GW156 := Aside0.mk ((by rw [hg]; exact (below_size bel) : w.heap.size ≤ gb156)); have GE156 := Aside0.mk ((by rw [hg]; exact (below_size bel) : w.heap.size ≤ gb156)); replace HB := Aside0.mk (below_step bel hb); clear hb hbox hg; obtain ⟨hcz25_0, hcz25_1, hcz25_2, hcz25_3, -⟩ := cells_4 BK156.out trivial; obtain ⟨hfz25_0, hfz25_1, hfz25_2, hfz25_3, -⟩ := frz_4 BK156.out) | (go_at_call 75; (with_reducible refine (spec_HasPrefix.calls _ _ l1 _ _ l0_0 false _ ?side1 ?side2 ?side3 ?side4 A3.out).mono ?_); (case side1 => exact kcb); (case side2 => exact HC1.out); (case side3 => exact kcb); (case side4 => exact HC0_0.out); rintro e w' ⟨rfl, ⟨nd, rfl⟩⟩; (try first | exact ⟨rfl, _, World.drewN_drewN _ _ _⟩ | exact ⟨rfl, _, Eq.trans (World.drewN_drewN _ _ _) (congrArg (World.drewN _) (Nat.add_assoc _ _ _))⟩)))
  repeat (go_quiet (first | ((with_reducible refine gate_dst (N := 2) rfl ?_); refine bx_ 2 #[.slice A0_0 l0_0.length c0_0, .bool a0_1, .int .i64 a0_2, .slice A0_3 l0_3.length c0_3] 30 (h := ?_); intro gb156 hg w24 hbox hb; have BK156 := Aside0.mk (hbox); have GW156 := Aside0.mk ((by rw [hg]; exact (below_size bel) : w.heap.size ≤ gb156)); have GE156 := Aside0.mk ((by rw [hg]; exact (below_size bel) : w.heap.size ≤ gb156)); replace HB := Aside0.mk (below_step bel hb); clear hb hbox hg; obtain ⟨hcz25_0, hcz25_1, hcz25_2, hcz25_3, -⟩ := cells_4 BK156.out trivial; obtain ⟨hfz25_0, hfz25_1, hfz25_2, hfz25_3, -⟩ := frz_4 BK156.out) | (go_at_call 75; (with_reducible refine (spec_HasPrefix.calls _ _ l1 _ _ l0_0 false _ ?side1 ?side2 ?side3 ?side4 A3.out).mono ?_); (case side1 => exact kcb); (case side2 => exact HC1.out); (case side3 => exact kcb); (case side4 => exact HC0_0.out); rintro e w' ⟨rfl, ⟨nd, rfl⟩⟩; (try first | exact ⟨rfl, _, World.drewN_drewN _ _ _⟩ | exact ⟨rfl, _, Eq.trans (World.drewN_drewN _ _ _) (congrArg (World.drewN _) (Nat.add_assoc _ _ _))⟩))); try go_wp2_with (first | ((with_reducible refine gate_dst (N := 2) rfl ?_); refine bx_ 2 #[.slice A0_0 l0_0.length c0_0, .bool a0_1, .int .i64 a0_2, .slice A0_3 l0_3.length c0_3] 30 (h := ?_); intro gb156 hg w24 hbox hb; have BK156 := Aside0.mk (hbox); have GW156 := Aside0.mk ((by rw [hg]; exact (below_size bel) : w.heap.size ≤ gb156)); have GE156 := Aside0.mk ((by rw [hg]; exact (below_size bel) : w.heap.size ≤ gb156)); replace HB := Aside0.mk (below_step bel hb); clear hb hbox hg; obtain ⟨hcz25_0, hcz25_1, hcz25_2, hcz25_3, -⟩ := cells_4 BK156.out trivial; obtain ⟨hfz25_0, hfz25_1, hfz25_2, hfz25_3, -⟩ := frz_4 BK156.out) | (go_at_call 75; (with_reducible refine (spec_HasPrefix.calls _ _ l1 _ _ l0_0 false _ ?side1 ?side2 ?side3 ?side4 A3.out).mono ?_); (case side1 => exact kcb); (case side2 => exact HC1.out); (case side3 => exact kcb); (case side4 => exact HC0_0.out); rintro e w' ⟨rfl, ⟨nd, rfl⟩⟩; (try first | exact ⟨rfl, _, World.drewN_drewN _ _ _⟩ | exact ⟨rfl, _, Eq.trans (World.drewN_drewN _ _ _) (congrArg (World.drewN _) (Nat.add_assoc _ _ _))⟩))))
  go_ret2
  exact ⟨by first | rfl | (simp [errW_none, errW_some] <;> rfl) | (simp [*, errW_none, errW_some] <;> rfl), by repeat (first | (with_reducible first | exact HB.out | apply below_alloc | apply pw_below_drewN | apply below_drew1 | refine below_set ?_ GE156.out) | exact HB.out)⟩

/-! ### spec_TreeGet: function 22 -/
def spec_TreeGet.f (k : Nat) (l0_0 : List Int) (a0_1 : Bool) (a0_2 : Int) (l0_3 : List (S30)) (l1 : List Int) : Option (Int × Bool) := (spec_TreeOk.f k l0_0 a0_1 a0_2 l0_3).bind fun t166 => (if t166 = true then ((spec_l6get.f k l0_0 a0_1 a0_2 l0_3 l1).bind fun bt167 => (some (bt167.1, bt167.2))) else (some (0, false)))
theorem spec_TreeGet.mono : ∀ a0 a1 a2 a3 a4 k, LeO (spec_TreeGet.f k a0 a1 a2 a3 a4) (spec_TreeGet.f (k + 1) a0 a1 a2 a3 a4) := by
 intro a0 a1 a2 a3 a4 k
 unfold spec_TreeGet.f
 repeat' first
   | (with_reducible exact spec_TreeOk.mono _ _ _ _ _)
   | (with_reducible exact spec_l6get.mono _ _ _ _ _ _)
   | (with_reducible exact LeO.refl _)
   | (with_reducible exact LeO.none _)
   | (with_reducible refine LeO.ite ?_ ?_)
   | (with_reducible refine LeO.bind ?_ (fun _ => ?_))
   | exact spec_TreeOk.mono _ _ _ _ _
   | exact spec_l6get.mono _ _ _ _ _ _
   | exact LeO.none _
   | refine LeO.ite ?_ ?_
   | refine LeO.bind ?_ (fun _ => ?_)
set_option maxHeartbeats 8000000 in
set_option maxRecDepth 100000 in
theorem spec_TreeGet.calls (k : Nat) (A0_0 : Option Addr) (c0_0 : Nat) (l0_0 : List Int) (a0_1 : Bool) (a0_2 : Int) (A0_3 : Option Addr) (c0_3 : Nat) (l0_3 : List (S30)) (A1 : Option Addr) (c1 : Nat) (l1 : List Int) (r1 : Int) (r2 : Bool) (w : World) (hr0_0 : Kd.C (Kd.int .u8) w A0_0 l0_0.length l0_0) (hc0_0 : l0_0.length ≤ c0_0) (hr0_3 : Kd.C k30 w A0_3 l0_3.length l0_3) (hc0_3 : l0_3.length ≤ c0_3) (hr1 : Kd.C (Kd.int .u8) w A1 l1.length l1) (hc1 : l1.length ≤ c1) (h : spec_TreeGet.f k l0_0 a0_1 a0_2 l0_3 l1 = some (r1, r2)) :
  Calls Try.prog 22 #[.agg #[.slice A0_0 l0_0.length c0_0, .bool a0_1, .int .i64 a0_2, .slice A0_3 l0_3.length c0_3], .slice A1 l1.length c1] w fun e w' => e = .returned (.tuple #[.int .i64 r1, .bool r2]) ∧ Below w.heap.size w w' := by
 have hu30 := Try.underlying30
 have HR0_0 := Aside0.mk hr0_0
 have HC0_0 := Aside0.mk hc0_0
 clear hr0_0 hc0_0
 have HR0_3 := Aside0.mk hr0_3
 have HC0_3 := Aside0.mk hc0_3
 clear hr0_3 hc0_3
 have HR1 := Aside0.mk hr1
 have HC1 := Aside0.mk hc1
 clear hr1 hc1
 have HB := Aside0.mk (Below.refl w.heap.size w)
 have H : ((spec_TreeOk.f k l0_0 a0_1 a0_2 l0_3).bind fun t166 => (if t166 = true then ((spec_l6get.f k l0_0 a0_1 a0_2 l0_3 l1).bind fun bt167 => (some (bt167.1, bt167.2))) else (some (0, false)))) = some (r1, r2) := h
 clear h
 replace H := Option.bind_eq_some_iff.mp H
 obtain ⟨t166, A30, H⟩ := H
 replace H : (if t166 = true then ((spec_l6get.f k l0_0 a0_1 a0_2 l0_3 l1).bind fun bt167 => (some (bt167.1, bt167.2))) else (some (0, false))) = some (r1, r2) := H
 have A3 := Aside0.mk A30
 clear A30
 by_cases c4 : t166 = true
 ·subst c4
  have H1 : ((spec_l6get.f k l0_0 a0_1 a0_2 l0_3 l1).bind fun bt167 => (some (bt167.1, bt167.2))) = some (r1, r2) := by rw [if_pos rfl] at H; exact H
  clear H
  have H := H1
  clear H1
  replace H := Option.bind_eq_some_iff.mp H
  obtain ⟨⟨t167, t168⟩, A50, H⟩ := H
  replace H : (some (t167, t168)) = some (r1, r2) := H
  have A5 := Aside0.mk A50
  clear A50
  simp only [Option.some.injEq, Prod.mk.injEq] at H
  obtain ⟨rfl, rfl⟩ := H
  go_enter Try.func22, Try.ntmps22
  go_wp2_with (first | ((with_reducible refine gate_dst (N := 2) rfl ?_); refine bx_ 2 #[.slice A0_0 l0_0.length c0_0, .bool a0_1, .int .i64 a0_2, .slice A0_3 l0_3.length c0_3] 30 (h := ?_); intro gb165 hg w6 hbox hb; have BK165 := Aside0.mk (hbox); have GW165 := Aside0.mk ((by rw [hg]; exact (below_size bel) : w.heap.size ≤ gb165)); have GE165 := Aside0.mk ((by rw [hg]; exact (below_size bel) : w.heap.size ≤ gb165)); replace HB := Aside0.mk (below_step bel hb); clear hb hbox hg; obtain ⟨hcz7_0, hcz7_1, hcz7_2, hcz7_3, -⟩ := cells_4 BK165.out trivial; obtain ⟨hfz7_0, hfz7_1, hfz7_2, hfz7_3, -⟩ := frz_4 BK165.out) | ((with_reducible refine gate_callee (f := 16) rfl ?_); refine gl_ (some 7) Try.func16 #[.agg #[.slice A0_0 l0_0.length c0_0, .bool a0_1, .int .i64 a0_2, .slice A0_3 l0_3.length c0_3]] (h := ?_); (with_reducible refine (spec_TreeOk.calls k _ _ l0_0 a0_1 a0_2 _ _ l0_3 true _ ?side1 ?side2 ?side3 ?side4 A3.out).mono ?_); (case side1 => exact kcb); (case side2 => exact HC0_0.out); (case side3 => exact kcb); (case side4 => exact HC0_3.out); rintro e w8 ⟨rfl, hb⟩; refine ⟨_, rfl, ?_⟩; replace BK165 := Aside0.mk (blb BK165 hb); replace HB := Aside0.mk (below_step bel hb); (try clear hb); (try clear hb2); (try clear hk); (try clear hi); obtain ⟨hcz9_0, hcz9_1, hcz9_2, hcz9_3, -⟩ := cells_4 BK165.out trivial; obtain ⟨hfz9_0, hfz9_1, hfz9_2, hfz9_3, -⟩ := frz_4 BK165.out) | ((with_reducible refine gate_callee (f := 66) rfl ?_); refine gl_ (some 11) Try.func66 #[.agg #[.slice A0_0 l0_0.length c0_0, .bool a0_1, .int .i64 a0_2, .slice A0_3 l0_3.length c0_3], .slice A1 l1.length c1] (h := ?_); (with_reducible refine (spec_l6get.calls k _ _ l0_0 a0_1 a0_2 _ _ l0_3 _ _ l1 t167 t168 _ ?side1 ?side2 ?side3 ?side4 ?side5 ?side6 A5.out).mono ?_); (case side1 => exact kcb); (case side2 => exact HC0_0.out); (case side3 => exact kcb); (case side4 => exact HC0_3.out); (case side5 => exact kcb); (case side6 => exact HC1.out); rintro e w10 ⟨rfl, hb⟩; refine ⟨_, rfl, ?_⟩; replace BK165 := Aside0.mk (blb BK165 hb); replace HB := Aside0.mk (below_step bel hb); (try clear hb); (try clear hb2); (try clear hk); (try clear hi)))
  go_ret2
  exact ⟨by first | rfl | (simp [errW_none, errW_some] <;> rfl) | (simp [*, errW_none, errW_some] <;> rfl), by repeat (first | (with_reducible first | exact HB.out | apply below_alloc | apply pw_below_drewN | apply below_drew1 | refine below_set ?_ GE165.out) | exact HB.out)⟩
 ·replace c4 := Bool.eq_false_iff.mpr c4
  subst c4
  have H1 : (some (0, false)) = some (r1, r2) := by rw [if_neg (show ¬ (false = true) by decide)] at H; exact H
  clear H
  have H := H1
  clear H1
  simp only [Option.some.injEq, Prod.mk.injEq] at H
  obtain ⟨rfl, rfl⟩ := H
  go_enter Try.func22, Try.ntmps22
  go_wp2_with (first | ((with_reducible refine gate_dst (N := 2) rfl ?_); refine bx_ 2 #[.slice A0_0 l0_0.length c0_0, .bool a0_1, .int .i64 a0_2, .slice A0_3 l0_3.length c0_3] 30 (h := ?_); intro gb165 hg w11 hbox hb; have BK165 := Aside0.mk (hbox); have GW165 := Aside0.mk ((by rw [hg]; exact (below_size bel) : w.heap.size ≤ gb165)); have GE165 := Aside0.mk ((by rw [hg]; exact (below_size bel) : w.heap.size ≤ gb165)); replace HB := Aside0.mk (below_step bel hb); clear hb hbox hg; obtain ⟨hcz12_0, hcz12_1, hcz12_2, hcz12_3, -⟩ := cells_4 BK165.out trivial; obtain ⟨hfz12_0, hfz12_1, hfz12_2, hfz12_3, -⟩ := frz_4 BK165.out) | ((with_reducible refine gate_callee (f := 16) rfl ?_); refine gl_ (some 7) Try.func16 #[.agg #[.slice A0_0 l0_0.length c0_0, .bool a0_1, .int .i64 a0_2, .slice A0_3 l0_3.length c0_3]] (h := ?_); (with_reducible refine (spec_TreeOk.calls k _ _ l0_0 a0_1 a0_2 _ _ l0_3 false _ ?side1 ?side2 ?side3 ?side4 A3.out).mono ?_); (case side1 => exact kcb); (case side2 => exact HC0_0.out); (case side3 => exact kcb); (case side4 => exact HC0_3.out); rintro e w13 ⟨rfl, hb⟩; refine ⟨_, rfl, ?_⟩; replace BK165 := Aside0.mk (blb BK165 hb); replace HB := Aside0.mk (below_step bel hb); (try clear hb); (try clear hb2); (try clear hk); (try clear hi)))
  go_ret2
  exact ⟨by first | rfl | (simp [errW_none, errW_some] <;> rfl) | (simp [*, errW_none, errW_some] <;> rfl), by repeat (first | (with_reducible first | exact HB.out | apply below_alloc | apply pw_below_drewN | apply below_drew1 | refine below_set ?_ GE165.out) | exact HB.out)⟩

/-! ### impl_within: function 105 -/
def impl_within.f (a0 : Int) (a1 : Int) (a2 : Int) : Option (Bool) := if a1 ≤ a0 then (some (decide (a0 ≤ a2))) else (some false)
set_option maxHeartbeats 8000000 in
set_option maxRecDepth 100000 in
theorem impl_within.calls (a0 : Int) (a1 : Int) (a2 : Int) (r : Bool) (w : World) (h : impl_within.f a0 a1 a2 = some r) :
  Calls Try.prog 105 #[.int .i64 a0, .int .i64 a1, .int .i64 a2] w fun e w' => e = .returned (.bool r) ∧ Drawn0 w w' := by
 have H : (if a1 ≤ a0 then (some (decide (a0 ≤ a2))) else (some false)) = some r := h
 clear h
 by_cases c4 : a1 ≤ a0
 ·rw [if_pos c4] at H
  have c4b0 : decide (a1 ≤ a0) = true := decide_eq_true c4
  clear c4
  obtain rfl := Option.some.inj H
  go_enter Try.func105, Try.ntmps105
  go_wp2
  go_ret
  exact ⟨by first | rfl | (simp; done) | (simp [*]; done), by repeat (first | exact Drawn0.refl _ | apply Drawn0.step)⟩
 ·rw [if_neg c4] at H
  have c4b0 : decide (a1 ≤ a0) = false := decide_eq_false c4
  clear c4
  obtain rfl := Option.some.inj H
  go_enter Try.func105, Try.ntmps105
  go_wp2
  go_ret
  exact ⟨by first | rfl | (simp; done) | (simp [*]; done), by repeat (first | exact Drawn0.refl _ | apply Drawn0.step)⟩

end Go.Proofs.Ytoaddpfoecggpaa.PG
