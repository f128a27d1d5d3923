-- Written for this claim by the session's program pp.py, out of the kit's print and the seat's translation.
import Derived.Test.YtdgegnakiljfjaaPKx0
import Derived.Test.YtdgegnakiljfjaaPKx10
namespace Go.Proofs.Ytdgegnakiljfjaa.PK
open Go.RowKit Go.Proofs.YtdgegnakiljfjaaW.PrintWords Go.Proofs.YtdgegnakiljfjaaW.PrintLast Go.Proofs.YtdgegnakiljfjaaW.PrintMore
attribute [local go_sem] max2_int min2_int max_two min_two max_three min_three max_four min_four   -- for this text's walks alone
set_option linter.unusedVariables false
set_option linter.unusedSimpArgs false

/-! ### spec_HasPrefix: function 141 -/
def spec_HasPrefix.f (l0 : List Int) (l1 : List Int) : Option (Bool) := if (l0.length : Int) ≥ (l1.length : Int) then (if 0 ≤ (l1.length : Int) then (if (l1.length : Int) ≤ (l0.length : Int) then (some ((strOfNums (l0.take ((l1.length : Int) : Int).toNat)).toList == (strOfNums l1).toList)) else (none)) else (none)) else (some false)
set_option maxHeartbeats 8000000 in
set_option maxRecDepth 100000 in
theorem spec_HasPrefix.calls (A0 : Option Addr) (c0 : Nat) (l0 : List Int) (A1 : Option Addr) (c1 : Nat) (l1 : List Int) (r : Bool) (w : World) (hr0 : Kd.C (Kd.int .u8) w A0 l0.length l0) (hc0 : l0.length ≤ c0) (hr1 : Kd.C (Kd.int .u8) w A1 l1.length l1) (hc1 : l1.length ≤ c1) (h : spec_HasPrefix.f l0 l1 = some r) :
  Calls Try.prog 141 #[.slice A0 l0.length c0, .slice A1 l1.length c1] w fun e w' => e = .returned (.bool r) ∧ Drawn0 w w' := by
 have HR0 := Aside0.mk hr0
 have HC0 := Aside0.mk hc0
 clear hr0 hc0
 have HR1 := Aside0.mk hr1
 have HC1 := Aside0.mk hc1
 clear hr1 hc1
 have H : (if (l0.length : Int) ≥ (l1.length : Int) then (if 0 ≤ (l1.length : Int) then (if (l1.length : Int) ≤ (l0.length : Int) then (some ((strOfNums (l0.take ((l1.length : Int) : Int).toNat)).toList == (strOfNums l1).toList)) else (none)) else (none)) else (some false)) = some r := h
 clear h
 by_cases c3 : (l0.length : Int) ≥ (l1.length : Int)
 ·rw [if_pos c3] at H
  have c3b0 : decide ((l1.length : Int) ≤ (l0.length : Int)) = true := decide_eq_true c3
  have c3b1 : decide (l1.length ≤ l0.length) = true := decide_eq_true (Int.ofNat_le.mp c3)
  clear c3
  by_cases c4 : 0 ≤ (l1.length : Int)
  ·rw [if_pos c4] at H
   have c4b0 := eq_true c4
   have c4b1 : decide (0 ≤ (l1.length : Int)) = true := decide_eq_true c4
   clear c4
   by_cases c5 : (l1.length : Int) ≤ (l0.length : Int)
   ·rw [if_pos c5] at H
    have c5b0 := eq_true c5
    have c5b1 : decide ((l1.length : Int) ≤ (l0.length : Int)) = true := decide_eq_true c5
    clear c5
    obtain rfl := Option.some.inj H
    obtain ⟨i06, hi06, _, hsz6, _⟩ := info_parts info5
    obtain ⟨hcut6, hA6, hC6⟩ := print_take_of (P := Try.prog) (Value.int .u8) 0 52 5 .i64 Try.underlying52 hi06 hsz6 A0 c0 l0 (l1.length : Int) od od HC0.out
    have HR330 := Aside0.mk (Kd.C_of_reads (h1 := fun _ => rfl) (hA6 _ (Kd.reads_of_C HR0.out)))
    have HC330 := Aside0.mk hC6
    clear hA6 hC6 hi06 hsz6
    (try rw [show (l0.take ((l1.length : Int) : Int).toNat).length = (l1.length : Int).toNat from (by rw [List.length_take]; have h_ : ((l1.length : Int) : Int) ≤ (l0.length : Int) := od; omega)] at hcut6)
    (try simp only [Int.toNat_natCast] at hcut6)
    have hcv7 := Kd.C_string (P := Try.prog) (A := A0) (c := c0) Try.underlying52 Try.underlying5 Try.underlying9 HR330.out
    have hcw7 := fun nq_ : Nat => Kd.C_string (P := Try.prog) (A := A0) (c := c0) Try.underlying52 Try.underlying5 Try.underlying9 (Kd.C_drewN HR330.out nq_)
    (try rw [show (l0.take ((l1.length : Int) : Int).toNat).length = (l1.length : Int).toNat from (by rw [List.length_take]; have h_ : ((l1.length : Int) : Int) ≤ (l0.length : Int) := od; omega)] at hcv7 hcw7)
    (try simp only [Int.toNat_natCast] at hcv7 hcw7)
    have hcv8 := Kd.C_string (P := Try.prog) (A := A1) (c := c1) Try.underlying52 Try.underlying5 Try.underlying9 HR1.out
    have hcw8 := fun nq_ : Nat => Kd.C_string (P := Try.prog) (A := A1) (c := c1) Try.underlying52 Try.underlying5 Try.underlying9 (Kd.C_drewN HR1.out nq_)
    go_enter Try.func141, Try.ntmps141
    go_wp2
    repeat (go_quiet (fail); try go_wp2)
    go_ret
    exact ⟨by first | rfl | (simp; done) | (simp [*]; done), by repeat (first | exact Drawn0.refl _ | apply Drawn0.step)⟩
   rw [if_neg c5] at H
   exact absurd H (by simp)
  rw [if_neg c4] at H
  exact absurd H (by simp)
 rw [if_neg c3] at H
 have c3b0 : decide ((l1.length : Int) ≤ (l0.length : Int)) = false := decide_eq_false c3
 have c3b1 : decide (l1.length ≤ l0.length) = false := decide_eq_false (fun h => c3 (Int.ofNat_le.mpr h))
 clear c3
 obtain rfl := Option.some.inj H
 go_enter Try.func141, Try.ntmps141
 go_wp2
 repeat (go_quiet (fail); try go_wp2)
 go_ret
 exact ⟨by first | rfl | (simp; done) | (simp [*]; done), by repeat (first | exact Drawn0.refl _ | apply Drawn0.step)⟩

/-! ### spec_Branch: function 64 -/
mutual
def spec_Branch.l0 : Nat → List Int → Int → Int → List (S92) → List (S94) → Int → List (S109) → List (S75) → Int → Bool → Option (Int × Bool × List Int)
 | 0, _, _, _, _, _, _, _, _, _, _ => none
 | k + 1, x1, x6, x332000, x332001, x332002, x332003, x332004, x332005, x335000, x335001 => if x6 < (x332001.length : Int) then (if 0 ≤ x6 then ((spec_HasPrefix.f ((rd_T92 x332001 x6).f0) x1).bind fun t336 => (if t336 = true then (if ((rd_T92 x332001 x6).f2) > x335000 then (spec_Branch.l0 k x1 (wrap64 (x6 + 1)) x332000 x332001 x332002 x332003 x332004 x332005 ((rd_T92 x332001 x6).f2) true) else (spec_Branch.l0 k x1 (wrap64 (x6 + 1)) x332000 x332001 x332002 x332003 x332004 x332005 x335000 true)) else (spec_Branch.l0 k x1 (wrap64 (x6 + 1)) x332000 x332001 x332002 x332003 x332004 x332005 x335000 x335001))) else (none)) else (spec_Branch.l1 k x1 0 x332000 x332001 x332002 x332003 x332004 x332005 x335000 x335001)
def spec_Branch.l1 : Nat → List Int → Int → Int → List (S92) → List (S94) → Int → List (S109) → List (S75) → Int → Bool → Option (Int × Bool × List Int)
 | 0, _, _, _, _, _, _, _, _, _, _ => none
 | k + 1, x1, x7, x332000, x332001, x332002, x332003, x332004, x332005, x335000, x335001 => if x7 < (x332002.length : Int) then (if 0 ≤ x7 then ((spec_HasPrefix.f ((rd_T94 x332002 x7).f0) x1).bind fun t340 => (if t340 = true then (if ((rd_T94 x332002 x7).f1) > x335000 then (spec_Branch.l1 k x1 (wrap64 (x7 + 1)) x332000 x332001 x332002 x332003 x332004 x332005 ((rd_T94 x332002 x7).f1) x335001) else (spec_Branch.l1 k x1 (wrap64 (x7 + 1)) x332000 x332001 x332002 x332003 x332004 x332005 x335000 x335001)) else (spec_Branch.l1 k x1 (wrap64 (x7 + 1)) x332000 x332001 x332002 x332003 x332004 x332005 x335000 x335001))) else (none)) else (some (x335000, x335001, ([] : List Int)))
end
def spec_Branch.f (k : Nat) (a0_0 : Int) (l0_1 : List (S92)) (l0_2 : List (S94)) (a0_3 : Int) (l0_4 : List (S109)) (l0_5 : List (S75)) (l1 : List Int) : Option (Int × Bool × List Int) := (spec_StateOk.f k a0_0 l0_1 l0_2 a0_3 l0_4 l0_5).bind fun t333 => (if t333 = true then (spec_Branch.l0 k l1 0 a0_0 l0_1 l0_2 a0_3 l0_4 l0_5 a0_3 false) else (some (0, false, ([] : List Int))))
set_option maxHeartbeats 8000000 in
set_option maxRecDepth 100000 in
theorem spec_Branch.calls (k : Nat) (a0_0 : Int) (A0_1 : Option Addr) (c0_1 : Nat) (l0_1 : List (S92)) (A0_2 : Option Addr) (c0_2 : Nat) (l0_2 : List (S94)) (a0_3 : Int) (A0_4 : Option Addr) (c0_4 : Nat) (l0_4 : List (S109)) (A0_5 : Option Addr) (c0_5 : Nat) (l0_5 : List (S75)) (A1 : Option Addr) (c1 : Nat) (l1 : List Int) (r1 : Int) (r2 : Bool) (r3 : List Int) (w : World) (hr0_1 : Kd.C k92 w A0_1 l0_1.length l0_1) (hc0_1 : l0_1.length ≤ c0_1) (hr0_2 : Kd.C k94 w A0_2 l0_2.length l0_2) (hc0_2 : l0_2.length ≤ c0_2) (hr0_4 : Kd.C k109 w A0_4 l0_4.length l0_4) (hc0_4 : l0_4.length ≤ c0_4) (hr0_5 : Kd.C k75 w A0_5 l0_5.length l0_5) (hc0_5 : l0_5.length ≤ c0_5) (hr1 : Kd.C (Kd.int .u8) w A1 l1.length l1) (hc1 : l1.length ≤ c1) (h : spec_Branch.f k a0_0 l0_1 l0_2 a0_3 l0_4 l0_5 l1 = some (r1, r2, r3)) :
  Calls Try.prog 64 #[.agg #[.int .i64 a0_0, .slice A0_1 l0_1.length c0_1, .slice A0_2 l0_2.length c0_2, .int .i64 a0_3, .slice A0_4 l0_4.length c0_4, .slice A0_5 l0_5.length c0_5], .slice A1 l1.length c1] w fun e w' => ∃ v2_ : Value, e = .returned (.agg #[.int .i64 r1, .bool r2, v2_]) ∧ Kd.R (Kd.int .u8) 5 w' w.heap.size (fun _ => True) v2_ r3 ∧ Below w.heap.size w w' := by
 have hu35 := Try.underlying35
 have hu89 := Try.underlying89
 have HR0_1 := Aside0.mk hr0_1
 have HC0_1 := Aside0.mk hc0_1
 clear hr0_1 hc0_1
 have HR0_2 := Aside0.mk hr0_2
 have HC0_2 := Aside0.mk hc0_2
 clear hr0_2 hc0_2
 have HR0_4 := Aside0.mk hr0_4
 have HC0_4 := Aside0.mk hc0_4
 clear hr0_4 hc0_4
 have HR0_5 := Aside0.mk hr0_5
 have HC0_5 := Aside0.mk hc0_5
 clear hr0_5 hc0_5
 have HR1 := Aside0.mk hr1
 have HC1 := Aside0.mk hc1
 clear hr1 hc1
 have HB := Aside0.mk (Below.refl w.heap.size w)
 have H : ((spec_StateOk.f k a0_0 l0_1 l0_2 a0_3 l0_4 l0_5).bind fun t333 => (if t333 = true then (spec_Branch.l0 k l1 0 a0_0 l0_1 l0_2 a0_3 l0_4 l0_5 a0_3 false) else (some (0, false, ([] : List Int))))) = some (r1, r2, r3) := h
 clear h
 replace H := Option.bind_eq_some_iff.mp H
 obtain ⟨t333, A30, H⟩ := H
 replace H : (if t333 = true then (spec_Branch.l0 k l1 0 a0_0 l0_1 l0_2 a0_3 l0_4 l0_5 a0_3 false) else (some (0, false, ([] : List Int)))) = some (r1, r2, r3) := H
 have A3 := Aside0.mk A30
 clear A30
 by_cases c4 : t333 = true
 ·subst c4
  have H1 : (spec_Branch.l0 k l1 0 a0_0 l0_1 l0_2 a0_3 l0_4 l0_5 a0_3 false) = some (r1, r2, r3) := by rw [if_pos rfl] at H; exact H
  clear H
  have H := H1
  clear H1
  have H' := Aside0.mk H
  clear H
  go_enter Try.func64, Try.ntmps64
  go_wp2_with (first | ((with_reducible refine gate_dst (N := 2) rfl ?_); refine bx_ 2 #[.int .i64 a0_0, .slice A0_1 l0_1.length c0_1, .slice A0_2 l0_2.length c0_2, .int .i64 a0_3, .slice A0_4 l0_4.length c0_4, .slice A0_5 l0_5.length c0_5] 35 (h := ?_); intro gb331 hg w5 hbox hb; have BK331 := Aside0.mk (hbox); have GW331 := Aside0.mk ((by rw [hg]; exact (below_size bel) : w.heap.size ≤ gb331)); have GE331 := GW331; replace HB := bst hb; clear hb hbox hg) | ((with_reducible refine gate_dst (N := 4) rfl ?_); refine bx_ 4 #[.int .i64 0, .bool false, .slice none 0 0] 89 (h := ?_); intro gb332 hg w6 hbox hb; have BK332 := Aside0.mk (hbox); have GW332 := Aside0.mk ((by rw [hg]; exact (below_size bel) : w.heap.size ≤ gb332)); have GE332 := GW332; have NB331_332 := Aside0.mk ((by rw [hg]; exact Nat.ne_of_lt (blt BK331) : gb331 ≠ gb332)); have NB332_331 := Aside0.mk NB331_332.out.symm; replace BK331 := Aside0.mk (blb BK331 hb); replace HB := bst hb; clear hb hbox hg; have hnb7 := NB331_332.out; have hnc7 := NB332_331.out; obtain ⟨C8_0, C8_1, C8_2, C8_3, C8_4, C8_5, -⟩ := cells_6 BK331.out trivial; obtain ⟨F8_0, F8_1, F8_2, F8_3, F8_4, F8_5, -⟩ := frz_6 BK331.out) | (go_at_call 16; (with_reducible refine (spec_StateOk.calls k a0_0 _ _ l0_1 _ _ l0_2 a0_3 _ _ l0_4 _ _ l0_5 true _ ?side1 ?side2 ?side3 ?side4 ?side5 ?side6 ?side7 ?side8 A3.out).mono ?_); (case side1 => exact kcb); (case side2 => exact HC0_1.out); (case side3 => exact kcb); (case side4 => exact HC0_2.out); (case side5 => exact kcb); (case side6 => exact HC0_4.out); (case side7 => exact kcb); (case side8 => exact HC0_5.out); rintro e w9 ⟨rfl, hb⟩; replace BK331 := Aside0.mk (blb BK331 hb); replace BK332 := Aside0.mk (blb BK332 hb); replace HB := bst hb; (try clear hb); (try clear hb2); (try clear hk); (try clear hi); obtain ⟨C10_0, C10_1, C10_2, C10_3, C10_4, C10_5, -⟩ := cells_6 BK331.out trivial; obtain ⟨F10_0, F10_1, F10_2, F10_3, F10_4, F10_5, -⟩ := frz_6 BK331.out) | ((with_reducible refine gate_dst (N := 5) rfl ?_); refine bx_ 5 #[.int .i64 0, .bool false, .slice none 0 0] 89 (h := ?_); intro gb334 hg w11 hbox hb; have BK334 := Aside0.mk (hbox); have GW334 := Aside0.mk ((by rw [hg]; exact (below_size bel) : w.heap.size ≤ gb334)); have GE334 := GW334; have NB331_334 := Aside0.mk ((by rw [hg]; exact Nat.ne_of_lt (blt BK331) : gb331 ≠ gb334)); have NB334_331 := Aside0.mk NB331_334.out.symm; have NB332_334 := Aside0.mk ((by rw [hg]; exact Nat.ne_of_lt (blt BK332) : gb332 ≠ gb334)); have NB334_332 := Aside0.mk NB332_334.out.symm; replace BK331 := Aside0.mk (blb BK331 hb); replace BK332 := Aside0.mk (blb BK332 hb); replace HB := bst hb; clear hb hbox hg; have hnb12 := NB334_331.out; have hnc12 := NB331_334.out; have hnb13 := NB334_332.out; have hnc13 := NB332_334.out; obtain ⟨C14_0, C14_1, C14_2, -⟩ := cells_3 BK334.out trivial; obtain ⟨F14_0, F14_1, F14_2, -⟩ := frz_3 BK334.out))
  repeat (go_quiet (first | ((with_reducible refine gate_dst (N := 2) rfl ?_); refine bx_ 2 #[.int .i64 a0_0, .slice A0_1 l0_1.length c0_1, .slice A0_2 l0_2.length c0_2, .int .i64 a0_3, .slice A0_4 l0_4.length c0_4, .slice A0_5 l0_5.length c0_5] 35 (h := ?_); intro gb331 hg w5 hbox hb; have BK331 := Aside0.mk (hbox); have GW331 := Aside0.mk ((by rw [hg]; exact (below_size bel) : w.heap.size ≤ gb331)); have GE331 := GW331; replace HB := bst hb; clear hb hbox hg) | ((with_reducible refine gate_dst (N := 4) rfl ?_); refine bx_ 4 #[.int .i64 0, .bool false, .slice none 0 0] 89 (h := ?_); intro gb332 hg w6 hbox hb; have BK332 := Aside0.mk (hbox); have GW332 := Aside0.mk ((by rw [hg]; exact (below_size bel) : w.heap.size ≤ gb332)); have GE332 := GW332; have NB331_332 := Aside0.mk ((by rw [hg]; exact Nat.ne_of_lt (blt BK331) : gb331 ≠ gb332)); have NB332_331 := Aside0.mk NB331_332.out.symm; replace BK331 := Aside0.mk (blb BK331 hb); replace HB := bst hb; clear hb hbox hg; have hnb7 := NB331_332.out; have hnc7 := NB332_331.out; obtain ⟨C8_0, C8_1, C8_2, C8_3, C8_4, C8_5, -⟩ := cells_6 BK331.out trivial; obtain ⟨F8_0, F8_1, F8_2, F8_3, F8_4, F8_5, -⟩ := frz_6 BK331.out) | (go_at_call 16; (with_reducible refine (spec_StateOk.calls k a0_0 _ _ l0_1 _ _ l0_2 a0_3 _ _ l0_4 _ _ l0_5 true _ ?side1 ?side2 ?side3 ?side4 ?side5 ?side6 ?side7 ?side8 A3.out).mono ?_); (case side1 => exact kcb); (case side2 => exact HC0_1.out); (case side3 => exact kcb); (case side4 => exact HC0_2.out); (case side5 => exact kcb); (case side6 => exact HC0_4.out); (case side7 => exact kcb); (case side8 => exact HC0_5.out); rintro e w9 ⟨rfl, hb⟩; replace BK331 := Aside0.mk (blb BK331 hb); replace BK332 := Aside0.mk (blb BK332 hb); replace HB := bst hb; (try clear hb); (try clear hb2); (try clear hk); (try clear hi); obtain ⟨C10_0, C10_1, C10_2, C10_3, C10_4, C10_5, -⟩ := cells_6 BK331.out trivial; obtain ⟨F10_0, F10_1, F10_2, F10_3, F10_4, F10_5, -⟩ := frz_6 BK331.out) | ((with_reducible refine gate_dst (N := 5) rfl ?_); refine bx_ 5 #[.int .i64 0, .bool false, .slice none 0 0] 89 (h := ?_); intro gb334 hg w11 hbox hb; have BK334 := Aside0.mk (hbox); have GW334 := Aside0.mk ((by rw [hg]; exact (below_size bel) : w.heap.size ≤ gb334)); have GE334 := GW334; have NB331_334 := Aside0.mk ((by rw [hg]; exact Nat.ne_of_lt (blt BK331) : gb331 ≠ gb334)); have NB334_331 := Aside0.mk NB331_334.out.symm; have NB332_334 := Aside0.mk ((by rw [hg]; exact Nat.ne_of_lt (blt BK332) : gb332 ≠ gb334)); have NB334_332 := Aside0.mk NB332_334.out.symm; replace BK331 := Aside0.mk (blb BK331 hb); replace BK332 := Aside0.mk (blb BK332 hb); replace HB := bst hb; clear hb hbox hg; have hnb12 := NB334_331.out; have hnc12 := NB331_334.out; have hnb13 := NB334_332.out; have hnc13 := NB332_334.out; obtain ⟨C14_0, C14_1, C14_2, -⟩ := cells_3 BK334.out trivial; obtain ⟨F14_0, F14_1, F14_2, -⟩ := frz_3 BK334.out)); try go_wp2_with (first | ((with_reducible refine gate_dst (N := 2) rfl ?_); refine bx_ 2 #[.int .i64 a0_0, .slice A0_1 l0_1.length c0_1, .slice A0_2 l0_2.length c0_2, .int .i64 a0_3, .slice A0_4 l0_4.length c0_4, .slice A0_5 l0_5.length c0_5] 35 (h := ?_); intro gb331 hg w5 hbox hb; have BK331 := Aside0.mk (hbox); have GW331 := Aside0.mk ((by rw [hg]; exact (below_size bel) : w.heap.size ≤ gb331)); have GE331 := GW331; replace HB := bst hb; clear hb hbox hg) | ((with_reducible refine gate_dst (N := 4) rfl ?_); refine bx_ 4 #[.int .i64 0, .bool false, .slice none 0 0] 89 (h := ?_); intro gb332 hg w6 hbox hb; have BK332 := Aside0.mk (hbox); have GW332 := Aside0.mk ((by rw [hg]; exact (below_size bel) : w.heap.size ≤ gb332)); have GE332 := GW332; have NB331_332 := Aside0.mk ((by rw [hg]; exact Nat.ne_of_lt (blt BK331) : gb331 ≠ gb332)); have NB332_331 := Aside0.mk NB331_332.out.symm; replace BK331 := Aside0.mk (blb BK331 hb); replace HB := bst hb; clear hb hbox hg; have hnb7 := NB331_332.out; have hnc7 := NB332_331.out; obtain ⟨C8_0, C8_1, C8_2, C8_3, C8_4, C8_5, -⟩ := cells_6 BK331.out trivial; obtain ⟨F8_0, F8_1, F8_2, F8_3, F8_4, F8_5, -⟩ := frz_6 BK331.out) | (go_at_call 16; (with_reducible refine (spec_StateOk.calls k a0_0 _ _ l0_1 _ _ l0_2 a0_3 _ _ l0_4 _ _ l0_5 true _ ?side1 ?side2 ?side3 ?side4 ?side5 ?side6 ?side7 ?side8 A3.out).mono ?_); (case side1 => exact kcb); (case side2 => exact HC0_1.out); (case side3 => exact kcb); (case side4 => exact HC0_2.out); (case side5 => exact kcb); (case side6 => exact HC0_4.out); (case side7 => exact kcb); (case side8 => exact HC0_5.out); rintro e w9 ⟨rfl, hb⟩; replace BK331 := Aside0.mk (blb BK331 hb); replace BK332 := Aside0.mk (blb BK332 hb); replace HB := bst hb; (try clear hb); (try clear hb2); (try clear hk); (try clear hi); obtain ⟨C10_0, C10_1, C10_2, C10_3, C10_4, C10_5, -⟩ := cells_6 BK331.out trivial; obtain ⟨F10_0, F10_1, F10_2, F10_3, F10_4, F10_5, -⟩ := frz_6 BK331.out) | ((with_reducible refine gate_dst (N := 5) rfl ?_); refine bx_ 5 #[.int .i64 0, .bool false, .slice none 0 0] 89 (h := ?_); intro gb334 hg w11 hbox hb; have BK334 := Aside0.mk (hbox); have GW334 := Aside0.mk ((by rw [hg]; exact (below_size bel) : w.heap.size ≤ gb334)); have GE334 := GW334; have NB331_334 := Aside0.mk ((by rw [hg]; exact Nat.ne_of_lt (blt BK331) : gb331 ≠ gb334)); have NB334_331 := Aside0.mk NB331_334.out.symm; have NB332_334 := Aside0.mk ((by rw [hg]; exact Nat.ne_of_lt (blt BK332) : gb332 ≠ gb334)); have NB334_332 := Aside0.mk NB332_334.out.symm; replace BK331 := Aside0.mk (blb BK331 hb); replace BK332 := Aside0.mk (blb BK332 hb); replace HB := bst hb; clear hb hbox hg; have hnb12 := NB334_331.out; have hnc12 := NB331_334.out; have hnb13 := NB334_332.out; have hnc13 := NB332_334.out; obtain ⟨C14_0, C14_1, C14_2, -⟩ := cells_3 BK334.out trivial; obtain ⟨F14_0, F14_1, F14_2, -⟩ := frz_3 BK334.out)))
  go_loopg [6] k (fun kq v6 w' => ∃ (x6_1 : Int) (x335000_1 : Int) (x335001_1 : Bool), v6 = .int .i64 x6_1 ∧ Aside0 (spec_Branch.l0 kq l1 x6_1 a0_0 l0_1 l0_2 a0_3 l0_4 l0_5 x335000_1 x335001_1 = some (r1, r2, r3)) ∧ Aside0 (kq ≤ k) ∧ Aside0 (w'.heap[gb331]? = some (.cells #[.int .i64 a0_0, (.slice A0_1 l0_1.length c0_1), (.slice A0_2 l0_2.length c0_2), .int .i64 a0_3, (.slice A0_4 l0_4.length c0_4), (.slice A0_5 l0_5.length c0_5)] 35 (0, 0))) ∧ Aside0 (w'.heap[gb332]? = some (.cells #[.int .i64 0, .bool false, (.slice none 0 0)] 89 (0, 0))) ∧ Aside0 (w'.heap[gb334]? = some (.cells #[.int .i64 x335000_1, .bool x335001_1, (.slice none 0 0)] 89 (0, 0))) ∧ Aside0 (Below w.heap.size w w'))
  case atStart => exact ⟨(0), (a0_3), (false), rs_, H', ⟨Nat.le_refl _⟩, ⟨by (with_reducible repeat (first | refine blk_drewN ?_ _ | refine blk_drew ?_ | refine blk_alloc ?_ _)); refine blk_far ?_ NB331_334.out _; (with_reducible repeat (first | refine blk_drewN ?_ _ | refine blk_drew ?_ | refine blk_alloc ?_ _)); refine blk_far ?_ NB331_334.out _; (with_reducible repeat (first | refine blk_drewN ?_ _ | refine blk_drew ?_ | refine blk_alloc ?_ _)); refine blk_far ?_ NB331_334.out _; (with_reducible repeat (first | refine blk_drewN ?_ _ | refine blk_drew ?_ | refine blk_alloc ?_ _)); exact BK331.out⟩, ⟨by (with_reducible repeat (first | refine blk_drewN ?_ _ | refine blk_drew ?_ | refine blk_alloc ?_ _)); refine blk_far ?_ NB332_334.out _; (with_reducible repeat (first | refine blk_drewN ?_ _ | refine blk_drew ?_ | refine blk_alloc ?_ _)); refine blk_far ?_ NB332_334.out _; (with_reducible repeat (first | refine blk_drewN ?_ _ | refine blk_drew ?_ | refine blk_alloc ?_ _)); refine blk_far ?_ NB332_334.out _; (with_reducible repeat (first | refine blk_drewN ?_ _ | refine blk_drew ?_ | refine blk_alloc ?_ _)); exact BK332.out⟩, ⟨by (with_reducible repeat (first | refine blk_drewN ?_ _ | refine blk_drew ?_ | refine blk_alloc ?_ _)); refine blk_put (cs := #[.int .i64 a0_3, .bool false, .slice none 0 0]) ?_ 2 _ rfl; (with_reducible repeat (first | refine blk_drewN ?_ _ | refine blk_drew ?_ | refine blk_alloc ?_ _)); refine blk_put (cs := #[.int .i64 a0_3, .bool false, .slice none 0 0]) ?_ 1 _ rfl; (with_reducible repeat (first | refine blk_drewN ?_ _ | refine blk_drew ?_ | refine blk_alloc ?_ _)); refine blk_put (cs := #[.int .i64 0, .bool false, .slice none 0 0]) ?_ 0 _ rfl; (with_reducible repeat (first | refine blk_drewN ?_ _ | refine blk_drew ?_ | refine blk_alloc ?_ _)); exact BK334.out⟩, ⟨bel⟩⟩
  case round =>
   clear H'
   try clear c1; try clear p2; try clear c4; try clear c6; try clear c7; try clear c12; try clear c13; try clear C10_0 C10_1 C10_2 C10_3 C10_4 C10_5; try clear C14_0 C14_1 C14_2; try clear C8_0 C8_1 C8_2 C8_3 C8_4 C8_5; try clear F10_0 F10_1 F10_2 F10_3 F10_4 F10_5; try clear F14_0 F14_1 F14_2; try clear F8_0 F8_1 F8_2 F8_3 F8_4 F8_5
   obtain ⟨x6_1, x335000_1, x335001_1, rfl, HA, HK1, BK331, BK332, BK334, HB⟩ := hrel
   cases gk with
   | zero => exact absurd HA.out (by simp [spec_Branch.l0])
   | succ k1 =>
    have H := HA.out
    clear HA
    simp only [spec_Branch.l0] at H
    by_cases c15 : x6_1 < (l0_1.length : Int)
    ·rw [if_pos c15] at H
     have c15b0 : decide (x6_1 < (l0_1.length : Int)) = true := decide_eq_true c15
     clear c15
     by_cases c16 : 0 ≤ x6_1
     ·rw [if_pos c16] at H
      have c16b0 : decide (0 ≤ x6_1) = true := decide_eq_true c16
      clear c16
      replace H := Option.bind_eq_some_iff.mp H
      obtain ⟨t336, A170, H⟩ := H
      replace H : (if t336 = true then (if ((rd_T92 l0_1 x6_1).f2) > x335000_1 then (spec_Branch.l0 k1 l1 (wrap64 (x6_1 + 1)) a0_0 l0_1 l0_2 a0_3 l0_4 l0_5 ((rd_T92 l0_1 x6_1).f2) true) else (spec_Branch.l0 k1 l1 (wrap64 (x6_1 + 1)) a0_0 l0_1 l0_2 a0_3 l0_4 l0_5 x335000_1 true)) else (spec_Branch.l0 k1 l1 (wrap64 (x6_1 + 1)) a0_0 l0_1 l0_2 a0_3 l0_4 l0_5 x335000_1 x335001_1)) = some (r1, r2, r3) := H
      have A17 := Aside0.mk A170
      clear A170
      by_cases c18 : t336 = true
      ·subst c18
       have H1 : (if ((rd_T92 l0_1 x6_1).f2) > x335000_1 then (spec_Branch.l0 k1 l1 (wrap64 (x6_1 + 1)) a0_0 l0_1 l0_2 a0_3 l0_4 l0_5 ((rd_T92 l0_1 x6_1).f2) true) else (spec_Branch.l0 k1 l1 (wrap64 (x6_1 + 1)) a0_0 l0_1 l0_2 a0_3 l0_4 l0_5 x335000_1 true)) = some (r1, r2, r3) := by rw [if_pos rfl] at H; exact H
       clear H
       have H := H1
       clear H1
       by_cases c19 : ((rd_T92 l0_1 x6_1).f2) > x335000_1
       ·rw [if_pos c19] at H
        have c19b0 : decide (x335000_1 < ((rd_T92 l0_1 x6_1).f2)) = true := decide_eq_true c19
        clear c19
        have H' := Aside0.mk H
        clear H
        have hnb20 := NB331_332.out
        have hnc20 := NB332_331.out
        have hnb21 := NB331_334.out
        have hnc21 := NB334_331.out
        obtain ⟨C22_0, C22_1, C22_2, C22_3, C22_4, C22_5, -⟩ := cells_6 BK331.out trivial
        obtain ⟨F22_0, F22_1, F22_2, F22_3, F22_4, F22_5, -⟩ := frz_6 BK331.out
        have p335 : 0 ≤ (x6_1 : Int) := od
        have q335 : x6_1 < (l0_1.length : Int) := od
        obtain ⟨ad335, A335_0, c335_0, A335_1, c335_1, e335, hx335_0, hx335_1, hx335_2, hx335_3, hl335_0, hi335_0, hl335_1, hi335_1⟩ := at_T92 HR0_1.out x6_1 p335 q335
        cases e335
        replace hx335_0 := hxb HB hx335_0
        replace hx335_1 := hxb HB hx335_1
        replace hx335_2 := hxb HB hx335_2
        replace hx335_3 := hxb HB hx335_3
        have HR335_0 := Aside0.mk hi335_0
        have HC335_0 := Aside0.mk hl335_0
        clear hi335_0 hl335_0
        have HR335_1 := Aside0.mk hi335_1
        have HC335_1 := Aside0.mk hl335_1
        clear hi335_1 hl335_1
        replace p335 := eq_true p335
        replace q335 := eq_true q335
        go_wp2_with (first | (go_at_call 141; (with_reducible refine (spec_HasPrefix.calls _ _ ((rd_T92 l0_1 x6_1).f0) _ _ l1 true _ ?side1 ?side2 ?side3 ?side4 A17.out).mono ?_); (case side1 => exact kcb); (case side2 => exact HC335_0.out); (case side3 => exact kcb); (case side4 => exact HC1.out); rintro e w' ⟨rfl, ⟨nd, rfl⟩⟩; (try first | exact ⟨rfl, _, World.drewN_drewN _ _ _⟩ | exact ⟨rfl, _, Eq.trans (World.drewN_drewN _ _ _) (congrArg (World.drewN _) (Nat.add_assoc _ _ _))⟩); have hnb23 := NB334_332.out; have hnc23 := NB332_334.out; obtain ⟨C24_0, C24_1, C24_2, -⟩ := cells_3 BK334.out trivial; obtain ⟨F24_0, F24_1, F24_2, -⟩ := frz_3 BK334.out; have p337 : 0 ≤ (x6_1 : Int) := od; have q337 : x6_1 < (l0_1.length : Int) := od; obtain ⟨ad337, A337_0, c337_0, A337_1, c337_1, e337, hx337_0, hx337_1, hx337_2, hx337_3, hl337_0, hi337_0, hl337_1, hi337_1⟩ := at_T92 HR0_1.out x6_1 p337 q337; obtain rfl : ad335 = ad337 := (by injection e337); have hn337_0 : ad335.block ≠ gb334 := Nat.ne_of_lt (Nat.lt_of_lt_of_le (by have := World.block_lt_of_cell? _ _ hx337_0; first | rwa [add_block] at this | exact this) GW334.out); replace hx337_0 := hxb HB hx337_0; replace hx337_1 := hxb HB hx337_1; replace hx337_2 := hxb HB hx337_2; replace hx337_3 := hxb HB hx337_3; have HR337_0 := Aside0.mk hi337_0; have HC337_0 := Aside0.mk hl337_0; clear hi337_0 hl337_0; have HR337_1 := Aside0.mk hi337_1; have HC337_1 := Aside0.mk hl337_1; clear hi337_1 hl337_1; replace hx337_0 := (cell_far (p := ⟨gb334, 1, none⟩) (by first | (rw [add_block]; exact hn337_0) | (show (Addr.add _ _).block ≠ _; rw [add_block]; exact hn337_0) | exact hn337_0) (.bool true)).trans hx337_0; replace hx337_1 := (cell_far (p := ⟨gb334, 1, none⟩) (by first | (rw [add_block]; exact hn337_0) | (show (Addr.add _ _).block ≠ _; rw [add_block]; exact hn337_0) | exact hn337_0) (.bool true)).trans hx337_1; replace hx337_2 := (cell_far (p := ⟨gb334, 1, none⟩) (by first | (rw [add_block]; exact hn337_0) | (show (Addr.add _ _).block ≠ _; rw [add_block]; exact hn337_0) | exact hn337_0) (.bool true)).trans hx337_2; replace hx337_3 := (cell_far (p := ⟨gb334, 1, none⟩) (by first | (rw [add_block]; exact hn337_0) | (show (Addr.add _ _).block ≠ _; rw [add_block]; exact hn337_0) | exact hn337_0) (.bool true)).trans hx337_3; (try have hy337_0 := fun (n_ : Nat) => (show (((wr.drewN n_).setCell ⟨gb334, 1, none⟩ (.bool true))).cell? _ = some _ from hx337_0)); (try have hy337_1 := fun (n_ : Nat) => (show (((wr.drewN n_).setCell ⟨gb334, 1, none⟩ (.bool true))).cell? _ = some _ from hx337_1)); (try have hy337_2 := fun (n_ : Nat) => (show (((wr.drewN n_).setCell ⟨gb334, 1, none⟩ (.bool true))).cell? _ = some _ from hx337_2)); (try have hy337_3 := fun (n_ : Nat) => (show (((wr.drewN n_).setCell ⟨gb334, 1, none⟩ (.bool true))).cell? _ = some _ from hx337_3)); clear hn337_0; replace p337 := eq_true p337; replace q337 := eq_true q337; have p338 : 0 ≤ (x6_1 : Int) := od; have q338 : x6_1 < (l0_1.length : Int) := od; obtain ⟨ad338, A338_0, c338_0, A338_1, c338_1, e338, hx338_0, hx338_1, hx338_2, hx338_3, hl338_0, hi338_0, hl338_1, hi338_1⟩ := at_T92 HR0_1.out x6_1 p338 q338; obtain rfl : ad335 = ad338 := (by injection e338); have hn338_0 : ad335.block ≠ gb334 := Nat.ne_of_lt (Nat.lt_of_lt_of_le (by have := World.block_lt_of_cell? _ _ hx338_0; first | rwa [add_block] at this | exact this) GW334.out); replace hx338_0 := hxb HB hx338_0; replace hx338_1 := hxb HB hx338_1; replace hx338_2 := hxb HB hx338_2; replace hx338_3 := hxb HB hx338_3; have HR338_0 := Aside0.mk hi338_0; have HC338_0 := Aside0.mk hl338_0; clear hi338_0 hl338_0; have HR338_1 := Aside0.mk hi338_1; have HC338_1 := Aside0.mk hl338_1; clear hi338_1 hl338_1; replace hx338_0 := (cell_far (p := ⟨gb334, 1, none⟩) (by first | (rw [add_block]; exact hn338_0) | (show (Addr.add _ _).block ≠ _; rw [add_block]; exact hn338_0) | exact hn338_0) (.bool true)).trans hx338_0; replace hx338_1 := (cell_far (p := ⟨gb334, 1, none⟩) (by first | (rw [add_block]; exact hn338_0) | (show (Addr.add _ _).block ≠ _; rw [add_block]; exact hn338_0) | exact hn338_0) (.bool true)).trans hx338_1; replace hx338_2 := (cell_far (p := ⟨gb334, 1, none⟩) (by first | (rw [add_block]; exact hn338_0) | (show (Addr.add _ _).block ≠ _; rw [add_block]; exact hn338_0) | exact hn338_0) (.bool true)).trans hx338_2; replace hx338_3 := (cell_far (p := ⟨gb334, 1, none⟩) (by first | (rw [add_block]; exact hn338_0) | (show (Addr.add _ _).block ≠ _; rw [add_block]; exact hn338_0) | exact hn338_0) (.bool true)).trans hx338_3; (try have hy338_0 := fun (n_ : Nat) => (show (((wr.drewN n_).setCell ⟨gb334, 1, none⟩ (.bool true))).cell? _ = some _ from hx338_0)); (try have hy338_1 := fun (n_ : Nat) => (show (((wr.drewN n_).setCell ⟨gb334, 1, none⟩ (.bool true))).cell? _ = some _ from hx338_1)); (try have hy338_2 := fun (n_ : Nat) => (show (((wr.drewN n_).setCell ⟨gb334, 1, none⟩ (.bool true))).cell? _ = some _ from hx338_2)); (try have hy338_3 := fun (n_ : Nat) => (show (((wr.drewN n_).setCell ⟨gb334, 1, none⟩ (.bool true))).cell? _ = some _ from hx338_3)); clear hn338_0; replace p338 := eq_true p338; replace q338 := eq_true q338))
        repeat (go_quiet (first | (go_at_call 141; (with_reducible refine (spec_HasPrefix.calls _ _ ((rd_T92 l0_1 x6_1).f0) _ _ l1 true _ ?side1 ?side2 ?side3 ?side4 A17.out).mono ?_); (case side1 => exact kcb); (case side2 => exact HC335_0.out); (case side3 => exact kcb); (case side4 => exact HC1.out); rintro e w' ⟨rfl, ⟨nd, rfl⟩⟩; (try first | exact ⟨rfl, _, World.drewN_drewN _ _ _⟩ | exact ⟨rfl, _, Eq.trans (World.drewN_drewN _ _ _) (congrArg (World.drewN _) (Nat.add_assoc _ _ _))⟩); have hnb23 := NB334_332.out; have hnc23 := NB332_334.out; obtain ⟨C24_0, C24_1, C24_2, -⟩ := cells_3 BK334.out trivial; obtain ⟨F24_0, F24_1, F24_2, -⟩ := frz_3 BK334.out; have p337 : 0 ≤ (x6_1 : Int) := od; have q337 : x6_1 < (l0_1.length : Int) := od; obtain ⟨ad337, A337_0, c337_0, A337_1, c337_1, e337, hx337_0, hx337_1, hx337_2, hx337_3, hl337_0, hi337_0, hl337_1, hi337_1⟩ := at_T92 HR0_1.out x6_1 p337 q337; obtain rfl : ad335 = ad337 := (by injection e337); have hn337_0 : ad335.block ≠ gb334 := Nat.ne_of_lt (Nat.lt_of_lt_of_le (by have := World.block_lt_of_cell? _ _ hx337_0; first | rwa [add_block] at this | exact this) GW334.out); replace hx337_0 := hxb HB hx337_0; replace hx337_1 := hxb HB hx337_1; replace hx337_2 := hxb HB hx337_2; replace hx337_3 := hxb HB hx337_3; have HR337_0 := Aside0.mk hi337_0; have HC337_0 := Aside0.mk hl337_0; clear hi337_0 hl337_0; have HR337_1 := Aside0.mk hi337_1; have HC337_1 := Aside0.mk hl337_1; clear hi337_1 hl337_1; replace hx337_0 := (cell_far (p := ⟨gb334, 1, none⟩) (by first | (rw [add_block]; exact hn337_0) | (show (Addr.add _ _).block ≠ _; rw [add_block]; exact hn337_0) | exact hn337_0) (.bool true)).trans hx337_0; replace hx337_1 := (cell_far (p := ⟨gb334, 1, none⟩) (by first | (rw [add_block]; exact hn337_0) | (show (Addr.add _ _).block ≠ _; rw [add_block]; exact hn337_0) | exact hn337_0) (.bool true)).trans hx337_1; replace hx337_2 := (cell_far (p := ⟨gb334, 1, none⟩) (by first | (rw [add_block]; exact hn337_0) | (show (Addr.add _ _).block ≠ _; rw [add_block]; exact hn337_0) | exact hn337_0) (.bool true)).trans hx337_2; replace hx337_3 := (cell_far (p := ⟨gb334, 1, none⟩) (by first | (rw [add_block]; exact hn337_0) | (show (Addr.add _ _).block ≠ _; rw [add_block]; exact hn337_0) | exact hn337_0) (.bool true)).trans hx337_3; (try have hy337_0 := fun (n_ : Nat) => (show (((wr.drewN n_).setCell ⟨gb334, 1, none⟩ (.bool true))).cell? _ = some _ from hx337_0)); (try have hy337_1 := fun (n_ : Nat) => (show (((wr.drewN n_).setCell ⟨gb334, 1, none⟩ (.bool true))).cell? _ = some _ from hx337_1)); (try have hy337_2 := fun (n_ : Nat) => (show (((wr.drewN n_).setCell ⟨gb334, 1, none⟩ (.bool true))).cell? _ = some _ from hx337_2)); (try have hy337_3 := fun (n_ : Nat) => (show (((wr.drewN n_).setCell ⟨gb334, 1, none⟩ (.bool true))).cell? _ = some _ from hx337_3)); clear hn337_0; replace p337 := eq_true p337; replace q337 := eq_true q337; have p338 : 0 ≤ (x6_1 : Int) := od; have q338 : x6_1 < (l0_1.length : Int) := od; obtain ⟨ad338, A338_0, c338_0, A338_1, c338_1, e338, hx338_0, hx338_1, hx338_2, hx338_3, hl338_0, hi338_0, hl338_1, hi338_1⟩ := at_T92 HR0_1.out x6_1 p338 q338; obtain rfl : ad335 = ad338 := (by injection e338); have hn338_0 : ad335.block ≠ gb334 := Nat.ne_of_lt (Nat.lt_of_lt_of_le (by have := World.block_lt_of_cell? _ _ hx338_0; first | rwa [add_block] at this | exact this) GW334.out); replace hx338_0 := hxb HB hx338_0; replace hx338_1 := hxb HB hx338_1; replace hx338_2 := hxb HB hx338_2; replace hx338_3 := hxb HB hx338_3; have HR338_0 := Aside0.mk hi338_0; have HC338_0 := Aside0.mk hl338_0; clear hi338_0 hl338_0; have HR338_1 := Aside0.mk hi338_1; have HC338_1 := Aside0.mk hl338_1; clear hi338_1 hl338_1; replace hx338_0 := (cell_far (p := ⟨gb334, 1, none⟩) (by first | (rw [add_block]; exact hn338_0) | (show (Addr.add _ _).block ≠ _; rw [add_block]; exact hn338_0) | exact hn338_0) (.bool true)).trans hx338_0; replace hx338_1 := (cell_far (p := ⟨gb334, 1, none⟩) (by first | (rw [add_block]; exact hn338_0) | (show (Addr.add _ _).block ≠ _; rw [add_block]; exact hn338_0) | exact hn338_0) (.bool true)).trans hx338_1; replace hx338_2 := (cell_far (p := ⟨gb334, 1, none⟩) (by first | (rw [add_block]; exact hn338_0) | (show (Addr.add _ _).block ≠ _; rw [add_block]; exact hn338_0) | exact hn338_0) (.bool true)).trans hx338_2; replace hx338_3 := (cell_far (p := ⟨gb334, 1, none⟩) (by first | (rw [add_block]; exact hn338_0) | (show (Addr.add _ _).block ≠ _; rw [add_block]; exact hn338_0) | exact hn338_0) (.bool true)).trans hx338_3; (try have hy338_0 := fun (n_ : Nat) => (show (((wr.drewN n_).setCell ⟨gb334, 1, none⟩ (.bool true))).cell? _ = some _ from hx338_0)); (try have hy338_1 := fun (n_ : Nat) => (show (((wr.drewN n_).setCell ⟨gb334, 1, none⟩ (.bool true))).cell? _ = some _ from hx338_1)); (try have hy338_2 := fun (n_ : Nat) => (show (((wr.drewN n_).setCell ⟨gb334, 1, none⟩ (.bool true))).cell? _ = some _ from hx338_2)); (try have hy338_3 := fun (n_ : Nat) => (show (((wr.drewN n_).setCell ⟨gb334, 1, none⟩ (.bool true))).cell? _ = some _ from hx338_3)); clear hn338_0; replace p338 := eq_true p338; replace q338 := eq_true q338)); try go_wp2_with (first | (go_at_call 141; (with_reducible refine (spec_HasPrefix.calls _ _ ((rd_T92 l0_1 x6_1).f0) _ _ l1 true _ ?side1 ?side2 ?side3 ?side4 A17.out).mono ?_); (case side1 => exact kcb); (case side2 => exact HC335_0.out); (case side3 => exact kcb); (case side4 => exact HC1.out); rintro e w' ⟨rfl, ⟨nd, rfl⟩⟩; (try first | exact ⟨rfl, _, World.drewN_drewN _ _ _⟩ | exact ⟨rfl, _, Eq.trans (World.drewN_drewN _ _ _) (congrArg (World.drewN _) (Nat.add_assoc _ _ _))⟩); have hnb23 := NB334_332.out; have hnc23 := NB332_334.out; obtain ⟨C24_0, C24_1, C24_2, -⟩ := cells_3 BK334.out trivial; obtain ⟨F24_0, F24_1, F24_2, -⟩ := frz_3 BK334.out; have p337 : 0 ≤ (x6_1 : Int) := od; have q337 : x6_1 < (l0_1.length : Int) := od; obtain ⟨ad337, A337_0, c337_0, A337_1, c337_1, e337, hx337_0, hx337_1, hx337_2, hx337_3, hl337_0, hi337_0, hl337_1, hi337_1⟩ := at_T92 HR0_1.out x6_1 p337 q337; obtain rfl : ad335 = ad337 := (by injection e337); have hn337_0 : ad335.block ≠ gb334 := Nat.ne_of_lt (Nat.lt_of_lt_of_le (by have := World.block_lt_of_cell? _ _ hx337_0; first | rwa [add_block] at this | exact this) GW334.out); replace hx337_0 := hxb HB hx337_0; replace hx337_1 := hxb HB hx337_1; replace hx337_2 := hxb HB hx337_2; replace hx337_3 := hxb HB hx337_3; have HR337_0 := Aside0.mk hi337_0; have HC337_0 := Aside0.mk hl337_0; clear hi337_0 hl337_0; have HR337_1 := Aside0.mk hi337_1; have HC337_1 := Aside0.mk hl337_1; clear hi337_1 hl337_1; replace hx337_0 := (cell_far (p := ⟨gb334, 1, none⟩) (by first | (rw [add_block]; exact hn337_0) | (show (Addr.add _ _).block ≠ _; rw [add_block]; exact hn337_0) | exact hn337_0) (.bool true)).trans hx337_0; replace hx337_1 := (cell_far (p := ⟨gb334, 1, none⟩) (by first | (rw [add_block]; exact hn337_0) | (show (Addr.add _ _).block ≠ _; rw [add_block]; exact hn337_0) | exact hn337_0) (.bool true)).trans hx337_1; replace hx337_2 := (cell_far (p := ⟨gb334, 1, none⟩) (by first | (rw [add_block]; exact hn337_0) | (show (Addr.add _ _).block ≠ _; rw [add_block]; exact hn337_0) | exact hn337_0) (.bool true)).trans hx337_2; replace hx337_3 := (cell_far (p := ⟨gb334, 1, none⟩) (by first | (rw [add_block]; exact hn337_0) | (show (Addr.add _ _).block ≠ _; rw [add_block]; exact hn337_0) | exact hn337_0) (.bool true)).trans hx337_3; (try have hy337_0 := fun (n_ : Nat) => (show (((wr.drewN n_).setCell ⟨gb334, 1, none⟩ (.bool true))).cell? _ = some _ from hx337_0)); (try have hy337_1 := fun (n_ : Nat) => (show (((wr.drewN n_).setCell ⟨gb334, 1, none⟩ (.bool true))).cell? _ = some _ from hx337_1)); (try have hy337_2 := fun (n_ : Nat) => (show (((wr.drewN n_).setCell ⟨gb334, 1, none⟩ (.bool true))).cell? _ = some _ from hx337_2)); (try have hy337_3 := fun (n_ : Nat) => (show (((wr.drewN n_).setCell ⟨gb334, 1, none⟩ (.bool true))).cell? _ = some _ from hx337_3)); clear hn337_0; replace p337 := eq_true p337; replace q337 := eq_true q337; have p338 : 0 ≤ (x6_1 : Int) := od; have q338 : x6_1 < (l0_1.length : Int) := od; obtain ⟨ad338, A338_0, c338_0, A338_1, c338_1, e338, hx338_0, hx338_1, hx338_2, hx338_3, hl338_0, hi338_0, hl338_1, hi338_1⟩ := at_T92 HR0_1.out x6_1 p338 q338; obtain rfl : ad335 = ad338 := (by injection e338); have hn338_0 : ad335.block ≠ gb334 := Nat.ne_of_lt (Nat.lt_of_lt_of_le (by have := World.block_lt_of_cell? _ _ hx338_0; first | rwa [add_block] at this | exact this) GW334.out); replace hx338_0 := hxb HB hx338_0; replace hx338_1 := hxb HB hx338_1; replace hx338_2 := hxb HB hx338_2; replace hx338_3 := hxb HB hx338_3; have HR338_0 := Aside0.mk hi338_0; have HC338_0 := Aside0.mk hl338_0; clear hi338_0 hl338_0; have HR338_1 := Aside0.mk hi338_1; have HC338_1 := Aside0.mk hl338_1; clear hi338_1 hl338_1; replace hx338_0 := (cell_far (p := ⟨gb334, 1, none⟩) (by first | (rw [add_block]; exact hn338_0) | (show (Addr.add _ _).block ≠ _; rw [add_block]; exact hn338_0) | exact hn338_0) (.bool true)).trans hx338_0; replace hx338_1 := (cell_far (p := ⟨gb334, 1, none⟩) (by first | (rw [add_block]; exact hn338_0) | (show (Addr.add _ _).block ≠ _; rw [add_block]; exact hn338_0) | exact hn338_0) (.bool true)).trans hx338_1; replace hx338_2 := (cell_far (p := ⟨gb334, 1, none⟩) (by first | (rw [add_block]; exact hn338_0) | (show (Addr.add _ _).block ≠ _; rw [add_block]; exact hn338_0) | exact hn338_0) (.bool true)).trans hx338_2; replace hx338_3 := (cell_far (p := ⟨gb334, 1, none⟩) (by first | (rw [add_block]; exact hn338_0) | (show (Addr.add _ _).block ≠ _; rw [add_block]; exact hn338_0) | exact hn338_0) (.bool true)).trans hx338_3; (try have hy338_0 := fun (n_ : Nat) => (show (((wr.drewN n_).setCell ⟨gb334, 1, none⟩ (.bool true))).cell? _ = some _ from hx338_0)); (try have hy338_1 := fun (n_ : Nat) => (show (((wr.drewN n_).setCell ⟨gb334, 1, none⟩ (.bool true))).cell? _ = some _ from hx338_1)); (try have hy338_2 := fun (n_ : Nat) => (show (((wr.drewN n_).setCell ⟨gb334, 1, none⟩ (.bool true))).cell? _ = some _ from hx338_2)); (try have hy338_3 := fun (n_ : Nat) => (show (((wr.drewN n_).setCell ⟨gb334, 1, none⟩ (.bool true))).cell? _ = some _ from hx338_3)); clear hn338_0; replace p338 := eq_true p338; replace q338 := eq_true q338)))
        go_roundg k1
        case measure => have := HK1.out; omega
        case rel => exact ⟨(wrap64 (x6_1 + 1)), ((rd_T92 l0_1 x6_1).f2), (true), rs_, H', ⟨by have := HK1.out; omega⟩, ⟨by (with_reducible repeat (first | refine blk_drewN ?_ _ | refine blk_drew ?_ | refine blk_alloc ?_ _)); refine blk_far ?_ NB331_334.out _; (with_reducible repeat (first | refine blk_drewN ?_ _ | refine blk_drew ?_ | refine blk_alloc ?_ _)); refine blk_far ?_ NB331_334.out _; (with_reducible repeat (first | refine blk_drewN ?_ _ | refine blk_drew ?_ | refine blk_alloc ?_ _)); exact BK331.out⟩, ⟨by (with_reducible repeat (first | refine blk_drewN ?_ _ | refine blk_drew ?_ | refine blk_alloc ?_ _)); refine blk_far ?_ NB332_334.out _; (with_reducible repeat (first | refine blk_drewN ?_ _ | refine blk_drew ?_ | refine blk_alloc ?_ _)); refine blk_far ?_ NB332_334.out _; (with_reducible repeat (first | refine blk_drewN ?_ _ | refine blk_drew ?_ | refine blk_alloc ?_ _)); exact BK332.out⟩, ⟨by (with_reducible repeat (first | refine blk_drewN ?_ _ | refine blk_drew ?_ | refine blk_alloc ?_ _)); refine blk_put (cs := #[.int .i64 x335000_1, .bool true, .slice none 0 0]) ?_ 0 _ rfl; (with_reducible repeat (first | refine blk_drewN ?_ _ | refine blk_drew ?_ | refine blk_alloc ?_ _)); refine blk_put (cs := #[.int .i64 x335000_1, .bool x335001_1, .slice none 0 0]) ?_ 1 _ rfl; (with_reducible repeat (first | refine blk_drewN ?_ _ | refine blk_drew ?_ | refine blk_alloc ?_ _)); exact BK334.out⟩, ⟨bel⟩⟩
       rw [if_neg c19] at H
       have c19b0 : decide (x335000_1 < ((rd_T92 l0_1 x6_1).f2)) = false := decide_eq_false c19
       clear c19
       have H' := Aside0.mk H
       clear H
       have hnb25 := NB331_332.out
       have hnc25 := NB332_331.out
       have hnb26 := NB331_334.out
       have hnc26 := NB334_331.out
       obtain ⟨C27_0, C27_1, C27_2, C27_3, C27_4, C27_5, -⟩ := cells_6 BK331.out trivial
       obtain ⟨F27_0, F27_1, F27_2, F27_3, F27_4, F27_5, -⟩ := frz_6 BK331.out
       have p335 : 0 ≤ (x6_1 : Int) := od
       have q335 : x6_1 < (l0_1.length : Int) := od
       obtain ⟨ad335, A335_0, c335_0, A335_1, c335_1, e335, hx335_0, hx335_1, hx335_2, hx335_3, hl335_0, hi335_0, hl335_1, hi335_1⟩ := at_T92 HR0_1.out x6_1 p335 q335
       cases e335
       replace hx335_0 := hxb HB hx335_0
       replace hx335_1 := hxb HB hx335_1
       replace hx335_2 := hxb HB hx335_2
       replace hx335_3 := hxb HB hx335_3
       have HR335_0 := Aside0.mk hi335_0
       have HC335_0 := Aside0.mk hl335_0
       clear hi335_0 hl335_0
       have HR335_1 := Aside0.mk hi335_1
       have HC335_1 := Aside0.mk hl335_1
       clear hi335_1 hl335_1
       replace p335 := eq_true p335
       replace q335 := eq_true q335
       go_wp2_with (first | (go_at_call 141; (with_reducible refine (spec_HasPrefix.calls _ _ ((rd_T92 l0_1 x6_1).f0) _ _ l1 true _ ?side1 ?side2 ?side3 ?side4 A17.out).mono ?_); (case side1 => exact kcb); (case side2 => exact HC335_0.out); (case side3 => exact kcb); (case side4 => exact HC1.out); rintro e w' ⟨rfl, ⟨nd, rfl⟩⟩; (try first | exact ⟨rfl, _, World.drewN_drewN _ _ _⟩ | exact ⟨rfl, _, Eq.trans (World.drewN_drewN _ _ _) (congrArg (World.drewN _) (Nat.add_assoc _ _ _))⟩); have hnb28 := NB334_332.out; have hnc28 := NB332_334.out; obtain ⟨C29_0, C29_1, C29_2, -⟩ := cells_3 BK334.out trivial; obtain ⟨F29_0, F29_1, F29_2, -⟩ := frz_3 BK334.out; have p337 : 0 ≤ (x6_1 : Int) := od; have q337 : x6_1 < (l0_1.length : Int) := od; obtain ⟨ad337, A337_0, c337_0, A337_1, c337_1, e337, hx337_0, hx337_1, hx337_2, hx337_3, hl337_0, hi337_0, hl337_1, hi337_1⟩ := at_T92 HR0_1.out x6_1 p337 q337; obtain rfl : ad335 = ad337 := (by injection e337); have hn337_0 : ad335.block ≠ gb334 := Nat.ne_of_lt (Nat.lt_of_lt_of_le (by have := World.block_lt_of_cell? _ _ hx337_0; first | rwa [add_block] at this | exact this) GW334.out); replace hx337_0 := hxb HB hx337_0; replace hx337_1 := hxb HB hx337_1; replace hx337_2 := hxb HB hx337_2; replace hx337_3 := hxb HB hx337_3; have HR337_0 := Aside0.mk hi337_0; have HC337_0 := Aside0.mk hl337_0; clear hi337_0 hl337_0; have HR337_1 := Aside0.mk hi337_1; have HC337_1 := Aside0.mk hl337_1; clear hi337_1 hl337_1; replace hx337_0 := (cell_far (p := ⟨gb334, 1, none⟩) (by first | (rw [add_block]; exact hn337_0) | (show (Addr.add _ _).block ≠ _; rw [add_block]; exact hn337_0) | exact hn337_0) (.bool true)).trans hx337_0; replace hx337_1 := (cell_far (p := ⟨gb334, 1, none⟩) (by first | (rw [add_block]; exact hn337_0) | (show (Addr.add _ _).block ≠ _; rw [add_block]; exact hn337_0) | exact hn337_0) (.bool true)).trans hx337_1; replace hx337_2 := (cell_far (p := ⟨gb334, 1, none⟩) (by first | (rw [add_block]; exact hn337_0) | (show (Addr.add _ _).block ≠ _; rw [add_block]; exact hn337_0) | exact hn337_0) (.bool true)).trans hx337_2; replace hx337_3 := (cell_far (p := ⟨gb334, 1, none⟩) (by first | (rw [add_block]; exact hn337_0) | (show (Addr.add _ _).block ≠ _; rw [add_block]; exact hn337_0) | exact hn337_0) (.bool true)).trans hx337_3; (try have hy337_0 := fun (n_ : Nat) => (show (((wr.drewN n_).setCell ⟨gb334, 1, none⟩ (.bool true))).cell? _ = some _ from hx337_0)); (try have hy337_1 := fun (n_ : Nat) => (show (((wr.drewN n_).setCell ⟨gb334, 1, none⟩ (.bool true))).cell? _ = some _ from hx337_1)); (try have hy337_2 := fun (n_ : Nat) => (show (((wr.drewN n_).setCell ⟨gb334, 1, none⟩ (.bool true))).cell? _ = some _ from hx337_2)); (try have hy337_3 := fun (n_ : Nat) => (show (((wr.drewN n_).setCell ⟨gb334, 1, none⟩ (.bool true))).cell? _ = some _ from hx337_3)); clear hn337_0; replace p337 := eq_true p337; replace q337 := eq_true q337))
       repeat (go_quiet (first | (go_at_call 141; (with_reducible refine (spec_HasPrefix.calls _ _ ((rd_T92 l0_1 x6_1).f0) _ _ l1 true _ ?side1 ?side2 ?side3 ?side4 A17.out).mono ?_); (case side1 => exact kcb); (case side2 => exact HC335_0.out); (case side3 => exact kcb); (case side4 => exact HC1.out); rintro e w' ⟨rfl, ⟨nd, rfl⟩⟩; (try first | exact ⟨rfl, _, World.drewN_drewN _ _ _⟩ | exact ⟨rfl, _, Eq.trans (World.drewN_drewN _ _ _) (congrArg (World.drewN _) (Nat.add_assoc _ _ _))⟩); have hnb28 := NB334_332.out; have hnc28 := NB332_334.out; obtain ⟨C29_0, C29_1, C29_2, -⟩ := cells_3 BK334.out trivial; obtain ⟨F29_0, F29_1, F29_2, -⟩ := frz_3 BK334.out; have p337 : 0 ≤ (x6_1 : Int) := od; have q337 : x6_1 < (l0_1.length : Int) := od; obtain ⟨ad337, A337_0, c337_0, A337_1, c337_1, e337, hx337_0, hx337_1, hx337_2, hx337_3, hl337_0, hi337_0, hl337_1, hi337_1⟩ := at_T92 HR0_1.out x6_1 p337 q337; obtain rfl : ad335 = ad337 := (by injection e337); have hn337_0 : ad335.block ≠ gb334 := Nat.ne_of_lt (Nat.lt_of_lt_of_le (by have := World.block_lt_of_cell? _ _ hx337_0; first | rwa [add_block] at this | exact this) GW334.out); replace hx337_0 := hxb HB hx337_0; replace hx337_1 := hxb HB hx337_1; replace hx337_2 := hxb HB hx337_2; replace hx337_3 := hxb HB hx337_3; have HR337_0 := Aside0.mk hi337_0; have HC337_0 := Aside0.mk hl337_0; clear hi337_0 hl337_0; have HR337_1 := Aside0.mk hi337_1; have HC337_1 := Aside0.mk hl337_1; clear hi337_1 hl337_1; replace hx337_0 := (cell_far (p := ⟨gb334, 1, none⟩) (by first | (rw [add_block]; exact hn337_0) | (show (Addr.add _ _).block ≠ _; rw [add_block]; exact hn337_0) | exact hn337_0) (.bool true)).trans hx337_0; replace hx337_1 := (cell_far (p := ⟨gb334, 1, none⟩) (by first | (rw [add_block]; exact hn337_0) | (show (Addr.add _ _).block ≠ _; rw [add_block]; exact hn337_0) | exact hn337_0) (.bool true)).trans hx337_1; replace hx337_2 := (cell_far (p := ⟨gb334, 1, none⟩) (by first | (rw [add_block]; exact hn337_0) | (show (Addr.add _ _).block ≠ _; rw [add_block]; exact hn337_0) | exact hn337_0) (.bool true)).trans hx337_2; replace hx337_3 := (cell_far (p := ⟨gb334, 1, none⟩) (by first | (rw [add_block]; exact hn337_0) | (show (Addr.add _ _).block ≠ _; rw [add_block]; exact hn337_0) | exact hn337_0) (.bool true)).trans hx337_3; (try have hy337_0 := fun (n_ : Nat) => (show (((wr.drewN n_).setCell ⟨gb334, 1, none⟩ (.bool true))).cell? _ = some _ from hx337_0)); (try have hy337_1 := fun (n_ : Nat) => (show (((wr.drewN n_).setCell ⟨gb334, 1, none⟩ (.bool true))).cell? _ = some _ from hx337_1)); (try have hy337_2 := fun (n_ : Nat) => (show (((wr.drewN n_).setCell ⟨gb334, 1, none⟩ (.bool true))).cell? _ = some _ from hx337_2)); (try have hy337_3 := fun (n_ : Nat) => (show (((wr.drewN n_).setCell ⟨gb334, 1, none⟩ (.bool true))).cell? _ = some _ from hx337_3)); clear hn337_0; replace p337 := eq_true p337; replace q337 := eq_true q337)); try go_wp2_with (first | (go_at_call 141; (with_reducible refine (spec_HasPrefix.calls _ _ ((rd_T92 l0_1 x6_1).f0) _ _ l1 true _ ?side1 ?side2 ?side3 ?side4 A17.out).mono ?_); (case side1 => exact kcb); (case side2 => exact HC335_0.out); (case side3 => exact kcb); (case side4 => exact HC1.out); rintro e w' ⟨rfl, ⟨nd, rfl⟩⟩; (try first | exact ⟨rfl, _, World.drewN_drewN _ _ _⟩ | exact ⟨rfl, _, Eq.trans (World.drewN_drewN _ _ _) (congrArg (World.drewN _) (Nat.add_assoc _ _ _))⟩); have hnb28 := NB334_332.out; have hnc28 := NB332_334.out; obtain ⟨C29_0, C29_1, C29_2, -⟩ := cells_3 BK334.out trivial; obtain ⟨F29_0, F29_1, F29_2, -⟩ := frz_3 BK334.out; have p337 : 0 ≤ (x6_1 : Int) := od; have q337 : x6_1 < (l0_1.length : Int) := od; obtain ⟨ad337, A337_0, c337_0, A337_1, c337_1, e337, hx337_0, hx337_1, hx337_2, hx337_3, hl337_0, hi337_0, hl337_1, hi337_1⟩ := at_T92 HR0_1.out x6_1 p337 q337; obtain rfl : ad335 = ad337 := (by injection e337); have hn337_0 : ad335.block ≠ gb334 := Nat.ne_of_lt (Nat.lt_of_lt_of_le (by have := World.block_lt_of_cell? _ _ hx337_0; first | rwa [add_block] at this | exact this) GW334.out); replace hx337_0 := hxb HB hx337_0; replace hx337_1 := hxb HB hx337_1; replace hx337_2 := hxb HB hx337_2; replace hx337_3 := hxb HB hx337_3; have HR337_0 := Aside0.mk hi337_0; have HC337_0 := Aside0.mk hl337_0; clear hi337_0 hl337_0; have HR337_1 := Aside0.mk hi337_1; have HC337_1 := Aside0.mk hl337_1; clear hi337_1 hl337_1; replace hx337_0 := (cell_far (p := ⟨gb334, 1, none⟩) (by first | (rw [add_block]; exact hn337_0) | (show (Addr.add _ _).block ≠ _; rw [add_block]; exact hn337_0) | exact hn337_0) (.bool true)).trans hx337_0; replace hx337_1 := (cell_far (p := ⟨gb334, 1, none⟩) (by first | (rw [add_block]; exact hn337_0) | (show (Addr.add _ _).block ≠ _; rw [add_block]; exact hn337_0) | exact hn337_0) (.bool true)).trans hx337_1; replace hx337_2 := (cell_far (p := ⟨gb334, 1, none⟩) (by first | (rw [add_block]; exact hn337_0) | (show (Addr.add _ _).block ≠ _; rw [add_block]; exact hn337_0) | exact hn337_0) (.bool true)).trans hx337_2; replace hx337_3 := (cell_far (p := ⟨gb334, 1, none⟩) (by first | (rw [add_block]; exact hn337_0) | (show (Addr.add _ _).block ≠ _; rw [add_block]; exact hn337_0) | exact hn337_0) (.bool true)).trans hx337_3; (try have hy337_0 := fun (n_ : Nat) => (show (((wr.drewN n_).setCell ⟨gb334, 1, none⟩ (.bool true))).cell? _ = some _ from hx337_0)); (try have hy337_1 := fun (n_ : Nat) => (show (((wr.drewN n_).setCell ⟨gb334, 1, none⟩ (.bool true))).cell? _ = some _ from hx337_1)); (try have hy337_2 := fun (n_ : Nat) => (show (((wr.drewN n_).setCell ⟨gb334, 1, none⟩ (.bool true))).cell? _ = some _ from hx337_2)); (try have hy337_3 := fun (n_ : Nat) => (show (((wr.drewN n_).setCell ⟨gb334, 1, none⟩ (.bool true))).cell? _ = some _ from hx337_3)); clear hn337_0; replace p337 := eq_true p337; replace q337 := eq_true q337)))
       go_roundg k1
       case measure => have := HK1.out; omega
       case rel => exact ⟨(wrap64 (x6_1 + 1)), (x335000_1), (true), rs_, H', ⟨by have := HK1.out; omega⟩, ⟨by (with_reducible repeat (first | refine blk_drewN ?_ _ | refine blk_drew ?_ | refine blk_alloc ?_ _)); refine blk_far ?_ NB331_334.out _; (with_reducible repeat (first | refine blk_drewN ?_ _ | refine blk_drew ?_ | refine blk_alloc ?_ _)); exact BK331.out⟩, ⟨by (with_reducible repeat (first | refine blk_drewN ?_ _ | refine blk_drew ?_ | refine blk_alloc ?_ _)); refine blk_far ?_ NB332_334.out _; (with_reducible repeat (first | refine blk_drewN ?_ _ | refine blk_drew ?_ | refine blk_alloc ?_ _)); exact BK332.out⟩, ⟨by (with_reducible repeat (first | refine blk_drewN ?_ _ | refine blk_drew ?_ | refine blk_alloc ?_ _)); refine blk_put (cs := #[.int .i64 x335000_1, .bool x335001_1, .slice none 0 0]) ?_ 1 _ rfl; (with_reducible repeat (first | refine blk_drewN ?_ _ | refine blk_drew ?_ | refine blk_alloc ?_ _)); exact BK334.out⟩, ⟨bel⟩⟩
      replace c18 := Bool.eq_false_iff.mpr c18
      subst c18
      have H1 : (spec_Branch.l0 k1 l1 (wrap64 (x6_1 + 1)) a0_0 l0_1 l0_2 a0_3 l0_4 l0_5 x335000_1 x335001_1) = some (r1, r2, r3) := by rw [if_neg (show ¬ (false = true) by decide)] at H; exact H
      clear H
      have H := H1
      clear H1
      have H' := Aside0.mk H
      clear H
      have hnb30 := NB331_332.out
      have hnc30 := NB332_331.out
      have hnb31 := NB331_334.out
      have hnc31 := NB334_331.out
      obtain ⟨C32_0, C32_1, C32_2, C32_3, C32_4, C32_5, -⟩ := cells_6 BK331.out trivial
      obtain ⟨F32_0, F32_1, F32_2, F32_3, F32_4, F32_5, -⟩ := frz_6 BK331.out
      have p335 : 0 ≤ (x6_1 : Int) := od
      have q335 : x6_1 < (l0_1.length : Int) := od
      obtain ⟨ad335, A335_0, c335_0, A335_1, c335_1, e335, hx335_0, hx335_1, hx335_2, hx335_3, hl335_0, hi335_0, hl335_1, hi335_1⟩ := at_T92 HR0_1.out x6_1 p335 q335
      cases e335
      replace hx335_0 := hxb HB hx335_0
      replace hx335_1 := hxb HB hx335_1
      replace hx335_2 := hxb HB hx335_2
      replace hx335_3 := hxb HB hx335_3
      have HR335_0 := Aside0.mk hi335_0
      have HC335_0 := Aside0.mk hl335_0
      clear hi335_0 hl335_0
      have HR335_1 := Aside0.mk hi335_1
      have HC335_1 := Aside0.mk hl335_1
      clear hi335_1 hl335_1
      replace p335 := eq_true p335
      replace q335 := eq_true q335
      go_wp2_with (first | (go_at_call 141; (with_reducible refine (spec_HasPrefix.calls _ _ ((rd_T92 l0_1 x6_1).f0) _ _ l1 false _ ?side1 ?side2 ?side3 ?side4 A17.out).mono ?_); (case side1 => exact kcb); (case side2 => exact HC335_0.out); (case side3 => exact kcb); (case side4 => exact HC1.out); rintro e w' ⟨rfl, ⟨nd, rfl⟩⟩; (try first | exact ⟨rfl, _, World.drewN_drewN _ _ _⟩ | exact ⟨rfl, _, Eq.trans (World.drewN_drewN _ _ _) (congrArg (World.drewN _) (Nat.add_assoc _ _ _))⟩)))
      repeat (go_quiet (first | (go_at_call 141; (with_reducible refine (spec_HasPrefix.calls _ _ ((rd_T92 l0_1 x6_1).f0) _ _ l1 false _ ?side1 ?side2 ?side3 ?side4 A17.out).mono ?_); (case side1 => exact kcb); (case side2 => exact HC335_0.out); (case side3 => exact kcb); (case side4 => exact HC1.out); rintro e w' ⟨rfl, ⟨nd, rfl⟩⟩; (try first | exact ⟨rfl, _, World.drewN_drewN _ _ _⟩ | exact ⟨rfl, _, Eq.trans (World.drewN_drewN _ _ _) (congrArg (World.drewN _) (Nat.add_assoc _ _ _))⟩))); try go_wp2_with (first | (go_at_call 141; (with_reducible refine (spec_HasPrefix.calls _ _ ((rd_T92 l0_1 x6_1).f0) _ _ l1 false _ ?side1 ?side2 ?side3 ?side4 A17.out).mono ?_); (case side1 => exact kcb); (case side2 => exact HC335_0.out); (case side3 => exact kcb); (case side4 => exact HC1.out); rintro e w' ⟨rfl, ⟨nd, rfl⟩⟩; (try first | exact ⟨rfl, _, World.drewN_drewN _ _ _⟩ | exact ⟨rfl, _, Eq.trans (World.drewN_drewN _ _ _) (congrArg (World.drewN _) (Nat.add_assoc _ _ _))⟩))))
      go_roundg k1
      case measure => have := HK1.out; omega
      case rel => exact ⟨(wrap64 (x6_1 + 1)), (x335000_1), (x335001_1), rs_, H', ⟨by have := HK1.out; omega⟩, ⟨bkp BK331⟩, ⟨bkp BK332⟩, ⟨bkp BK334⟩, ⟨bel⟩⟩
     rw [if_neg c16] at H
     exact absurd H (by simp)
    rw [if_neg c15] at H
    have c15b0 : decide (x6_1 < (l0_1.length : Int)) = false := decide_eq_false c15
    clear c15
    have H' := Aside0.mk H
    clear H
    have hnb33 := NB331_332.out
    have hnc33 := NB332_331.out
    have hnb34 := NB331_334.out
    have hnc34 := NB334_331.out
    obtain ⟨C35_0, C35_1, C35_2, C35_3, C35_4, C35_5, -⟩ := cells_6 BK331.out trivial
    obtain ⟨F35_0, F35_1, F35_2, F35_3, F35_4, F35_5, -⟩ := frz_6 BK331.out
    go_wp2
    repeat (go_quiet (fail); try go_wp2)
    go_loopg [7] k1 (fun kq v7 w' => ∃ (x7_2 : Int) (x335000_2 : Int), v7 = .int .i64 x7_2 ∧ Aside0 (spec_Branch.l1 kq l1 x7_2 a0_0 l0_1 l0_2 a0_3 l0_4 l0_5 x335000_2 x335001_1 = some (r1, r2, r3)) ∧ Aside0 (kq ≤ k1) ∧ Aside0 (w'.heap[gb331]? = some (.cells #[.int .i64 a0_0, (.slice A0_1 l0_1.length c0_1), (.slice A0_2 l0_2.length c0_2), .int .i64 a0_3, (.slice A0_4 l0_4.length c0_4), (.slice A0_5 l0_5.length c0_5)] 35 (0, 0))) ∧ Aside0 (w'.heap[gb332]? = some (.cells #[.int .i64 0, .bool false, (.slice none 0 0)] 89 (0, 0))) ∧ Aside0 (w'.heap[gb334]? = some (.cells #[.int .i64 x335000_2, .bool x335001_1, (.slice none 0 0)] 89 (0, 0))) ∧ Aside0 (Below w.heap.size w w'))
    case atStart => exact ⟨(0), (x335000_1), rs_, H', ⟨Nat.le_refl _⟩, ⟨bkp BK331⟩, ⟨bkp BK332⟩, ⟨bkp BK334⟩, ⟨bel⟩⟩
    case round =>
     clear H'
     try clear c1; try clear c2; try clear p2; try clear c3; try clear p3; try clear q3; try clear hx3; try clear c4; try clear c6; try clear p6; try clear c7; try clear c12; try clear c13; try clear c15; try clear c15b0; try clear c16; try clear c16b0; try clear c18; try clear c19; try clear c19b0; try clear c20; try clear c21; try clear c23; try clear c25; try clear c26; try clear c28; try clear c30; try clear c31; try clear c33; try clear p33; try clear q33; try clear hx33; try clear c34; try clear C10_0 C10_1 C10_2 C10_3 C10_4 C10_5; try clear C14_0 C14_1 C14_2; try clear C22_0 C22_1 C22_2 C22_3 C22_4 C22_5; try clear C24_0 C24_1 C24_2; try clear C27_0 C27_1 C27_2 C27_3 C27_4 C27_5; try clear C29_0 C29_1 C29_2; try clear C32_0 C32_1 C32_2 C32_3 C32_4 C32_5; try clear C35_0 C35_1 C35_2 C35_3 C35_4 C35_5; try clear C8_0 C8_1 C8_2 C8_3 C8_4 C8_5; try clear F10_0 F10_1 F10_2 F10_3 F10_4 F10_5; try clear F14_0 F14_1 F14_2; try clear F22_0 F22_1 F22_2 F22_3 F22_4 F22_5; try clear F24_0 F24_1 F24_2; try clear F27_0 F27_1 F27_2 F27_3 F27_4 F27_5; try clear F29_0 F29_1 F29_2; try clear F32_0 F32_1 F32_2 F32_3 F32_4 F32_5; try clear F35_0 F35_1 F35_2 F35_3 F35_4 F35_5; try clear F8_0 F8_1 F8_2 F8_3 F8_4 F8_5; try clear hx335_0; try clear hx335_1; try clear hx335_2; try clear hx335_3; try clear hx337_0; try clear hx337_1; try clear hx337_2; try clear hx337_3; try clear hx338_0; try clear hx338_1; try clear hx338_2; try clear hx338_3; try clear p2; try clear p335; try clear p337; try clear p338; try clear q335; try clear q337; try clear q338
     obtain ⟨x7_2, x335000_2, rfl, HA, HK2, BK331, BK332, BK334, HB⟩ := hrel
     cases gk with
     | zero => exact absurd HA.out (by simp [spec_Branch.l1])
     | succ k2 =>
      have H := HA.out
      clear HA
      simp only [spec_Branch.l1] at H
      by_cases c36 : x7_2 < (l0_2.length : Int)
      ·rw [if_pos c36] at H
       have c36b0 : decide (x7_2 < (l0_2.length : Int)) = true := decide_eq_true c36
       clear c36
       by_cases c37 : 0 ≤ x7_2
       ·rw [if_pos c37] at H
        have c37b0 : decide (0 ≤ x7_2) = true := decide_eq_true c37
        clear c37
        replace H := Option.bind_eq_some_iff.mp H
        obtain ⟨t340, A380, H⟩ := H
        replace H : (if t340 = true then (if ((rd_T94 l0_2 x7_2).f1) > x335000_2 then (spec_Branch.l1 k2 l1 (wrap64 (x7_2 + 1)) a0_0 l0_1 l0_2 a0_3 l0_4 l0_5 ((rd_T94 l0_2 x7_2).f1) x335001_1) else (spec_Branch.l1 k2 l1 (wrap64 (x7_2 + 1)) a0_0 l0_1 l0_2 a0_3 l0_4 l0_5 x335000_2 x335001_1)) else (spec_Branch.l1 k2 l1 (wrap64 (x7_2 + 1)) a0_0 l0_1 l0_2 a0_3 l0_4 l0_5 x335000_2 x335001_1)) = some (r1, r2, r3) := H
        have A38 := Aside0.mk A380
        clear A380
        by_cases c39 : t340 = true
        ·subst c39
         have H1 : (if ((rd_T94 l0_2 x7_2).f1) > x335000_2 then (spec_Branch.l1 k2 l1 (wrap64 (x7_2 + 1)) a0_0 l0_1 l0_2 a0_3 l0_4 l0_5 ((rd_T94 l0_2 x7_2).f1) x335001_1) else (spec_Branch.l1 k2 l1 (wrap64 (x7_2 + 1)) a0_0 l0_1 l0_2 a0_3 l0_4 l0_5 x335000_2 x335001_1)) = some (r1, r2, r3) := by rw [if_pos rfl] at H; exact H
         clear H
         have H := H1
         clear H1
         by_cases c40 : ((rd_T94 l0_2 x7_2).f1) > x335000_2
         ·rw [if_pos c40] at H
          have c40b0 : decide (x335000_2 < ((rd_T94 l0_2 x7_2).f1)) = true := decide_eq_true c40
          clear c40
          have H' := Aside0.mk H
          clear H
          have hnb41 := NB331_332.out
          have hnc41 := NB332_331.out
          have hnb42 := NB331_334.out
          have hnc42 := NB334_331.out
          obtain ⟨C43_0, C43_1, C43_2, C43_3, C43_4, C43_5, -⟩ := cells_6 BK331.out trivial
          obtain ⟨F43_0, F43_1, F43_2, F43_3, F43_4, F43_5, -⟩ := frz_6 BK331.out
          have p339 : 0 ≤ (x7_2 : Int) := od
          have q339 : x7_2 < (l0_2.length : Int) := od
          obtain ⟨ad339, A339_0, c339_0, e339, hx339_0, hx339_1, hl339_0, hi339_0⟩ := at_T94 HR0_2.out x7_2 p339 q339
          cases e339
          replace hx339_0 := hxb HB hx339_0
          replace hx339_1 := hxb HB hx339_1
          have HR339_0 := Aside0.mk hi339_0
          have HC339_0 := Aside0.mk hl339_0
          clear hi339_0 hl339_0
          replace p339 := eq_true p339
          replace q339 := eq_true q339
          go_wp2_with (first | (go_at_call 141; (with_reducible refine (spec_HasPrefix.calls _ _ ((rd_T94 l0_2 x7_2).f0) _ _ l1 true _ ?side1 ?side2 ?side3 ?side4 A38.out).mono ?_); (case side1 => exact kcb); (case side2 => exact HC339_0.out); (case side3 => exact kcb); (case side4 => exact HC1.out); rintro e w' ⟨rfl, ⟨nd, rfl⟩⟩; (try first | exact ⟨rfl, _, World.drewN_drewN _ _ _⟩ | exact ⟨rfl, _, Eq.trans (World.drewN_drewN _ _ _) (congrArg (World.drewN _) (Nat.add_assoc _ _ _))⟩); have p341 : 0 ≤ (x7_2 : Int) := od; have q341 : x7_2 < (l0_2.length : Int) := od; obtain ⟨ad341, A341_0, c341_0, e341, hx341_0, hx341_1, hl341_0, hi341_0⟩ := at_T94 HR0_2.out x7_2 p341 q341; obtain rfl : ad339 = ad341 := (by injection e341); replace hx341_0 := hxb HB hx341_0; replace hx341_1 := hxb HB hx341_1; have HR341_0 := Aside0.mk hi341_0; have HC341_0 := Aside0.mk hl341_0; clear hi341_0 hl341_0; replace p341 := eq_true p341; replace q341 := eq_true q341; have ea_ := Option.some.inj (hx339_0.symm.trans hx341_0); injection ea_ with ea_ en_ ec_; subst ea_; subst ec_; clear en_; have hnb44 := NB334_332.out; have hnc44 := NB332_334.out; obtain ⟨C45_0, C45_1, C45_2, -⟩ := cells_3 BK334.out trivial; obtain ⟨F45_0, F45_1, F45_2, -⟩ := frz_3 BK334.out; have p342 : 0 ≤ (x7_2 : Int) := od; have q342 : x7_2 < (l0_2.length : Int) := od; obtain ⟨ad342, A342_0, c342_0, e342, hx342_0, hx342_1, hl342_0, hi342_0⟩ := at_T94 HR0_2.out x7_2 p342 q342; obtain rfl : ad339 = ad342 := (by injection e342); replace hx342_0 := hxb HB hx342_0; replace hx342_1 := hxb HB hx342_1; have HR342_0 := Aside0.mk hi342_0; have HC342_0 := Aside0.mk hl342_0; clear hi342_0 hl342_0; replace p342 := eq_true p342; replace q342 := eq_true q342; have ea_ := Option.some.inj (hx339_0.symm.trans hx342_0); injection ea_ with ea_ en_ ec_; subst ea_; subst ec_; clear en_))
          repeat (go_quiet (first | (go_at_call 141; (with_reducible refine (spec_HasPrefix.calls _ _ ((rd_T94 l0_2 x7_2).f0) _ _ l1 true _ ?side1 ?side2 ?side3 ?side4 A38.out).mono ?_); (case side1 => exact kcb); (case side2 => exact HC339_0.out); (case side3 => exact kcb); (case side4 => exact HC1.out); rintro e w' ⟨rfl, ⟨nd, rfl⟩⟩; (try first | exact ⟨rfl, _, World.drewN_drewN _ _ _⟩ | exact ⟨rfl, _, Eq.trans (World.drewN_drewN _ _ _) (congrArg (World.drewN _) (Nat.add_assoc _ _ _))⟩); have p341 : 0 ≤ (x7_2 : Int) := od; have q341 : x7_2 < (l0_2.length : Int) := od; obtain ⟨ad341, A341_0, c341_0, e341, hx341_0, hx341_1, hl341_0, hi341_0⟩ := at_T94 HR0_2.out x7_2 p341 q341; obtain rfl : ad339 = ad341 := (by injection e341); replace hx341_0 := hxb HB hx341_0; replace hx341_1 := hxb HB hx341_1; have HR341_0 := Aside0.mk hi341_0; have HC341_0 := Aside0.mk hl341_0; clear hi341_0 hl341_0; replace p341 := eq_true p341; replace q341 := eq_true q341; have ea_ := Option.some.inj (hx339_0.symm.trans hx341_0); injection ea_ with ea_ en_ ec_; subst ea_; subst ec_; clear en_; have hnb44 := NB334_332.out; have hnc44 := NB332_334.out; obtain ⟨C45_0, C45_1, C45_2, -⟩ := cells_3 BK334.out trivial; obtain ⟨F45_0, F45_1, F45_2, -⟩ := frz_3 BK334.out; have p342 : 0 ≤ (x7_2 : Int) := od; have q342 : x7_2 < (l0_2.length : Int) := od; obtain ⟨ad342, A342_0, c342_0, e342, hx342_0, hx342_1, hl342_0, hi342_0⟩ := at_T94 HR0_2.out x7_2 p342 q342; obtain rfl : ad339 = ad342 := (by injection e342); replace hx342_0 := hxb HB hx342_0; replace hx342_1 := hxb HB hx342_1; have HR342_0 := Aside0.mk hi342_0; have HC342_0 := Aside0.mk hl342_0; clear hi342_0 hl342_0; replace p342 := eq_true p342; replace q342 := eq_true q342; have ea_ := Option.some.inj (hx339_0.symm.trans hx342_0); injection ea_ with ea_ en_ ec_; subst ea_; subst ec_; clear en_)); try go_wp2_with (first | (go_at_call 141; (with_reducible refine (spec_HasPrefix.calls _ _ ((rd_T94 l0_2 x7_2).f0) _ _ l1 true _ ?side1 ?side2 ?side3 ?side4 A38.out).mono ?_); (case side1 => exact kcb); (case side2 => exact HC339_0.out); (case side3 => exact kcb); (case side4 => exact HC1.out); rintro e w' ⟨rfl, ⟨nd, rfl⟩⟩; (try first | exact ⟨rfl, _, World.drewN_drewN _ _ _⟩ | exact ⟨rfl, _, Eq.trans (World.drewN_drewN _ _ _) (congrArg (World.drewN _) (Nat.add_assoc _ _ _))⟩); have p341 : 0 ≤ (x7_2 : Int) := od; have q341 : x7_2 < (l0_2.length : Int) := od; obtain ⟨ad341, A341_0, c341_0, e341, hx341_0, hx341_1, hl341_0, hi341_0⟩ := at_T94 HR0_2.out x7_2 p341 q341; obtain rfl : ad339 = ad341 := (by injection e341); replace hx341_0 := hxb HB hx341_0; replace hx341_1 := hxb HB hx341_1; have HR341_0 := Aside0.mk hi341_0; have HC341_0 := Aside0.mk hl341_0; clear hi341_0 hl341_0; replace p341 := eq_true p341; replace q341 := eq_true q341; have ea_ := Option.some.inj (hx339_0.symm.trans hx341_0); injection ea_ with ea_ en_ ec_; subst ea_; subst ec_; clear en_; have hnb44 := NB334_332.out; have hnc44 := NB332_334.out; obtain ⟨C45_0, C45_1, C45_2, -⟩ := cells_3 BK334.out trivial; obtain ⟨F45_0, F45_1, F45_2, -⟩ := frz_3 BK334.out; have p342 : 0 ≤ (x7_2 : Int) := od; have q342 : x7_2 < (l0_2.length : Int) := od; obtain ⟨ad342, A342_0, c342_0, e342, hx342_0, hx342_1, hl342_0, hi342_0⟩ := at_T94 HR0_2.out x7_2 p342 q342; obtain rfl : ad339 = ad342 := (by injection e342); replace hx342_0 := hxb HB hx342_0; replace hx342_1 := hxb HB hx342_1; have HR342_0 := Aside0.mk hi342_0; have HC342_0 := Aside0.mk hl342_0; clear hi342_0 hl342_0; replace p342 := eq_true p342; replace q342 := eq_true q342; have ea_ := Option.some.inj (hx339_0.symm.trans hx342_0); injection ea_ with ea_ en_ ec_; subst ea_; subst ec_; clear en_)))
          go_roundg k2
          case measure => have := HK1.out; have := HK2.out; omega
          case rel => exact ⟨(wrap64 (x7_2 + 1)), ((rd_T94 l0_2 x7_2).f1), rs_, H', ⟨by have := HK1.out; have := HK2.out; omega⟩, ⟨by (with_reducible repeat (first | refine blk_drewN ?_ _ | refine blk_drew ?_ | refine blk_alloc ?_ _)); refine blk_far ?_ NB331_334.out _; (with_reducible repeat (first | refine blk_drewN ?_ _ | refine blk_drew ?_ | refine blk_alloc ?_ _)); exact BK331.out⟩, ⟨by (with_reducible repeat (first | refine blk_drewN ?_ _ | refine blk_drew ?_ | refine blk_alloc ?_ _)); refine blk_far ?_ NB332_334.out _; (with_reducible repeat (first | refine blk_drewN ?_ _ | refine blk_drew ?_ | refine blk_alloc ?_ _)); exact BK332.out⟩, ⟨by (with_reducible repeat (first | refine blk_drewN ?_ _ | refine blk_drew ?_ | refine blk_alloc ?_ _)); refine blk_put (cs := #[.int .i64 x335000_2, .bool x335001_1, .slice none 0 0]) ?_ 0 _ rfl; (with_reducible repeat (first | refine blk_drewN ?_ _ | refine blk_drew ?_ | refine blk_alloc ?_ _)); exact BK334.out⟩, ⟨bel⟩⟩
         rw [if_neg c40] at H
         have c40b0 : decide (x335000_2 < ((rd_T94 l0_2 x7_2).f1)) = false := decide_eq_false c40
         clear c40
         have H' := Aside0.mk H
         clear H
         have hnb46 := NB331_332.out
         have hnc46 := NB332_331.out
         have hnb47 := NB331_334.out
         have hnc47 := NB334_331.out
         obtain ⟨C48_0, C48_1, C48_2, C48_3, C48_4, C48_5, -⟩ := cells_6 BK331.out trivial
         obtain ⟨F48_0, F48_1, F48_2, F48_3, F48_4, F48_5, -⟩ := frz_6 BK331.out
         have p339 : 0 ≤ (x7_2 : Int) := od
         have q339 : x7_2 < (l0_2.length : Int) := od
         obtain ⟨ad339, A339_0, c339_0, e339, hx339_0, hx339_1, hl339_0, hi339_0⟩ := at_T94 HR0_2.out x7_2 p339 q339
         cases e339
         replace hx339_0 := hxb HB hx339_0
         replace hx339_1 := hxb HB hx339_1
         have HR339_0 := Aside0.mk hi339_0
         have HC339_0 := Aside0.mk hl339_0
         clear hi339_0 hl339_0
         replace p339 := eq_true p339
         replace q339 := eq_true q339
         go_wp2_with (first | (go_at_call 141; (with_reducible refine (spec_HasPrefix.calls _ _ ((rd_T94 l0_2 x7_2).f0) _ _ l1 true _ ?side1 ?side2 ?side3 ?side4 A38.out).mono ?_); (case side1 => exact kcb); (case side2 => exact HC339_0.out); (case side3 => exact kcb); (case side4 => exact HC1.out); rintro e w' ⟨rfl, ⟨nd, rfl⟩⟩; (try first | exact ⟨rfl, _, World.drewN_drewN _ _ _⟩ | exact ⟨rfl, _, Eq.trans (World.drewN_drewN _ _ _) (congrArg (World.drewN _) (Nat.add_assoc _ _ _))⟩); have p341 : 0 ≤ (x7_2 : Int) := od; have q341 : x7_2 < (l0_2.length : Int) := od; obtain ⟨ad341, A341_0, c341_0, e341, hx341_0, hx341_1, hl341_0, hi341_0⟩ := at_T94 HR0_2.out x7_2 p341 q341; obtain rfl : ad339 = ad341 := (by injection e341); replace hx341_0 := hxb HB hx341_0; replace hx341_1 := hxb HB hx341_1; have HR341_0 := Aside0.mk hi341_0; have HC341_0 := Aside0.mk hl341_0; clear hi341_0 hl341_0; replace p341 := eq_true p341; replace q341 := eq_true q341; have ea_ := Option.some.inj (hx339_0.symm.trans hx341_0); injection ea_ with ea_ en_ ec_; subst ea_; subst ec_; clear en_; have hnb49 := NB334_332.out; have hnc49 := NB332_334.out; obtain ⟨C50_0, C50_1, C50_2, -⟩ := cells_3 BK334.out trivial; obtain ⟨F50_0, F50_1, F50_2, -⟩ := frz_3 BK334.out))
         repeat (go_quiet (first | (go_at_call 141; (with_reducible refine (spec_HasPrefix.calls _ _ ((rd_T94 l0_2 x7_2).f0) _ _ l1 true _ ?side1 ?side2 ?side3 ?side4 A38.out).mono ?_); (case side1 => exact kcb); (case side2 => exact HC339_0.out); (case side3 => exact kcb); (case side4 => exact HC1.out); rintro e w' ⟨rfl, ⟨nd, rfl⟩⟩; (try first | exact ⟨rfl, _, World.drewN_drewN _ _ _⟩ | exact ⟨rfl, _, Eq.trans (World.drewN_drewN _ _ _) (congrArg (World.drewN _) (Nat.add_assoc _ _ _))⟩); have p341 : 0 ≤ (x7_2 : Int) := od; have q341 : x7_2 < (l0_2.length : Int) := od; obtain ⟨ad341, A341_0, c341_0, e341, hx341_0, hx341_1, hl341_0, hi341_0⟩ := at_T94 HR0_2.out x7_2 p341 q341; obtain rfl : ad339 = ad341 := (by injection e341); replace hx341_0 := hxb HB hx341_0; replace hx341_1 := hxb HB hx341_1; have HR341_0 := Aside0.mk hi341_0; have HC341_0 := Aside0.mk hl341_0; clear hi341_0 hl341_0; replace p341 := eq_true p341; replace q341 := eq_true q341; have ea_ := Option.some.inj (hx339_0.symm.trans hx341_0); injection ea_ with ea_ en_ ec_; subst ea_; subst ec_; clear en_; have hnb49 := NB334_332.out; have hnc49 := NB332_334.out; obtain ⟨C50_0, C50_1, C50_2, -⟩ := cells_3 BK334.out trivial; obtain ⟨F50_0, F50_1, F50_2, -⟩ := frz_3 BK334.out)); try go_wp2_with (first | (go_at_call 141; (with_reducible refine (spec_HasPrefix.calls _ _ ((rd_T94 l0_2 x7_2).f0) _ _ l1 true _ ?side1 ?side2 ?side3 ?side4 A38.out).mono ?_); (case side1 => exact kcb); (case side2 => exact HC339_0.out); (case side3 => exact kcb); (case side4 => exact HC1.out); rintro e w' ⟨rfl, ⟨nd, rfl⟩⟩; (try first | exact ⟨rfl, _, World.drewN_drewN _ _ _⟩ | exact ⟨rfl, _, Eq.trans (World.drewN_drewN _ _ _) (congrArg (World.drewN _) (Nat.add_assoc _ _ _))⟩); have p341 : 0 ≤ (x7_2 : Int) := od; have q341 : x7_2 < (l0_2.length : Int) := od; obtain ⟨ad341, A341_0, c341_0, e341, hx341_0, hx341_1, hl341_0, hi341_0⟩ := at_T94 HR0_2.out x7_2 p341 q341; obtain rfl : ad339 = ad341 := (by injection e341); replace hx341_0 := hxb HB hx341_0; replace hx341_1 := hxb HB hx341_1; have HR341_0 := Aside0.mk hi341_0; have HC341_0 := Aside0.mk hl341_0; clear hi341_0 hl341_0; replace p341 := eq_true p341; replace q341 := eq_true q341; have ea_ := Option.some.inj (hx339_0.symm.trans hx341_0); injection ea_ with ea_ en_ ec_; subst ea_; subst ec_; clear en_; have hnb49 := NB334_332.out; have hnc49 := NB332_334.out; obtain ⟨C50_0, C50_1, C50_2, -⟩ := cells_3 BK334.out trivial; obtain ⟨F50_0, F50_1, F50_2, -⟩ := frz_3 BK334.out)))
         go_roundg k2
         case measure => have := HK1.out; have := HK2.out; omega
         case rel => exact ⟨(wrap64 (x7_2 + 1)), (x335000_2), rs_, H', ⟨by have := HK1.out; have := HK2.out; omega⟩, ⟨bkp BK331⟩, ⟨bkp BK332⟩, ⟨bkp BK334⟩, ⟨bel⟩⟩
        replace c39 := Bool.eq_false_iff.mpr c39
        subst c39
        have H1 : (spec_Branch.l1 k2 l1 (wrap64 (x7_2 + 1)) a0_0 l0_1 l0_2 a0_3 l0_4 l0_5 x335000_2 x335001_1) = some (r1, r2, r3) := by rw [if_neg (show ¬ (false = true) by decide)] at H; exact H
        clear H
        have H := H1
        clear H1
        have H' := Aside0.mk H
        clear H
        have hnb51 := NB331_332.out
        have hnc51 := NB332_331.out
        have hnb52 := NB331_334.out
        have hnc52 := NB334_331.out
        obtain ⟨C53_0, C53_1, C53_2, C53_3, C53_4, C53_5, -⟩ := cells_6 BK331.out trivial
        obtain ⟨F53_0, F53_1, F53_2, F53_3, F53_4, F53_5, -⟩ := frz_6 BK331.out
        have p339 : 0 ≤ (x7_2 : Int) := od
        have q339 : x7_2 < (l0_2.length : Int) := od
        obtain ⟨ad339, A339_0, c339_0, e339, hx339_0, hx339_1, hl339_0, hi339_0⟩ := at_T94 HR0_2.out x7_2 p339 q339
        cases e339
        replace hx339_0 := hxb HB hx339_0
        replace hx339_1 := hxb HB hx339_1
        have HR339_0 := Aside0.mk hi339_0
        have HC339_0 := Aside0.mk hl339_0
        clear hi339_0 hl339_0
        replace p339 := eq_true p339
        replace q339 := eq_true q339
        go_wp2_with (first | (go_at_call 141; (with_reducible refine (spec_HasPrefix.calls _ _ ((rd_T94 l0_2 x7_2).f0) _ _ l1 false _ ?side1 ?side2 ?side3 ?side4 A38.out).mono ?_); (case side1 => exact kcb); (case side2 => exact HC339_0.out); (case side3 => exact kcb); (case side4 => exact HC1.out); rintro e w' ⟨rfl, ⟨nd, rfl⟩⟩; (try first | exact ⟨rfl, _, World.drewN_drewN _ _ _⟩ | exact ⟨rfl, _, Eq.trans (World.drewN_drewN _ _ _) (congrArg (World.drewN _) (Nat.add_assoc _ _ _))⟩)))
        repeat (go_quiet (first | (go_at_call 141; (with_reducible refine (spec_HasPrefix.calls _ _ ((rd_T94 l0_2 x7_2).f0) _ _ l1 false _ ?side1 ?side2 ?side3 ?side4 A38.out).mono ?_); (case side1 => exact kcb); (case side2 => exact HC339_0.out); (case side3 => exact kcb); (case side4 => exact HC1.out); rintro e w' ⟨rfl, ⟨nd, rfl⟩⟩; (try first | exact ⟨rfl, _, World.drewN_drewN _ _ _⟩ | exact ⟨rfl, _, Eq.trans (World.drewN_drewN _ _ _) (congrArg (World.drewN _) (Nat.add_assoc _ _ _))⟩))); try go_wp2_with (first | (go_at_call 141; (with_reducible refine (spec_HasPrefix.calls _ _ ((rd_T94 l0_2 x7_2).f0) _ _ l1 false _ ?side1 ?side2 ?side3 ?side4 A38.out).mono ?_); (case side1 => exact kcb); (case side2 => exact HC339_0.out); (case side3 => exact kcb); (case side4 => exact HC1.out); rintro e w' ⟨rfl, ⟨nd, rfl⟩⟩; (try first | exact ⟨rfl, _, World.drewN_drewN _ _ _⟩ | exact ⟨rfl, _, Eq.trans (World.drewN_drewN _ _ _) (congrArg (World.drewN _) (Nat.add_assoc _ _ _))⟩))))
        go_roundg k2
        case measure => have := HK1.out; have := HK2.out; omega
        case rel => exact ⟨(wrap64 (x7_2 + 1)), (x335000_2), rs_, H', ⟨by have := HK1.out; have := HK2.out; omega⟩, ⟨bkp BK331⟩, ⟨bkp BK332⟩, ⟨bkp BK334⟩, ⟨bel⟩⟩
       rw [if_neg c37] at H
       exact absurd H (by simp)
      rw [if_neg c36] at H
      have c36b0 : decide (x7_2 < (l0_2.length : Int)) = false := decide_eq_false c36
      clear c36
      simp only [Option.some.injEq, Prod.mk.injEq] at H
      obtain ⟨rfl, rfl, rfl⟩ := H
      have hnb54 := NB331_332.out
      have hnc54 := NB332_331.out
      have hnb55 := NB331_334.out
      have hnc55 := NB334_331.out
      obtain ⟨C56_0, C56_1, C56_2, C56_3, C56_4, C56_5, -⟩ := cells_6 BK331.out trivial
      obtain ⟨F56_0, F56_1, F56_2, F56_3, F56_4, F56_5, -⟩ := frz_6 BK331.out
      have hnb57 := NB334_332.out
      have hnc57 := NB332_334.out
      obtain ⟨C58_0, C58_1, C58_2, -⟩ := cells_3 BK334.out trivial
      obtain ⟨F58_0, F58_1, F58_2, -⟩ := frz_3 BK334.out
      obtain ⟨C59_0, C59_1, C59_2, -⟩ := cells_3 BK332.out trivial
      obtain ⟨F59_0, F59_1, F59_2, -⟩ := frz_3 BK332.out
      go_wp2
      repeat (go_quiet (fail); try go_wp2)
      refine bodyPost_ret (results_cell_row rfl _ _ gb332 89 #[.int .i64 x335000_2, .bool x335001_1, .slice none 0 0] (0, 0) _ rfl (by (with_reducible repeat (first | refine blk_drewN ?_ _ | refine blk_drew ?_ | refine blk_alloc ?_ _)); refine blk_put (cs := #[.int .i64 x335000_2, .bool x335001_1, .slice none 0 0]) ?_ 2 _ rfl; (with_reducible repeat (first | refine blk_drewN ?_ _ | refine blk_drew ?_ | refine blk_alloc ?_ _)); refine blk_put (cs := #[.int .i64 x335000_2, .bool false, .slice none 0 0]) ?_ 1 _ rfl; (with_reducible repeat (first | refine blk_drewN ?_ _ | refine blk_drew ?_ | refine blk_alloc ?_ _)); refine blk_put (cs := #[.int .i64 0, .bool false, .slice none 0 0]) ?_ 0 _ rfl; (with_reducible repeat (first | refine blk_drewN ?_ _ | refine blk_drew ?_ | refine blk_alloc ?_ _)); exact BK332.out) Try.underlying89 rfl (by kernel_rfl)) rfl ?_
      exact ⟨_, rz_, by first | exact Kd.R_nil _ _ _ _ _ | exact Kd.N_nil _ _ _ _ _ | exact Kd.V_nil _ _ _ _ _ | exact Kd.Q_nil _ _ _ _ _ | exact Kd.S_nil _ _ _ _ _, bel⟩
 replace c4 := Bool.eq_false_iff.mpr c4
 subst c4
 have H1 : (some (0, false, ([] : List Int))) = some (r1, r2, r3) := by rw [if_neg (show ¬ (false = true) by decide)] at H; exact H
 clear H
 have H := H1
 clear H1
 simp only [Option.some.injEq, Prod.mk.injEq] at H
 obtain ⟨rfl, rfl, rfl⟩ := H
 go_enter Try.func64, Try.ntmps64
 go_wp2_with (first | ((with_reducible refine gate_dst (N := 2) rfl ?_); refine bx_ 2 #[.int .i64 a0_0, .slice A0_1 l0_1.length c0_1, .slice A0_2 l0_2.length c0_2, .int .i64 a0_3, .slice A0_4 l0_4.length c0_4, .slice A0_5 l0_5.length c0_5] 35 (h := ?_); intro gb331 hg w60 hbox hb; have BK331 := Aside0.mk (hbox); have GW331 := Aside0.mk ((by rw [hg]; exact (below_size bel) : w.heap.size ≤ gb331)); have GE331 := GW331; replace HB := bst hb; clear hb hbox hg) | ((with_reducible refine gate_dst (N := 4) rfl ?_); refine bx_ 4 #[.int .i64 0, .bool false, .slice none 0 0] 89 (h := ?_); intro gb332 hg w61 hbox hb; have BK332 := Aside0.mk (hbox); have GW332 := Aside0.mk ((by rw [hg]; exact (below_size bel) : w.heap.size ≤ gb332)); have GE332 := GW332; have NB331_332 := Aside0.mk ((by rw [hg]; exact Nat.ne_of_lt (blt BK331) : gb331 ≠ gb332)); have NB332_331 := Aside0.mk NB331_332.out.symm; replace BK331 := Aside0.mk (blb BK331 hb); replace HB := bst hb; clear hb hbox hg; have hnb62 := NB331_332.out; have hnc62 := NB332_331.out; obtain ⟨C63_0, C63_1, C63_2, C63_3, C63_4, C63_5, -⟩ := cells_6 BK331.out trivial; obtain ⟨F63_0, F63_1, F63_2, F63_3, F63_4, F63_5, -⟩ := frz_6 BK331.out) | (go_at_call 16; (with_reducible refine (spec_StateOk.calls k a0_0 _ _ l0_1 _ _ l0_2 a0_3 _ _ l0_4 _ _ l0_5 false _ ?side1 ?side2 ?side3 ?side4 ?side5 ?side6 ?side7 ?side8 A3.out).mono ?_); (case side1 => exact kcb); (case side2 => exact HC0_1.out); (case side3 => exact kcb); (case side4 => exact HC0_2.out); (case side5 => exact kcb); (case side6 => exact HC0_4.out); (case side7 => exact kcb); (case side8 => exact HC0_5.out); rintro e w64 ⟨rfl, hb⟩; replace BK331 := Aside0.mk (blb BK331 hb); replace BK332 := Aside0.mk (blb BK332 hb); replace HB := bst hb; (try clear hb); (try clear hb2); (try clear hk); (try clear hi); obtain ⟨C65_0, C65_1, C65_2, -⟩ := cells_3 BK332.out trivial; obtain ⟨F65_0, F65_1, F65_2, -⟩ := frz_3 BK332.out))
 repeat (go_quiet (first | ((with_reducible refine gate_dst (N := 2) rfl ?_); refine bx_ 2 #[.int .i64 a0_0, .slice A0_1 l0_1.length c0_1, .slice A0_2 l0_2.length c0_2, .int .i64 a0_3, .slice A0_4 l0_4.length c0_4, .slice A0_5 l0_5.length c0_5] 35 (h := ?_); intro gb331 hg w60 hbox hb; have BK331 := Aside0.mk (hbox); have GW331 := Aside0.mk ((by rw [hg]; exact (below_size bel) : w.heap.size ≤ gb331)); have GE331 := GW331; replace HB := bst hb; clear hb hbox hg) | ((with_reducible refine gate_dst (N := 4) rfl ?_); refine bx_ 4 #[.int .i64 0, .bool false, .slice none 0 0] 89 (h := ?_); intro gb332 hg w61 hbox hb; have BK332 := Aside0.mk (hbox); have GW332 := Aside0.mk ((by rw [hg]; exact (below_size bel) : w.heap.size ≤ gb332)); have GE332 := GW332; have NB331_332 := Aside0.mk ((by rw [hg]; exact Nat.ne_of_lt (blt BK331) : gb331 ≠ gb332)); have NB332_331 := Aside0.mk NB331_332.out.symm; replace BK331 := Aside0.mk (blb BK331 hb); replace HB := bst hb; clear hb hbox hg; have hnb62 := NB331_332.out; have hnc62 := NB332_331.out; obtain ⟨C63_0, C63_1, C63_2, C63_3, C63_4, C63_5, -⟩ := cells_6 BK331.out trivial; obtain ⟨F63_0, F63_1, F63_2, F63_3, F63_4, F63_5, -⟩ := frz_6 BK331.out) | (go_at_call 16; (with_reducible refine (spec_StateOk.calls k a0_0 _ _ l0_1 _ _ l0_2 a0_3 _ _ l0_4 _ _ l0_5 false _ ?side1 ?side2 ?side3 ?side4 ?side5 ?side6 ?side7 ?side8 A3.out).mono ?_); (case side1 => exact kcb); (case side2 => exact HC0_1.out); (case side3 => exact kcb); (case side4 => exact HC0_2.out); (case side5 => exact kcb); (case side6 => exact HC0_4.out); (case side7 => exact kcb); (case side8 => exact HC0_5.out); rintro e w64 ⟨rfl, hb⟩; replace BK331 := Aside0.mk (blb BK331 hb); replace BK332 := Aside0.mk (blb BK332 hb); replace HB := bst hb; (try clear hb); (try clear hb2); (try clear hk); (try clear hi); obtain ⟨C65_0, C65_1, C65_2, -⟩ := cells_3 BK332.out trivial; obtain ⟨F65_0, F65_1, F65_2, -⟩ := frz_3 BK332.out)); try go_wp2_with (first | ((with_reducible refine gate_dst (N := 2) rfl ?_); refine bx_ 2 #[.int .i64 a0_0, .slice A0_1 l0_1.length c0_1, .slice A0_2 l0_2.length c0_2, .int .i64 a0_3, .slice A0_4 l0_4.length c0_4, .slice A0_5 l0_5.length c0_5] 35 (h := ?_); intro gb331 hg w60 hbox hb; have BK331 := Aside0.mk (hbox); have GW331 := Aside0.mk ((by rw [hg]; exact (below_size bel) : w.heap.size ≤ gb331)); have GE331 := GW331; replace HB := bst hb; clear hb hbox hg) | ((with_reducible refine gate_dst (N := 4) rfl ?_); refine bx_ 4 #[.int .i64 0, .bool false, .slice none 0 0] 89 (h := ?_); intro gb332 hg w61 hbox hb; have BK332 := Aside0.mk (hbox); have GW332 := Aside0.mk ((by rw [hg]; exact (below_size bel) : w.heap.size ≤ gb332)); have GE332 := GW332; have NB331_332 := Aside0.mk ((by rw [hg]; exact Nat.ne_of_lt (blt BK331) : gb331 ≠ gb332)); have NB332_331 := Aside0.mk NB331_332.out.symm; replace BK331 := Aside0.mk (blb BK331 hb); replace HB := bst hb; clear hb hbox hg; have hnb62 := NB331_332.out; have hnc62 := NB332_331.out; obtain ⟨C63_0, C63_1, C63_2, C63_3, C63_4, C63_5, -⟩ := cells_6 BK331.out trivial; obtain ⟨F63_0, F63_1, F63_2, F63_3, F63_4, F63_5, -⟩ := frz_6 BK331.out) | (go_at_call 16; (with_reducible refine (spec_StateOk.calls k a0_0 _ _ l0_1 _ _ l0_2 a0_3 _ _ l0_4 _ _ l0_5 false _ ?side1 ?side2 ?side3 ?side4 ?side5 ?side6 ?side7 ?side8 A3.out).mono ?_); (case side1 => exact kcb); (case side2 => exact HC0_1.out); (case side3 => exact kcb); (case side4 => exact HC0_2.out); (case side5 => exact kcb); (case side6 => exact HC0_4.out); (case side7 => exact kcb); (case side8 => exact HC0_5.out); rintro e w64 ⟨rfl, hb⟩; replace BK331 := Aside0.mk (blb BK331 hb); replace BK332 := Aside0.mk (blb BK332 hb); replace HB := bst hb; (try clear hb); (try clear hb2); (try clear hk); (try clear hi); obtain ⟨C65_0, C65_1, C65_2, -⟩ := cells_3 BK332.out trivial; obtain ⟨F65_0, F65_1, F65_2, -⟩ := frz_3 BK332.out)))
 refine bodyPost_ret (results_cell_row rfl _ _ gb332 89 #[.int .i64 0, .bool false, .slice none 0 0] (0, 0) _ rfl (by (with_reducible repeat (first | refine blk_drewN ?_ _ | refine blk_drew ?_ | refine blk_alloc ?_ _)); refine blk_put (cs := #[.int .i64 0, .bool false, .slice none 0 0]) ?_ 2 _ rfl; (with_reducible repeat (first | refine blk_drewN ?_ _ | refine blk_drew ?_ | refine blk_alloc ?_ _)); refine blk_put (cs := #[.int .i64 0, .bool false, .slice none 0 0]) ?_ 1 _ rfl; (with_reducible repeat (first | refine blk_drewN ?_ _ | refine blk_drew ?_ | refine blk_alloc ?_ _)); refine blk_put (cs := #[.int .i64 0, .bool false, .slice none 0 0]) ?_ 0 _ rfl; (with_reducible repeat (first | refine blk_drewN ?_ _ | refine blk_drew ?_ | refine blk_alloc ?_ _)); exact BK332.out) Try.underlying89 rfl (by kernel_rfl)) rfl ?_
 exact ⟨_, rz_, by first | exact Kd.R_nil _ _ _ _ _ | exact Kd.N_nil _ _ _ _ _ | exact Kd.V_nil _ _ _ _ _ | exact Kd.Q_nil _ _ _ _ _ | exact Kd.S_nil _ _ _ _ _, bel⟩

end Go.Proofs.Ytdgegnakiljfjaa.PK
