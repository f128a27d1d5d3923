-- Written for this claim by the session's program pp.py, out of the kit's print and the seat's translation.
import Derived.Test.YtoaddpfoecggpaaPSx0
import Derived.Test.YtoaddpfoecggpaaPSx3
namespace Go.Proofs.Ytoaddpfoecggpaa.PS
open Go.RowKit Go.Proofs.YtoaddpfoecggpaaW.PrintWords Go.Proofs.YtoaddpfoecggpaaW.PrintLast Go.Proofs.YtoaddpfoecggpaaW.PrintMore
attribute [local go_sem] max2_int min2_int max_two min_two max_three min_three max_four min_four   -- for this text's walks alone
set_option linter.unusedVariables false
set_option linter.unusedSimpArgs false

/-! ### impl_TreeOk: function 18 -/
def impl_TreeOk.f (k : Nat) (l0_0 : List Int) (a0_1 : Bool) (a0_2 : Int) (l0_3 : List (S30)) : Option (Bool) := (impl_scan.f k l0_0 a0_1 a0_2 l0_3 0 0 0).bind fun t => some t.1
set_option maxHeartbeats 8000000 in
set_option maxRecDepth 100000 in
theorem impl_TreeOk.calls (k : Nat) (A0_0 : Option Addr) (c0_0 : Nat) (l0_0 : List Int) (a0_1 : Bool) (a0_2 : Int) (A0_3 : Option Addr) (c0_3 : Nat) (l0_3 : List (S30)) (r : Bool) (w : World) (hr0_0 : Kd.C (Kd.int .u8) w A0_0 l0_0.length l0_0) (hc0_0 : l0_0.length ≤ c0_0) (hr0_3 : Kd.C k30 w A0_3 l0_3.length l0_3) (hc0_3 : l0_3.length ≤ c0_3) (h : impl_TreeOk.f k l0_0 a0_1 a0_2 l0_3 = some r) :
  Calls Try.prog 18 #[.agg #[.slice A0_0 l0_0.length c0_0, .bool a0_1, .int .i64 a0_2, .slice A0_3 l0_3.length c0_3]] w fun e w' => e = .returned (.bool r) ∧ Below w.heap.size w w' := by
 have hu30 := Try.underlying30
 have HR0_0 := Aside0.mk hr0_0
 have HC0_0 := Aside0.mk hc0_0
 have HR0_3 := Aside0.mk hr0_3
 have HC0_3 := Aside0.mk hc0_3
 clear hr0_0 hc0_0 hr0_3 hc0_3
 have HB := Aside0.mk (Below.refl w.heap.size w)
 obtain ⟨⟨t1, t2⟩, A20, H⟩ := Option.bind_eq_some_iff.mp h
 clear h
 obtain rfl := Option.some.inj H
 clear H
 have A2 := Aside0.mk A20
 clear A20
 go_enter Try.func18, Try.ntmps18
 go_wp2_with (first
  | ((with_reducible refine gate_dst (N := 1) rfl ?_); refine bx_ 1 #[.slice A0_0 l0_0.length c0_0, .bool a0_1, .int .i64 a0_2, .slice A0_3 l0_3.length c0_3] 30 (h := ?_); intro gb1 hg w1 hbox hb; have BK1 := Aside0.mk (hbox); have GW1 := Aside0.mk ((by rw [hg]; exact (below_size bel) : w.heap.size ≤ gb1)); replace HB := bst hb; clear hb hbox hg)
  | ((with_reducible refine gate_dst (N := 3) rfl ?_); refine bx_ 3 #[.int .i64 0] 3 (h := ?_); intro gb2 hg w2 hbox hb; have BK2 := Aside0.mk (hbox); have GW2 := Aside0.mk ((by rw [hg]; exact (below_size bel) : w.heap.size ≤ gb2)); have NB1_2 := Aside0.mk ((by rw [hg]; exact Nat.ne_of_lt (blt BK1) : gb1 ≠ gb2)); have NB2_1 := Aside0.mk NB1_2.out.symm; replace BK1 := Aside0.mk (blb BK1 hb); replace HB := bst hb; clear hb hbox hg; have hnb := NB1_2.out; have hnc := NB2_1.out; have C1_0 : w2.cell? ⟨gb1, 0, none⟩ = some (.slice A0_0 l0_0.length c0_0) := (blk_cell BK1.out 0).trans rfl; have C1_1 : w2.cell? ⟨gb1, 1, none⟩ = some (.bool a0_1) := (blk_cell BK1.out 1).trans rfl; have C1_2 : w2.cell? ⟨gb1, 2, none⟩ = some (.int .i64 a0_2) := (blk_cell BK1.out 2).trans rfl; have C1_3 : w2.cell? ⟨gb1, 3, none⟩ = some (.slice A0_3 l0_3.length c0_3) := (blk_cell BK1.out 3).trans rfl; have C2 : w2.cell? ⟨gb2, 0, none⟩ = some (.int .i64 0) := (blk_cell BK2.out 0).trans rfl; have F2 := blk_frozen BK2.out 0; have HI := Aside0.mk (show IsS3 w w2 gb2 0 from ⟨BK2.out, GW2.out⟩))
  | (go_at_call 62; (refine (impl_scan.calls k A0_0 c0_0 l0_0 a0_1 a0_2 A0_3 c0_3 l0_3 0 0 gb2 0 t1 t2 w _ ?s1 ?s2 ?s3 ?s4 ?s5 ?s6 ?s7 A2.out).mono ?_); (case s1 => exact (IsS3.set_0 HI.out 0)); (case s2 => exact (below_set HB.out GW2.out)); (case s3 => exact (Kd.C_below HR0_0.out (below_set HB.out GW2.out))); (case s4 => exact HC0_0.out); (case s5 => exact (Kd.far_C (0 : Int) HR0_0.out GW2.out)); (case s6 => exact (Kd.C_foot_came k30_heap HR0_3.out (below_set HB.out GW2.out) GW2.out)); (case s7 => exact HC0_3.out); rintro e w3 ⟨rfl, -, hb, -⟩; have HB3 := Aside0.mk hb; clear hb))
 go_ret
 exact ⟨rfl, HB3.out⟩

/-! ### bytes_Equal: function 119 -/
def bytes_Equal.f (l0 : List Int) (l1 : List Int) : Option (Bool) := some ((strOfNums l0).toList == (strOfNums l1).toList)
set_option maxHeartbeats 8000000 in
set_option maxRecDepth 100000 in
theorem bytes_Equal.calls (A0 : Option Addr) (c0 : Nat) (l0 : List Int) (A1 : Option Addr) (c1 : Nat) (l1 : List Int) (r : Bool) (w : World) (hr0 : Kd.C (Kd.int .u8) w A0 l0.length l0) (hc0 : l0.length ≤ c0) (hr1 : Kd.C (Kd.int .u8) w A1 l1.length l1) (hc1 : l1.length ≤ c1) (h : bytes_Equal.f l0 l1 = some r) :
  Calls Try.prog 119 #[.slice A0 l0.length c0, .slice A1 l1.length c1] w fun e w' => e = .returned (.bool r) ∧ Drawn0 w w' := by
 have HR0 := Aside0.mk hr0
 have HC0 := Aside0.mk hc0
 clear hr0 hc0
 have HR1 := Aside0.mk hr1
 have HC1 := Aside0.mk hc1
 clear hr1 hc1
 have H : (some ((strOfNums l0).toList == (strOfNums l1).toList)) = some r := h
 clear h
 obtain rfl := Option.some.inj H
 have hcv3 := Kd.C_string (P := Try.prog) (A := A0) (c := c0) Try.underlying22 Try.underlying5 Try.underlying9 HR0.out
 have hcw3 := fun nq_ : Nat => Kd.C_string (P := Try.prog) (A := A0) (c := c0) Try.underlying22 Try.underlying5 Try.underlying9 (Kd.C_drewN HR0.out nq_)
 have hcv4 := Kd.C_string (P := Try.prog) (A := A1) (c := c1) Try.underlying22 Try.underlying5 Try.underlying9 HR1.out
 have hcw4 := fun nq_ : Nat => Kd.C_string (P := Try.prog) (A := A1) (c := c1) Try.underlying22 Try.underlying5 Try.underlying9 (Kd.C_drewN HR1.out nq_)
 go_enter Try.func119, Try.ntmps119
 go_wp2
 go_ret
 exact ⟨by first | rfl | (simp; done) | (simp [*]; done), by repeat (first | exact Drawn0.refl _ | apply Drawn0.step)⟩

/-! ### bytes_HasPrefix: function 72 -/
def bytes_HasPrefix.f (l0 : List Int) (l1 : List Int) : Option (Bool) := if (l0.length : Int) ≥ (l1.length : Int) then (if 0 ≤ (l1.length : Int) then (if (l1.length : Int) ≤ (l0.length : Int) then ((bytes_Equal.f (l0.take ((l1.length : Int) : Int).toNat) l1).bind fun t152 => (some t152)) else (none)) else (none)) else (some false)
set_option maxHeartbeats 8000000 in
set_option maxRecDepth 100000 in
theorem bytes_HasPrefix.calls (A0 : Option Addr) (c0 : Nat) (l0 : List Int) (A1 : Option Addr) (c1 : Nat) (l1 : List Int) (r : Bool) (w : World) (hr0 : Kd.C (Kd.int .u8) w A0 l0.length l0) (hc0 : l0.length ≤ c0) (hr1 : Kd.C (Kd.int .u8) w A1 l1.length l1) (hc1 : l1.length ≤ c1) (h : bytes_HasPrefix.f l0 l1 = some r) :
  Calls Try.prog 72 #[.slice A0 l0.length c0, .slice A1 l1.length c1] w fun e w' => e = .returned (.bool r) ∧ Drawn0 w w' := by
 have HR0 := Aside0.mk hr0
 have HC0 := Aside0.mk hc0
 clear hr0 hc0
 have HR1 := Aside0.mk hr1
 have HC1 := Aside0.mk hc1
 clear hr1 hc1
 have H : (if (l0.length : Int) ≥ (l1.length : Int) then (if 0 ≤ (l1.length : Int) then (if (l1.length : Int) ≤ (l0.length : Int) then ((bytes_Equal.f (l0.take ((l1.length : Int) : Int).toNat) l1).bind fun t152 => (some t152)) else (none)) else (none)) else (some false)) = some r := h
 clear h
 by_cases c3 : (l0.length : Int) ≥ (l1.length : Int)
 ·rw [if_pos c3] at H
  have c3b0 : decide ((l1.length : Int) ≤ (l0.length : Int)) = true := decide_eq_true c3
  have c3b1 : decide (l1.length ≤ l0.length) = true := decide_eq_true (Int.ofNat_le.mp c3)
  clear c3
  by_cases c4 : 0 ≤ (l1.length : Int)
  ·rw [if_pos c4] at H
   have c4b0 := eq_true c4
   have c4b1 : decide (0 ≤ (l1.length : Int)) = true := decide_eq_true c4
   clear c4
   by_cases c5 : (l1.length : Int) ≤ (l0.length : Int)
   ·rw [if_pos c5] at H
    have c5b0 := eq_true c5
    have c5b1 : decide ((l1.length : Int) ≤ (l0.length : Int)) = true := decide_eq_true c5
    clear c5
    replace H := Option.bind_eq_some_iff.mp H
    obtain ⟨t152, A60, H⟩ := H
    replace H : (some t152) = some r := H
    have A6 := Aside0.mk A60
    clear A60
    obtain rfl := Option.some.inj H
    obtain ⟨i07, hi07, _, hsz7, _⟩ := info_parts info5
    obtain ⟨hcut7, hA7, hC7⟩ := print_take_of (P := Try.prog) (Value.int .u8) 0 22 5 .i64 Try.underlying22 hi07 hsz7 A0 c0 l0 (l1.length : Int) od od HC0.out
    have HR151 := Aside0.mk (Kd.C_of_reads (h1 := fun _ => rfl) (hA7 _ (Kd.reads_of_C HR0.out)))
    have HC151 := Aside0.mk hC7
    clear hA7 hC7 hi07 hsz7
    (try rw [show (l0.take ((l1.length : Int) : Int).toNat).length = (l1.length : Int).toNat from (by rw [List.length_take]; have h_ : ((l1.length : Int) : Int) ≤ (l0.length : Int) := od; omega)] at hcut7)
    (try simp only [Int.toNat_natCast] at hcut7)
    go_enter Try.func72, Try.ntmps72
    go_wp2_with (first | (go_at_call 119; refine calls_of_args (args' := #[.slice A0 (l0.take ((l1.length : Int) : Int).toNat).length c0, .slice A1 l1.length c1]) (by first | (rw [show (l0.take ((l1.length : Int) : Int).toNat).length = (l1.length : Int).toNat from (by rw [List.length_take]; have h_ : ((l1.length : Int) : Int) ≤ (l0.length : Int) := od; omega)] <;> rfl) | rfl) ?_; (with_reducible refine (bytes_Equal.calls _ _ (l0.take ((l1.length : Int) : Int).toNat) _ _ l1 t152 _ ?side1 ?side2 ?side3 ?side4 A6.out).mono ?_); (case side1 => repeat (first | exact HR151.out | (with_reducible refine Kd.C_alloc ?_ _) | (with_reducible refine Kd.C_drewN ?_ _) | (with_reducible refine Kd.C_drew ?_))); (case side2 => exact HC151.out); (case side3 => repeat (first | exact HR1.out | (with_reducible refine Kd.C_alloc ?_ _) | (with_reducible refine Kd.C_drewN ?_ _) | (with_reducible refine Kd.C_drew ?_))); (case side4 => exact HC1.out); rintro e w' ⟨rfl, ⟨nd, rfl⟩⟩))
    go_ret
    exact ⟨by first | rfl | (simp; done) | (simp [*]; done), by repeat (first | exact Drawn0.refl _ | apply Drawn0.step)⟩
   rw [if_neg c5] at H
   exact absurd H (by simp)
  rw [if_neg c4] at H
  exact absurd H (by simp)
 rw [if_neg c3] at H
 have c3b0 : decide ((l1.length : Int) ≤ (l0.length : Int)) = false := decide_eq_false c3
 have c3b1 : decide (l1.length ≤ l0.length) = false := decide_eq_false (fun h => c3 (Int.ofNat_le.mpr h))
 clear c3
 obtain rfl := Option.some.inj H
 go_enter Try.func72, Try.ntmps72
 go_wp2
 go_ret
 exact ⟨by first | rfl | (simp; done) | (simp [*]; done), by repeat (first | exact Drawn0.refl _ | apply Drawn0.step)⟩

/-! ### impl_HasPrefix: function 31 -/
def impl_HasPrefix.f (l0 : List Int) (l1 : List Int) : Option (Bool) := (bytes_HasPrefix.f l0 l1).bind fun t153 => (some t153)
set_option maxHeartbeats 8000000 in
set_option maxRecDepth 100000 in
theorem impl_HasPrefix.calls (A0 : Option Addr) (c0 : Nat) (l0 : List Int) (A1 : Option Addr) (c1 : Nat) (l1 : List Int) (r : Bool) (w : World) (hr0 : Kd.C (Kd.int .u8) w A0 l0.length l0) (hc0 : l0.length ≤ c0) (hr1 : Kd.C (Kd.int .u8) w A1 l1.length l1) (hc1 : l1.length ≤ c1) (h : impl_HasPrefix.f l0 l1 = some r) :
  Calls Try.prog 31 #[.slice A0 l0.length c0, .slice A1 l1.length c1] w fun e w' => e = .returned (.bool r) ∧ Drawn0 w w' := by
 have HR0 := Aside0.mk hr0
 have HC0 := Aside0.mk hc0
 clear hr0 hc0
 have HR1 := Aside0.mk hr1
 have HC1 := Aside0.mk hc1
 clear hr1 hc1
 have H : ((bytes_HasPrefix.f l0 l1).bind fun t153 => (some t153)) = some r := h
 clear h
 replace H := Option.bind_eq_some_iff.mp H
 obtain ⟨t153, A30, H⟩ := H
 replace H : (some t153) = some r := H
 have A3 := Aside0.mk A30
 clear A30
 obtain rfl := Option.some.inj H
 go_enter Try.func31, Try.ntmps31
 go_wp2_with (first | ((with_reducible refine gate_callee (f := 72) rfl ?_); refine gl_ (some 7) Try.func72 #[.slice A0 l0.length c0, .slice A1 l1.length c1] (h := ?_); (with_reducible refine (bytes_HasPrefix.calls _ _ l0 _ _ l1 t153 _ ?side1 ?side2 ?side3 ?side4 A3.out).mono ?_); (case side1 => repeat (first | exact HR0.out | (with_reducible refine Kd.C_alloc ?_ _) | (with_reducible refine Kd.C_drewN ?_ _) | (with_reducible refine Kd.C_drew ?_))); (case side2 => exact HC0.out); (case side3 => repeat (first | exact HR1.out | (with_reducible refine Kd.C_alloc ?_ _) | (with_reducible refine Kd.C_drewN ?_ _) | (with_reducible refine Kd.C_drew ?_))); (case side4 => exact HC1.out); rintro e w' ⟨rfl, ⟨nd, rfl⟩⟩; refine ⟨_, rfl, ?_⟩))
 go_ret
 exact ⟨by first | rfl | (simp; done) | (simp [*]; done), by repeat (first | exact Drawn0.refl _ | apply Drawn0.step)⟩

/-! ### slices_Grow_byte_byte: function 131 -/
def slices_Grow_byte_byte.f (l0 : List Int) (a1 : Int) : Option (List Int) := if 0 ≤ a1 then (if a1 < 140737488355328 then some [] else none) else none
set_option maxHeartbeats 8000000 in
set_option maxRecDepth 100000 in
/-- (At a nil slice: what is handed in is not looked at.) -/
theorem slices_Grow_byte_byte.calls (A0 : Option Addr) (c0 : Nat) (l0 : List Int) (a1 : Int) (r : List Int) (w : World) (hr0 : Kd.C (Kd.int .u8) w A0 l0.length l0) (hc0 : l0.length ≤ c0) (h : slices_Grow_byte_byte.f l0 a1 = some r) :
  Calls Try.prog 131 #[.slice none 0 0, .int .i64 a1] w fun e w' => ∃ v0_ : Value, e = .returned (v0_) ∧ Kd.R (Kd.int .u8) 5 w' w.heap.size (fun _ => True) v0_ r ∧ Below w.heap.size w w' := by
 clear hr0 hc0
 unfold slices_Grow_byte_byte.f at h
 by_cases h0 : 0 ≤ a1
 case neg =>
  rw [if_neg h0] at h
  exact absurd h (by simp)
 by_cases h1 : a1 < 140737488355328
 case neg =>
  rw [if_pos h0, if_neg h1] at h
  exact absurd h (by simp)
 rw [if_pos h0, if_pos h1] at h
 obtain rfl := Option.some.inj h
 clear h
 have HB := Aside0.mk (Below.refl w.heap.size w)
 have hn : decide (a1 < 0) = false := decide_eq_false (by omega)
 have hw : wrap64 a1 = a1 := by unfold wrap64; omega
 by_cases hp : 0 < a1
 ·have hp' : decide (0 < a1) = true := decide_eq_true hp
  have HP := Aside0.mk hp
  have HH := Aside0.mk h1
  have HW := Aside0.mk hw
  clear h0 h1 hp
  go_enter Try.func131, Try.ntmps131
  go_wp2_with (((with_reducible refine gate_builtin (b := .append) (xs := #[.tmp 20, .tmp 21]) rfl ?_); at_builtin; refine Kd.R_append_zeros (Kd.int .u8) (w0 := w) w.heap.size rfl (.tmp 20) (.tmp 21) 22 3 5 (.int .u8 0) 1 rfl Try.underlying22 Try.underlying3 info5 rfl (by decide) (by omega) (.slice none 0 0) [] (0 : Int) (wrap64 a1) (fun _ => True) rfl rfl rfl (fun _ _ => trivial) (Kd.R_nil _ _ _ _ _) (by have := HP.out; have := HW.out; omega) HB.out ?aS ?aL ?_; (case aS => exact below_size HB.out); (case aL => have := HH.out; have := HP.out; have := HW.out; simp; omega); intro v1 w1 ho hb hg hat; obtain ⟨A1, c1, e1⟩ := Kd.R_slice ho; subst e1; have HO := Aside0.mk ho; replace HB := Aside0.mk hb; clear ho hb hg hat))
  go_ret
  exact ⟨_, rfl, Kd.R_take HO.out (Nat.zero_le _), HB.out⟩
 have hz : a1 = 0 := by omega
 subst hz
 clear h0 h1 hp hn hw
 go_enter Try.func131, Try.ntmps131
 go_wp2
 go_ret
 exact ⟨_, rfl, Kd.R_nil _ _ _ _ _, HB.out⟩

/-! ### slices_Concat_byte_byte: function 110 -/
mutual
def slices_Concat_byte_byte.l0 : Nat → List (List Int) → Int → List (List Int) → Int → Int → Option (List Int)
 | 0, _, _, _, _, _ => none
 | k + 1, x0, x3, x9, x10, x11 => if x11 < x10 then (if 0 ≤ x11 then (if x11 < (x9.length : Int) then (if (wrap64 (x3 + ((rd_L1 x9 x11).length : Int))) < 0 then (none) else (slices_Concat_byte_byte.l0 k x0 (wrap64 (x3 + ((rd_L1 x9 x11).length : Int))) x9 x10 (wrap64 (x11 + 1)))) else (none)) else (none)) else ((slices_Grow_byte_byte.f ([] : List Int) x3).bind fun t155 => (slices_Concat_byte_byte.l1 k t155 x0 (x0.length : Int) 0))
def slices_Concat_byte_byte.l1 : Nat → List Int → List (List Int) → Int → Int → Option (List Int)
 | 0, _, _, _, _ => none
 | k + 1, x6, x25, x26, x27 => if x27 < x26 then (if 0 ≤ x27 then (if x27 < (x25.length : Int) then (if x6.length + (rd_L1 x25 x27).length < 140737488355328 then (slices_Concat_byte_byte.l1 k (x6 ++ (rd_L1 x25 x27)) x25 x26 (wrap64 (x27 + 1))) else (none)) else (none)) else (none)) else (some x6)
end
def slices_Concat_byte_byte.f (k : Nat) (l0 : List (List Int)) : Option (List Int) := slices_Concat_byte_byte.l0 k l0 0 l0 (l0.length : Int) 0
set_option maxHeartbeats 8000000 in
set_option maxRecDepth 100000 in
theorem slices_Concat_byte_byte.callsR (k : Nat) (A0 : Option Addr) (c0 : Nat) (l0 : List (List Int)) (r : List Int) (w : World) (hr0 : Kd.C (Kd.slice 5 (Kd.int .u8)) w A0 l0.length l0) (hc0 : l0.length ≤ c0) (h : slices_Concat_byte_byte.f k l0 = some r) :
  Calls Try.prog 110 #[.slice A0 l0.length c0] w fun e w' => ∃ v0_ : Value, e = .returned (v0_) ∧ Kd.R (Kd.int .u8) 5 w' w.heap.size (fun _ => True) v0_ r ∧ Below w.heap.size w w' := by
 have HR0 := Aside0.mk hr0
 have HC0 := Aside0.mk hc0
 clear hr0 hc0
 have HB := Aside0.mk (Below.refl w.heap.size w)
 have H : (slices_Concat_byte_byte.l0 k l0 0 l0 (l0.length : Int) 0) = some r := h
 clear h
 have H' := Aside0.mk H
 clear H
 go_enter Try.func110, Try.ntmps110
 go_wp2
 go_loopg [3, 11] k (fun kq v3 v11 w' => ∃ (x3_1 : Int) (x11_1 : Int), v3 = .int .i64 x3_1 ∧ v11 = .int .i64 x11_1 ∧ Aside0 (slices_Concat_byte_byte.l0 kq l0 x3_1 l0 (l0.length : Int) x11_1 = some r) ∧ Aside0 (kq ≤ k) ∧ Aside0 (Below w.heap.size w w'))
 case atStart => exact ⟨(0), (0), rs_, rs_, H', ⟨Nat.le_refl _⟩, ⟨bel⟩⟩
 case round =>
  clear H'
  try clear c1
  obtain ⟨x3_1, x11_1, rfl, rfl, HA, HK1, HB⟩ := hrel
  cases gk with
  | zero => exact absurd HA.out (by simp [slices_Concat_byte_byte.l0])
  | succ k1 =>
   have H := HA.out
   clear HA
   simp only [slices_Concat_byte_byte.l0] at H
   by_cases c2 : x11_1 < (l0.length : Int)
   ·rw [if_pos c2] at H
    have c2b0 : decide (x11_1 < (l0.length : Int)) = true := decide_eq_true c2
    clear c2
    by_cases c3 : 0 ≤ x11_1
    ·rw [if_pos c3] at H
     have c3b0 : decide (0 ≤ x11_1) = true := decide_eq_true c3
     clear c3
     by_cases c4 : x11_1 < (l0.length : Int)
     ·rw [if_pos c4] at H
      have c4b0 : decide (x11_1 < (l0.length : Int)) = true := decide_eq_true c4
      clear c4
      by_cases c5 : (wrap64 (x3_1 + ((rd_L1 l0 x11_1).length : Int))) < 0
      ·rw [if_pos c5] at H
       exact absurd H (by simp)
      rw [if_neg c5] at H
      have c5b0 : decide ((wrap64 (x3_1 + ((rd_L1 l0 x11_1).length : Int))) < 0) = false := decide_eq_false c5
      clear c5
      have H' := Aside0.mk H
      clear H
      have p154 : 0 ≤ (x11_1 : Int) := od
      have q154 : x11_1 < (l0.length : Int) := od
      obtain ⟨ad154, A154_0, c154_0, e154, hx154_0, hl154_0, hi154_0⟩ := at_L1 HR0.out x11_1 p154 q154
      cases e154
      replace hx154_0 := hxb HB hx154_0
      have HR154_0 := Aside0.mk hi154_0
      have HC154_0 := Aside0.mk hl154_0
      clear hi154_0 hl154_0
      replace p154 := eq_true p154
      replace q154 := eq_true q154
      go_wp2
      go_roundg k1
      case measure => have := HK1.out; omega
      case rel => exact ⟨(wrap64 (x3_1 + ((rd_L1 l0 x11_1).length : Int))), (wrap64 (x11_1 + 1)), rs_, rs_, H', ⟨by have := HK1.out; omega⟩, ⟨bel⟩⟩
     rw [if_neg c4] at H
     exact absurd H (by simp)
    rw [if_neg c3] at H
    exact absurd H (by simp)
   rw [if_neg c2] at H
   have c2b0 : decide (x11_1 < (l0.length : Int)) = false := decide_eq_false c2
   clear c2
   replace H := Option.bind_eq_some_iff.mp H
   obtain ⟨t155, A60, H⟩ := H
   replace H : (slices_Concat_byte_byte.l1 k1 t155 l0 (l0.length : Int) 0) = some r := H
   have A6 := Aside0.mk A60
   clear A60
   have H' := Aside0.mk H
   clear H
   go_wp2_with (first | ((with_reducible refine gate_callee (f := 131) rfl ?_); refine gl_ (some 24) Try.func131 #[.slice none 0 0, .int .i64 x3_1] (h := ?_); (refine (slices_Grow_byte_byte.calls none 0 ([] : List Int) x3_1 t155 _ ?side1 ?side2 A6.out).mono ?_); (case side1 => exact Kd.C_nil _ _); (case side2 => exact Nat.le_refl _); rintro e w7 ⟨v156, rfl, ho0, hb⟩; refine ⟨_, rfl, ?_⟩; have HO157 := Aside0.mk (Kd.R_lower ho0 (below_size bel)); replace HB := bst hb; (try clear hb); (try clear hb2); (try clear hk); (try clear hi); (try clear ho0)))
   go_loopg [6, 27] k1 (fun kq v6 v27 w' => ∃ (x6_2 : List Int) (x27_2 : Int), v27 = .int .i64 x27_2 ∧ Aside0 (slices_Concat_byte_byte.l1 kq x6_2 l0 (l0.length : Int) x27_2 = some r) ∧ Aside0 (kq ≤ k1) ∧ Aside0 (Kd.R (Kd.int .u8) 5 w' w.heap.size (fun _ => True) v6 x6_2) ∧ Aside0 (Below w.heap.size w w'))
   case atStart => exact ⟨(t155), (0), rs_, H', ⟨Nat.le_refl _⟩, ⟨rkp HO157⟩, ⟨bel⟩⟩
   case round =>
    clear H'
    try clear c1; try clear p1; try clear q1; try clear hx1; try clear c2; try clear c2b0; try clear p2; try clear c3; try clear c3b0; try clear c4; try clear c4b0; try clear c5; try clear c5b0; try clear p6; try clear hx154_0; try clear p154; try clear q154
    obtain ⟨x6_2, x27_2, rfl, HA, HK2, HO_6, HB⟩ := hrel
    cases gk with
    | zero => exact absurd HA.out (by simp [slices_Concat_byte_byte.l1])
    | succ k2 =>
     have H := HA.out
     clear HA
     simp only [slices_Concat_byte_byte.l1] at H
     by_cases c8 : x27_2 < (l0.length : Int)
     ·rw [if_pos c8] at H
      have c8b0 : decide (x27_2 < (l0.length : Int)) = true := decide_eq_true c8
      clear c8
      by_cases c9 : 0 ≤ x27_2
      ·rw [if_pos c9] at H
       have c9b0 : decide (0 ≤ x27_2) = true := decide_eq_true c9
       clear c9
       by_cases c10 : x27_2 < (l0.length : Int)
       ·rw [if_pos c10] at H
        have c10b0 : decide (x27_2 < (l0.length : Int)) = true := decide_eq_true c10
        clear c10
        by_cases c11 : x6_2.length + (rd_L1 l0 x27_2).length < 140737488355328
        ·rw [if_pos c11] at H
         have LMc11 := Aside0.mk c11
         clear c11
         obtain ⟨y159, hy159⟩ : ∃ y_ : List Int, y_ = (x6_2 ++ (rd_L1 l0 x27_2)) := ⟨_, rfl⟩
         replace H : (slices_Concat_byte_byte.l1 k2 y159 l0 (l0.length : Int) (wrap64 (x27_2 + 1))) = some r := by first | (rw [hy159]; with_reducible exact H) | (have H2_ := (Option.bind_some _ _).symm.trans H; rw [hy159]; with_reducible exact H2_) | (have H2_ := (Option.bind_some _ _).symm.trans H; with_reducible exact H2_) | with_reducible exact H | (rw [hy159]; exact H) | exact H
         have Ny159 := Aside0.mk hy159
         clear hy159
         have H' := Aside0.mk H
         clear H
         have p158 : 0 ≤ (x27_2 : Int) := od
         have q158 : x27_2 < (l0.length : Int) := od
         obtain ⟨ad158, A158_0, c158_0, e158, hx158_0, hl158_0, hi158_0⟩ := at_L1 HR0.out x27_2 p158 q158
         cases e158
         replace hx158_0 := hxb HB hx158_0
         have HR158_0 := Aside0.mk hi158_0
         have HC158_0 := Aside0.mk hl158_0
         clear hi158_0 hl158_0
         replace p158 := eq_true p158
         replace q158 := eq_true q158
         go_wp2_with (first | ((with_reducible refine gate_builtin (b := .append) (xs := #[.tmp 31, .tmp 32]) rfl ?_); at_builtin; refine Kd.R_append_rows (Kd.int .u8) (w0 := w) w.heap.size rfl (.tmp 31) (.tmp 32) 22 5 (.int .u8 0) 1 rfl Try.underlying22 info5 rfl (by decide) (by omega) u6 x6_2 (rd_L1 l0 x27_2) _ _ _ (fun _ => True) (fun _ => False) rfl rfl ?aO ?aR (fun _ _ h => h) (fun _ h => h.elim) ?aF ?aB ?aS ?aL ?_; (case aR => repeat (first | exact (Kd.C_below HR158_0.out HB.out) | (with_reducible refine Kd.C_alloc ?_ _) | (with_reducible refine Kd.C_drewN ?_ _) | (with_reducible refine Kd.C_drew ?_))); (case aB => exact bel); (case aF => exact (fun _ _ => trivial)); (case aO => exact (rkp HO_6)); (case aS => exact (below_size bel)); (case aL => have := LMc11.out; omega); intro v160 w12 ho hb hg hat; rw [← Ny159.out] at ho; have n0_ := Aside0.mk (hb); have n1_ := Aside0.mk (ho); clear HB; clear HO_6; have HB := n0_; have HO161 := n1_; clear n0_ n1_; clear ho hb hg hat))
         go_roundg k2
         case measure => have := HK1.out; have := HK2.out; omega
         case rel => exact ⟨(y159), (wrap64 (x27_2 + 1)), rs_, H', ⟨by have := HK1.out; have := HK2.out; omega⟩, ⟨rkp HO161⟩, ⟨bel⟩⟩
        rw [if_neg c11] at H
        exact absurd H (by simp)
       rw [if_neg c10] at H
       exact absurd H (by simp)
      rw [if_neg c9] at H
      exact absurd H (by simp)
     rw [if_neg c8] at H
     have c8b0 : decide (x27_2 < (l0.length : Int)) = false := decide_eq_false c8
     clear c8
     obtain rfl := Option.some.inj H
     go_wp2
     go_ret
     exact ⟨_, rz_, by (with_reducible repeat (first | apply Kd.R_alloc | apply Kd.R_drewN | apply Kd.R_drew)); exact HO_6.out, bel⟩

theorem slices_Concat_byte_byte.calls (k : Nat) (A0 : Option Addr) (c0 : Nat) (l0 : List (List Int)) (r : List Int) (w : World) (hr0 : Kd.C (Kd.slice 5 (Kd.int .u8)) w A0 l0.length l0) (hc0 : l0.length ≤ c0) (h : slices_Concat_byte_byte.f k l0 = some r) :
  Calls Try.prog 110 #[.slice A0 l0.length c0] w fun e w' => ∃ v0_ : Value, e = .returned (v0_) ∧ Kd.V (Kd.int .u8) 5 w' w.heap.size (fun k_ => (w.heap.size ≤ k_)) v0_ r ∧ Below w.heap.size w w' :=
 (slices_Concat_byte_byte.callsR k A0 c0 l0 r w hr0 hc0 h).mono (by rintro e w' ⟨v, rfl, ho, hb⟩; exact ⟨v, rfl, Kd.V_mono (Kd.R_V (Kd.R_bound ho)) (fun _ hk => hk.2.1), hb⟩)

/-! ### virtual_concat2: function 172 -/
theorem virtual_concat2.c2_ {P : Program} {ops : Array Oper} {Q : Exit → Act → World → Prop} {rest : List Oper} {o1 o2 : Oper} {a : Act} {w : World} (N1 N2 : Tmp) {f : FuncId} {fn : Func} (hf : P.funcs[f]? = some fn) (v1 v0 : Value) (e : TypeId) {ar : Array Operand} {ts : Array TypeId}
  (hd1 : o1.dst = some N1 := by exact rfl) (hg1 : o1.guard = none := by exact rfl) (hrun : (execOp a.eval o1).run P w = .ok (.value (.slice (some ⟨w.heap.size, 0, none⟩) 2 2)) (w.alloc (.cells #[v1, v0] e)) := by first | (go_simp; done) | (go_simp; rfl))
  (hd2 : o2.dst = some N2 := by exact rfl) (hg2 : o2.guard = none := by exact rfl) (hname : (fn.name == "runtime.NumGoroutine") = false := by kernel_rfl) (hb : fn.body.isSome = true := by exact rfl)
  (hop : o2.op = .call { callee := .value (.func f), args := ar, argTypes := ts } := by exact rfl) (hargs : ar.map (a.put (some N1) (.slice (some ⟨w.heap.size, 0, none⟩) 2 2)).eval = #[.slice (some ⟨w.heap.size, 0, none⟩) 2 2] := by ((try simp only [List.map_toArray, List.map_cons, List.map_nil]); first | done | rfl))
  (h : Calls P f #[.slice (some ⟨w.heap.size, 0, none⟩) 2 2] (w.alloc (.cells #[v1, v0] e)) fun en w' => ∃ v, en = .returned v ∧ wpList P ops Q rest ((a.put (some N1) (.slice (some ⟨w.heap.size, 0, none⟩) 2 2)).put (some N2) v) w') : wpList P ops Q (o1 :: o2 :: rest) a w := by
 refine Kd.event_run hg1 hrun ?_
 rw [hd1]
 exact goesL_ (some N2) hd2 hg2 hf hname hb _ hop hargs h
def virtual_concat2.f (k : Nat) (l0 l1 : List Int) : Option (List Int) := slices_Concat_byte_byte.f k [l0, l1]
theorem virtual_concat2.calls (k : Nat) (A0 : Option Addr) (c0 : Nat) (l0 : List Int) (A1 : Option Addr) (c1 : Nat) (l1 : List Int) (r : List Int) (w : World) (hr0 : Kd.C (Kd.int .u8) w A0 l0.length l0) (hc0 : l0.length ≤ c0) (hr1 : Kd.C (Kd.int .u8) w A1 l1.length l1) (hc1 : l1.length ≤ c1) (h : virtual_concat2.f k l0 l1 = some r) :
  Calls Try.prog 110 #[.slice (some ⟨w.heap.size, 0, none⟩) 2 2] (w.alloc (.cells #[.slice A0 l0.length c0, .slice A1 l1.length c1] 22)) fun e w' => ∃ v0_ : Value, e = .returned (v0_) ∧ Kd.R (Kd.int .u8) 5 w' w.heap.size (fun k_ => (w.heap.size ≤ k_)) v0_ r ∧ Below w.heap.size w w' := by
 have hb : Below w.heap.size w (w.alloc (.cells #[.slice A0 l0.length c0, .slice A1 l1.length c1] 22)) := below_alloc (Below.refl _ _) _
 have hC : Kd.C (Kd.slice 5 (Kd.int .u8)) (w.alloc (.cells #[.slice A0 l0.length c0, .slice A1 l1.length c1] 22)) (some ⟨w.heap.size, 0, none⟩) [l0, l1].length [l0, l1] := by
  refine ⟨rfl, by simp, fun _ => ⟨_, rfl, fun j p hj => ?_⟩⟩
  have key : ∀ i u, (#[Value.slice A0 l0.length c0, Value.slice A1 l1.length c1] : Array Value)[i]? = some u → (w.alloc (.cells #[.slice A0 l0.length c0, .slice A1 l1.length c1] 22)).cell? ((⟨w.heap.size, 0, none⟩ : Addr).add i) = some u := by
   intro i u hu
   have e : (⟨w.heap.size, 0, none⟩ : Addr).add i = ⟨w.heap.size, i, none⟩ := by unfold Addr.add; split <;> simp_all
   rw [e]
   exact (cell_of_row _ _ i _ 22 (0, 0) (heap_alloc_new w _)).trans hu
  match j with
  | 0 =>
   simp at hj
   subst hj
   exact ⟨[.slice A0 l0.length c0], rfl, ⟨A0, c0, rfl, hc0, Kd.C_below hr0 hb⟩, fun i u hu => by
    match i with
    | 0 => exact key 0 u (by simpa using hu)
    | i + 1 => simp at hu⟩
  | 1 =>
   simp at hj
   subst hj
   exact ⟨[.slice A1 l1.length c1], rfl, ⟨A1, c1, rfl, hc1, Kd.C_below hr1 hb⟩, fun i u hu => by
    match i with
    | 0 => exact key 1 u (by simpa using hu)
    | i + 1 => simp at hu⟩
  | j + 2 => simp at hj
 refine (slices_Concat_byte_byte.callsR k (some ⟨w.heap.size, 0, none⟩) 2 [l0, l1] r _ hC (by simp) h).mono ?_
 rintro e w' ⟨v, rfl, ho, hb2⟩
 have hsz : w.heap.size ≤ (w.alloc (.cells #[.slice A0 l0.length c0, .slice A1 l1.length c1] 22)).heap.size := hb.size
 exact ⟨v, rfl, Kd.R_mono (Kd.R_bound (Kd.R_lower ho hsz)) (fun _ hk => hk.2.1), hb.trans (hb2.mono hsz)⟩

theorem Kd.R_shift {α : Type} {d : Kd α} {e : Nat} {w : World} {base : Nat} {ok : Nat → Prop} {v : Value} {ys : List α} {f2 f : Nat → Nat} (n : Nat) (h2 : (Kd.tag f2 d).R e w base ok v ys.zipIdx) (hf : ∀ k, ok k → f k = f2 k + n) : (Kd.tag f d).R e w base ok v (ys.zipIdx n) := by
  obtain ⟨h0, inner, ho, hl, hr⟩ := h2
  rw [List.length_zipIdx] at ho hl
  refine ⟨h0, inner, by rw [List.length_zipIdx]; exact ho, by rw [List.length_zipIdx]; exact hl, fun j p hj => ?_⟩
  rw [List.getElem?_zipIdx] at hj
  obtain ⟨x, hx, rfl⟩ := Option.map_eq_some_iff.1 hj
  refine d.M_mono (fun k hk => ⟨hk.1, ?_⟩) (hr j (x, j) (Kd.zip_at hx))
  have h3 : f2 k = j := hk.2
  show f k = n + j
  rw [hf k hk.1.1, h3]; exact Nat.add_comm _ _
theorem Kd.S_append_rowsO {α : Type} (d : Kd α) {P : Program} {ops : Array Oper} {Q : Exit → Act → World → Prop} {rest : List Oper} {o : Oper} {a : Act} {w0 W : World} (base : Nat) (hgd : o.guard = none) (s x : Operand) (t e : TypeId) (z : Value) (bytes : Nat)
    (ho : o.op = .call { callee := .builtin .append, args := #[s, x], argTypes := #[t, t] })
    (ht : P.underlying t = some (.slice e)) (hinfo : (P.info? e).map (fun i => (i.zero, i.size, i.bytes)) = some (some z, d.sz, bytes)) (hz : z.cells.size = d.sz) (hs0 : 0 < d.sz) (hb0 : 0 < bytes)
    (v : Value) (xs ys : List α) (A : Option Addr) (m c : Nat) (ok okp : Nat → Prop) (hs : a.eval s = v) (hx : a.eval x = .slice A m c)
    (HO : Kd.S d e W base (fun k => ok k ∧ ¬ okp k) v xs) (HR : Kd.S d e W base okp (.slice A m c) ys) (hokp : ∀ k, okp k → ok k ∧ some k ≠ v.ownBlock) (hfresh : ∀ k, W.heap.size ≤ k → ok k)
    (HB : Below base w0 W) (hbase : base ≤ W.heap.size) (hl : (xs.length + m) * bytes ≤ 140737488355328)
    (h : ∀ v1 w1, Kd.S d e w1 base ok v1 (xs ++ ys) → Below base w0 w1 → W.grownBy w1 v.ownBlock → (v1.ownBlock = v.ownBlock ∨ ∃ b, v1.ownBlock = some b ∧ W.heap.size ≤ b) → wpList P ops Q rest (a.put o.dst v1) w1) :
    wpList P ops Q (o :: rest) a W := by
  classical
  obtain ⟨f1, h1⟩ := HO
  obtain ⟨f2, h2⟩ := HR
  refine Kd.R_append_rowsO (Kd.tag (fun k => if okp k then f2 k + xs.length else f1 k) d) base hgd s x t e z bytes ho ht hinfo hz hs0 hb0 v xs.zipIdx (ys.zipIdx xs.length) A m c ok okp hs hx (Kd.R_mono (Kd.R_tag h1 (fun k hk _ => if_neg hk.2)) (fun _ hk => hk.1)) (Kd.R_shift xs.length h2 (fun k hk => if_pos hk)) hokp hfresh HB hbase (by rw [List.length_zipIdx]; exact hl) ?_
  intro v1 w1 hr
  have he : (xs ++ ys).zipIdx = xs.zipIdx ++ ys.zipIdx xs.length := by rw [List.zipIdx_append, Nat.zero_add]
  exact h v1 w1 ⟨_, he ▸ hr⟩
theorem Kd.sizeOf_ {W w1 : World} (_h : Below W.heap.size W w1) : ∃ N, N = W.heap.size := ⟨_, rfl⟩
theorem Kd.szN (w : World) (n : Nat) : w.heap.size ≤ (w.drewN n).heap.size := (pw_below_drewN (Below.refl w.heap.size w) n).size
theorem Kd.wr64 {x : Int} {n : Nat} (h0 : 0 ≤ x) (h1 : x < (n : Int)) (h2 : n ≤ 9223372036854775807) : (wrap64 (x + 1)).toNat = x.toNat + 1 := by
  unfold wrap64
  omega
/-- An elder row over a call: elder than what the call made. -/
theorem Kd.S_elderN {α : Type} {d : Kd α} {e base N : Nat} {ok : Nat → Prop} {W w1 : World} {u v : Value} {xs : List α} (h : Kd.S d e W base ok u xs) (hbase : ∀ k, v.ownBlock = some k → W.heap.size ≤ k) (hb : Below W.heap.size W w1) (hN : N = W.heap.size) : Kd.S d e w1 base (fun k => (ok k ∧ some k ≠ v.ownBlock) ∧ k < N) u xs :=
  Kd.S_mono (Kd.S_elder' (Kd.S_bound h) hbase hb) (fun _ hk => ⟨⟨hk.1.1, hk.2⟩, hN ▸ hk.1.2.2.1⟩)
/-- An element of a row told apart: its blocks are those of its index. -/
theorem Kd.S_getf {α : Type} {d : Kd α} {e base n c : Nat} {ok : Nat → Prop} {w : World} {ad : Addr} {xs : List α} {f : Nat → Nat} (h : (Kd.tag f d).R e w base ok (.slice (some ad) n c) xs.zipIdx) (z : α) (i : Int) (h0 : 0 ≤ i) (h1 : i < n) :
    ∃ cs, cs.length = d.sz ∧ d.M w base (fun k => (ok k ∧ some k ≠ (Value.slice (some ad) n c).ownBlock) ∧ f k = i.toNat) (xs.getD i.toNat z) cs ∧ ∀ j u, cs[j]? = some u → w.cell? (ad.add (i.toNat * d.sz + j)) = some u := by
  have hn : xs.length = n := by
    have := (Kd.R_reads' h).1
    rw [List.length_zipIdx] at this
    exact this.symm
  obtain ⟨cs, h2, h3, h4⟩ := Kd.R_getA h (z, 0) i h0 h1
  refine ⟨cs, h2, ?_, h4⟩
  have hl : i.toNat < xs.length := by omega
  have he : xs.zipIdx.getD i.toNat (z, 0) = (xs.getD i.toNat z, i.toNat) := by
    rw [List.getD_eq_getElem?_getD, List.getD_eq_getElem?_getD, Kd.zip_at (List.getElem?_eq_getElem hl), List.getElem?_eq_getElem hl]
    rfl
  rw [he] at h3
  exact h3
/-- Told anew: what is not there yet is nobody's. -/
theorem Kd.S_retag {α β γ : Type} {d : Kd α} {d' : Kd β} {d'' : Kd γ} {e e' e'' base i : Nat} {ok okQ okP : Nat → Prop} {W : World} {u v s : Value} {xs : List α} {ys : List β} {l : List γ} {f : Nat → Nat} (hl : (Kd.tag f d).R e W base ok v xs.zipIdx) (ho : Kd.S d' e' W base (fun k => okQ k ∧ f k < i) u ys) (hp : d''.R e'' W base (fun k => okP k ∧ f k = i) s l) :
    ∃ f' : Nat → Nat, (∀ k, W.heap.size ≤ k → f' k = 0) ∧ (Kd.tag f' d).R e W base ok v xs.zipIdx ∧ Kd.S d' e' W base (fun k => okQ k ∧ f' k < i) u ys ∧ d''.R e'' W base (fun k => okP k ∧ f' k = i) s l := by
  have hf : ∀ k, k < W.heap.size → (if k < W.heap.size then f k else 0) = f k := fun k hk => if_pos hk
  refine ⟨fun k => if k < W.heap.size then f k else 0, fun k hk => if_neg (Nat.not_lt.2 hk), Kd.R_tag hl (fun k _ hk => hf k hk), Kd.S_mono (Kd.S_bound ho) (fun k hk => ⟨hk.1.1, ?_⟩), Kd.R_mono (Kd.R_bound hp) (fun k hk => ⟨hk.1.1, ?_⟩)⟩
  · show (if k < W.heap.size then f k else 0) < i
    rw [hf k hk.2.2.1]
    exact hk.1.2
  · show (if k < W.heap.size then f k else 0) = i
    rw [hf k hk.2.2.1]
    exact hk.1.2
/-! ### impl_Tree_entries: function 65 -/
mutual
def impl_Tree_entries.j0 : Nat → List Int → List (S84) → List Int → Bool → Int → List (S30) → Option ((List (S84)))
 | 0, _, _, _, _, _, _ => none
 | k + 1, x5, x6, x163000, x163001, x163002, x163003 => impl_Tree_entries.l0 k x5 x6 x163003 (x163003.length : Int) 0
def impl_Tree_entries.l0 : Nat → List Int → List (S84) → List (S30) → Int → Int → Option ((List (S84)))
 | 0, _, _, _, _, _ => none
 | k + 1, x5, x6, x24, x25, x26 => if x26 < x25 then (if 0 ≤ x26 then (if x26 < (x24.length : Int) then ((impl_Tree_entries.f k ((rd_T30 x24 x26).f0) ((rd_T30 x24 x26).f1) ((rd_T30 x24 x26).f2) ((rd_T30 x24 x26).f3) x5).bind fun t171 => (if x6.length + t171.length < 4398046511104 then (impl_Tree_entries.l0 k x5 (x6 ++ t171) x24 x25 (wrap64 (x26 + 1))) else (none))) else (none)) else (none)) else (some x6)
def impl_Tree_entries.f : Nat → List Int → Bool → Int → List (S30) → List Int → Option ((List (S84)))
 | 0, _, _, _, _, _ => none
 | k + 1, l0_0, a0_1, a0_2, l0_3, l1 => (virtual_concat2.f k l1 l0_0).bind fun t163 => (if a0_1 = true then (if ([] : List (S84)).length < 4398046511104 then (impl_Tree_entries.j0 k t163 (([] : List (S84)) ++ [(⟨t163, a0_2⟩ : S84)]) l0_0 a0_1 a0_2 l0_3) else (none)) else (impl_Tree_entries.j0 k t163 ([] : List (S84)) l0_0 a0_1 a0_2 l0_3))
end
set_option maxHeartbeats 8000000 in
set_option maxRecDepth 100000 in
theorem impl_Tree_entries.calls (k : Nat) : ∀ (A0_0 : Option Addr) (c0_0 : Nat) (l0_0 : List Int) (a0_1 : Bool) (a0_2 : Int) (A0_3 : Option Addr) (c0_3 : Nat) (l0_3 : List (S30)) (A1 : Option Addr) (c1 : Nat) (l1 : List Int) (r : List (S84)) (w : World) (hr0_0 : Kd.C (Kd.int .u8) w A0_0 l0_0.length l0_0) (hc0_0 : l0_0.length ≤ c0_0) (hr0_3 : Kd.C k30 w A0_3 l0_3.length l0_3) (hc0_3 : l0_3.length ≤ c0_3) (hr1 : Kd.C (Kd.int .u8) w A1 l1.length l1) (hc1 : l1.length ≤ c1) (h : impl_Tree_entries.f k l0_0 a0_1 a0_2 l0_3 l1 = some r),
  Calls Try.prog 65 #[.agg #[.slice A0_0 l0_0.length c0_0, .bool a0_1, .int .i64 a0_2, .slice A0_3 l0_3.length c0_3], .slice A1 l1.length c1] w fun e w' => ∃ v0_ : Value, e = .returned (v0_) ∧ Kd.S k84 84 w' w.heap.size (fun k_ => (w.heap.size ≤ k_)) v0_ r ∧ Below w.heap.size w w' := by
 induction k using Nat.strongRecOn with
 | _ k ih =>
 intro A0_0 c0_0 l0_0 a0_1 a0_2 A0_3 c0_3 l0_3 A1 c1 l1 r w hr0_0 hc0_0 hr0_3 hc0_3 hr1 hc1 h
 cases k with
 | zero => exact absurd h (by simp [impl_Tree_entries.f])
 | succ k =>
 simp only [impl_Tree_entries.f] at h
 have hu30 := Try.underlying30
 have hu84 := Try.underlying84
 have HR0_0 := Aside0.mk hr0_0
 have HC0_0 := Aside0.mk hc0_0
 clear hr0_0 hc0_0
 have HR0_3 := Aside0.mk hr0_3
 have HC0_3 := Aside0.mk hc0_3
 clear hr0_3 hc0_3
 have HR1 := Aside0.mk hr1
 have HC1 := Aside0.mk hc1
 clear hr1 hc1
 have HB := Aside0.mk (Below.refl w.heap.size w)
 have H : ((virtual_concat2.f k l1 l0_0).bind fun t163 => (if a0_1 = true then (if ([] : List (S84)).length < 4398046511104 then (impl_Tree_entries.j0 k t163 (([] : List (S84)) ++ [(⟨t163, a0_2⟩ : S84)]) l0_0 a0_1 a0_2 l0_3) else (none)) else (impl_Tree_entries.j0 k t163 ([] : List (S84)) l0_0 a0_1 a0_2 l0_3))) = some r := h
 clear h
 replace H := Option.bind_eq_some_iff.mp H
 obtain ⟨t163, A30, H⟩ := H
 replace H : (if a0_1 = true then (if ([] : List (S84)).length < 4398046511104 then (impl_Tree_entries.j0 k t163 (([] : List (S84)) ++ [(⟨t163, a0_2⟩ : S84)]) l0_0 a0_1 a0_2 l0_3) else (none)) else (impl_Tree_entries.j0 k t163 ([] : List (S84)) l0_0 a0_1 a0_2 l0_3)) = some r := H
 have A3 := Aside0.mk A30
 clear A30
 have HC4 := Aside0.mk H
 clear H
 go_enter Try.func65, Try.ntmps65
 go_upto_if 15 with (first | ((with_reducible refine gate_dst (N := 2) rfl ?_); refine bx_ 2 #[.slice A0_0 l0_0.length c0_0, .bool a0_1, .int .i64 a0_2, .slice A0_3 l0_3.length c0_3] 30 (h := ?_); intro gb162 hg w5 hbox hb; have BK162 := Aside0.mk (hbox); have GW162 := Aside0.mk ((by rw [hg]; exact (below_size bel) : w.heap.size ≤ gb162)); have GE162 := GW162; replace HB := bst hb; clear hb hbox hg; obtain ⟨C6_0, C6_1, C6_2, C6_3, -⟩ := cells_4 BK162.out trivial; obtain ⟨F6_0, F6_1, F6_2, F6_3, -⟩ := frz_4 BK162.out) | ((with_reducible refine gate_dst (N := 12) rfl ?_); refine virtual_concat2.c2_ 12 13 Try.func110 (.slice A1 l1.length c1) (.slice A0_0 l0_0.length c0_0) 22 (h := ?_); (with_reducible refine (virtual_concat2.calls k _ _ l1 _ _ l0_0 t163 _ ?side1 ?side2 ?side3 ?side4 A3.out).mono ?_); (case side1 => exact kcb); (case side2 => exact HC1.out); (case side3 => exact kcb); (case side4 => exact HC0_0.out); rintro e w7 ⟨v164, rfl, ho0, hb⟩; refine ⟨_, rfl, ?_⟩; have HO165 := Aside0.mk (Kd.R_lower (Kd.R_mono (ok' := fun k_ => (w.heap.size ≤ k_) ∧ k_ ≠ gb162) ho0 (fun k_ hk_ => ⟨(Nat.le_trans (below_size bel) hk_), (Kd.freshB (g := gb162) (o := .cells #[.slice A0_0 l0_0.length c0_0, .bool a0_1, .int .i64 a0_2, .slice A0_3 l0_3.length c0_3] 30 (0, 0)) (bkp BK162) k_ hk_)⟩)) (below_size bel)); replace BK162 := Aside0.mk (blb BK162 hb); replace HB := bst hb; (try clear hb); (try clear hb2); (try clear hk); (try clear hi); (try clear ho0); obtain ⟨C8_0, C8_1, C8_2, C8_3, -⟩ := cells_4 BK162.out trivial; obtain ⟨F8_0, F8_1, F8_2, F8_3, -⟩ := frz_4 BK162.out))
 (try simp only [Act.put, List.setIfInBounds_toArray, List.set_cons_zero, List.set_cons_succ])
 go_cut [6] (fun v6 wc => ∃ (kq : Nat) (x6_3 : List (S84)), Aside0 (impl_Tree_entries.j0 kq t163 x6_3 l0_0 a0_1 a0_2 l0_3 = some r) ∧ Aside0 (kq ≤ k) ∧ Aside0 (Kd.R (Kd.int .u8) 5 wc w.heap.size (fun k_ => (w.heap.size ≤ k_) ∧ some k_ ≠ (v6 : Value).ownBlock ∧ k_ ≠ gb162) v164 t163) ∧ Aside0 (Kd.S k84 84 wc w.heap.size (fun k_ => (w.heap.size ≤ k_) ∧ k_ ≠ gb162) v6 x6_3) ∧ Aside0 (wc.heap[gb162]? = some (.cells #[(.slice A0_0 l0_0.length c0_0), .bool a0_1, .int .i64 a0_2, (.slice A0_3 l0_3.length c0_3)] 30 (0, 0))) ∧ Aside0 (Below w.heap.size w wc))
 case first =>
  have H := HC4.out
  clear HC4
  by_cases c9 : a0_1 = true
  ·subst c9
   have H1 : (if ([] : List (S84)).length < 4398046511104 then (impl_Tree_entries.j0 k t163 (([] : List (S84)) ++ [(⟨t163, a0_2⟩ : S84)]) l0_0 true a0_2 l0_3) else (none)) = some r := by rw [if_pos rfl] at H; exact H
   clear H
   have H := H1
   clear H1
   by_cases c10 : ([] : List (S84)).length < 4398046511104
   ·rw [if_pos c10] at H
    have LMc10 := Aside0.mk c10
    clear c10
    obtain ⟨y166, hy166⟩ : ∃ y_ : List (S84), y_ = (([] : List (S84)) ++ [(⟨t163, a0_2⟩ : S84)]) := ⟨_, rfl⟩
    replace H : (impl_Tree_entries.j0 k t163 y166 l0_0 true a0_2 l0_3) = some r := by first | (rw [hy166]; with_reducible exact H) | (have H2_ := (Option.bind_some _ _).symm.trans H; rw [hy166]; with_reducible exact H2_) | (have H2_ := (Option.bind_some _ _).symm.trans H; with_reducible exact H2_) | with_reducible exact H | (rw [hy166]; exact H) | exact H
    have Ny166 := Aside0.mk hy166
    clear hy166
    have H' := Aside0.mk H
    clear H
    obtain ⟨C11_0, C11_1, C11_2, C11_3, -⟩ := cells_4 BK162.out trivial
    obtain ⟨F11_0, F11_1, F11_2, F11_3, -⟩ := frz_4 BK162.out
    obtain ⟨Ao12, co12, eo12⟩ := Kd.R_slice HO165.out
    subst eo12
    go_wp2_with (first | ((with_reducible refine gate_builtin (b := .append) (xs := #[.tmp 16, .tmp 21]) rfl ?_); at_builtin; refine Kd.S_append k84 (w0 := w) w.heap.size rfl (.tmp 16) (.tmp 21) 80 84 (.agg #[(.slice none 0 0), (.int .i64 0)]) 32 rfl Try.underlying80 info84 rfl (by decide) (by omega) (.slice none 0 0) ([] : List (S84)) (⟨t163, a0_2⟩ : S84) [.slice Ao12 t163.length co12, .int .i64 a0_2] (fun k_ => (w.heap.size ≤ k_) ∧ k_ ≠ gb162) (fun k_ => ((fun k_ => (w.heap.size ≤ k_) ∧ k_ ≠ gb162)) k_ ∧ some k_ ≠ (.slice none 0 0 : Value).ownBlock) rfl rfl ?aP (fun _ hk => hk) ?aF ?aO ?aB ?aS ?aL ?_; (case aP => exact (k84_mkM _ _ _ (⟨t163, a0_2⟩ : S84) (Kd.R_mono (ok' := (fun k_ => ((fun k_ => (w.heap.size ≤ k_) ∧ k_ ≠ gb162)) k_ ∧ some k_ ≠ (.slice none 0 0 : Value).ownBlock)) (HO165.out) (fun k_ hk => ⟨⟨hk.1, hk.2⟩, (by simp [Value.ownBlock])⟩)))); (case aB => exact bel); (case aF => exact (fun k_ hk => ⟨(Nat.le_trans (below_size bel) hk), Kd.freshB (g := gb162) (o := .cells #[.slice A0_0 l0_0.length c0_0, .bool true, .int .i64 a0_2, .slice A0_3 l0_3.length c0_3] 30 (0, 0)) (bkp BK162) k_ hk⟩)); (case aO => exact Kd.S_nil _ _ _ _ _); (case aS => exact (below_size bel)); (case aL => have := LMc10.out; omega); intro v167 w13 ho hb hg hat; rw [← Ny166.out] at ho; have HO168 := Aside0.mk (ho); replace BK162 := Aside0.mk (blk_grown (g := gb162) (o := .cells #[.slice A0_0 l0_0.length c0_0, .bool true, .int .i64 a0_2, .slice A0_3 l0_3.length c0_3] 30 (0, 0)) (bkp BK162) hg (by simp [Value.ownBlock])); replace HO165 := Aside0.mk (Kd.R_after (Kd.R_apart_nil (rkp HO165)) hg hat); replace HB := Aside0.mk (hb); clear ho hb hg hat))
    go_meet
    case rel => exact ⟨_, (y166), H', ⟨by first | omega | exact Nat.le_refl _⟩, ⟨by (with_reducible repeat (first | apply Kd.R_alloc | apply Kd.R_drewN | apply Kd.R_drew | apply Kd.S_alloc | apply Kd.S_drewN | apply Kd.S_drew)); exact Kd.R_mono HO165.out (fun _ hk => ⟨hk.1.1, ⟨hk.2, hk.1.2⟩⟩)⟩, ⟨skp HO168⟩, ⟨bkp BK162⟩, ⟨bel⟩⟩
   rw [if_neg c10] at H
   exact absurd H (by simp)
  replace c9 := Bool.eq_false_iff.mpr c9
  subst c9
  have H1 : (impl_Tree_entries.j0 k t163 ([] : List (S84)) l0_0 false a0_2 l0_3) = some r := by rw [if_neg (show ¬ (false = true) by decide)] at H; exact H
  clear H
  have H := H1
  clear H1
  have H' := Aside0.mk H
  clear H
  go_wp2
  go_meet
  case rel => exact ⟨_, (([] : List (S84))), H', ⟨by first | omega | exact Nat.le_refl _⟩, ⟨by (with_reducible repeat (first | apply Kd.R_alloc | apply Kd.R_drewN | apply Kd.R_drew | apply Kd.S_alloc | apply Kd.S_drewN | apply Kd.S_drew)); exact Kd.R_mono HO165.out (fun _ hk => ⟨hk.1, ⟨(by simp [Value.ownBlock]), hk.2⟩⟩)⟩, ⟨by first | exact Kd.S_nil _ _ _ _ _ | exact Kd.R_nil _ _ _ _ _ | exact Kd.R_nil _ _ _ _ _ | exact Kd.Q_nil _ _ _ _ _ | exact Kd.R_nil _ _ _ _ _⟩, ⟨bkp BK162⟩, ⟨bel⟩⟩
 case rest =>
  clear HC4
  try clear c1; try clear p2; try clear c6; try clear c9; try clear c10; try clear C11_0 C11_1 C11_2 C11_3; try clear C6_0 C6_1 C6_2 C6_3; try clear C8_0 C8_1 C8_2 C8_3; try clear F11_0 F11_1 F11_2 F11_3; try clear F6_0 F6_1 F6_2 F6_3; try clear F8_0 F8_1 F8_2 F8_3
  obtain ⟨kq, x6_3, HA, HJ3, HO_5, HO_6, BK162, HB⟩ := hcut
  cases kq with
  | zero => exact absurd HA.out (by simp [impl_Tree_entries.j0])
  | succ kj3 =>
   have H := HA.out
   clear HA
   simp only [impl_Tree_entries.j0] at H
   have H' := Aside0.mk H
   clear H
   obtain ⟨C14_0, C14_1, C14_2, C14_3, -⟩ := cells_4 BK162.out trivial
   obtain ⟨F14_0, F14_1, F14_2, F14_3, -⟩ := frz_4 BK162.out
   go_wp2
   go_loopg [6, 26] kj3 (fun kq v6 v26 w' => ∃ (x6_2 : List (S84)) (x26_2 : Int), v26 = .int .i64 x26_2 ∧ Aside0 (impl_Tree_entries.l0 kq t163 x6_2 l0_3 (l0_3.length : Int) x26_2 = some r) ∧ Aside0 (kq ≤ kj3) ∧ Aside0 (Kd.R (Kd.int .u8) 5 w' w.heap.size (fun k_ => (w.heap.size ≤ k_) ∧ some k_ ≠ (v6 : Value).ownBlock ∧ k_ ≠ gb162) v164 t163) ∧ Aside0 (Kd.S k84 84 w' w.heap.size (fun k_ => (w.heap.size ≤ k_) ∧ k_ ≠ gb162) v6 x6_2) ∧ Aside0 (w'.heap[gb162]? = some (.cells #[(.slice A0_0 l0_0.length c0_0), .bool a0_1, .int .i64 a0_2, (.slice A0_3 l0_3.length c0_3)] 30 (0, 0))) ∧ Aside0 (Below w.heap.size w w'))
   case atStart => exact ⟨(x6_3), (0), rs_, H', ⟨Nat.le_refl _⟩, ⟨rkp HO_5⟩, ⟨skp HO_6⟩, ⟨bkp BK162⟩, ⟨bel⟩⟩
   case round =>
    clear H'
    try clear c1; try clear p2; try clear c6; try clear c9; try clear c10; try clear C11_0 C11_1 C11_2 C11_3; try clear C14_0 C14_1 C14_2 C14_3; try clear C6_0 C6_1 C6_2 C6_3; try clear C8_0 C8_1 C8_2 C8_3; try clear F11_0 F11_1 F11_2 F11_3; try clear F14_0 F14_1 F14_2 F14_3; try clear F6_0 F6_1 F6_2 F6_3; try clear F8_0 F8_1 F8_2 F8_3; try clear p2
    obtain ⟨x6_2, x26_2, rfl, HA, HK2, HO_5, HO_6, BK162, HB⟩ := hrel
    cases gk with
    | zero => exact absurd HA.out (by simp [impl_Tree_entries.l0])
    | succ k2 =>
     have H := HA.out
     clear HA
     simp only [impl_Tree_entries.l0] at H
     by_cases c15 : x26_2 < (l0_3.length : Int)
     ·rw [if_pos c15] at H
      have c15b0 : decide (x26_2 < (l0_3.length : Int)) = true := decide_eq_true c15
      clear c15
      by_cases c16 : 0 ≤ x26_2
      ·rw [if_pos c16] at H
       have c16b0 : decide (0 ≤ x26_2) = true := decide_eq_true c16
       clear c16
       by_cases c17 : x26_2 < (l0_3.length : Int)
       ·rw [if_pos c17] at H
        have c17b0 : decide (x26_2 < (l0_3.length : Int)) = true := decide_eq_true c17
        clear c17
        replace H := Option.bind_eq_some_iff.mp H
        obtain ⟨t171, A180, H⟩ := H
        replace H : (if x6_2.length + t171.length < 4398046511104 then (impl_Tree_entries.l0 k2 t163 (x6_2 ++ t171) l0_3 (l0_3.length : Int) (wrap64 (x26_2 + 1))) else (none)) = some r := H
        have A18 := Aside0.mk A180
        clear A180
        by_cases c19 : x6_2.length + t171.length < 4398046511104
        ·rw [if_pos c19] at H
         have LMc19 := Aside0.mk c19
         clear c19
         obtain ⟨y174, hy174⟩ : ∃ y_ : List (S84), y_ = (x6_2 ++ t171) := ⟨_, rfl⟩
         replace H : (impl_Tree_entries.l0 k2 t163 y174 l0_3 (l0_3.length : Int) (wrap64 (x26_2 + 1))) = some r := by first | (rw [hy174]; with_reducible exact H) | (have H2_ := (Option.bind_some _ _).symm.trans H; rw [hy174]; with_reducible exact H2_) | (have H2_ := (Option.bind_some _ _).symm.trans H; with_reducible exact H2_) | with_reducible exact H | (rw [hy174]; exact H) | exact H
         have Ny174 := Aside0.mk hy174
         clear hy174
         have H' := Aside0.mk H
         clear H
         have p169 : 0 ≤ (x26_2 : Int) := od
         have q169 : x26_2 < (l0_3.length : Int) := od
         obtain ⟨ad169, A169_0, c169_0, A169_3, c169_3, e169, hx169_0, hx169_1, hx169_2, hx169_3, hl169_0, hi169_0, hl169_3, hi169_3⟩ := at_T30 HR0_3.out x26_2 p169 q169
         cases e169
         replace hx169_0 := hxb HB hx169_0
         replace hx169_1 := hxb HB hx169_1
         replace hx169_2 := hxb HB hx169_2
         replace hx169_3 := hxb HB hx169_3
         have HR169_0 := Aside0.mk hi169_0
         have HC169_0 := Aside0.mk hl169_0
         clear hi169_0 hl169_0
         have HR169_3 := Aside0.mk hi169_3
         have HC169_3 := Aside0.mk hl169_3
         clear hi169_3 hl169_3
         replace p169 := eq_true p169
         replace q169 := eq_true q169
         go_wp2_with (first | ((with_reducible refine gate_dst (N := 8) rfl ?_); refine bx_ 8 #[.slice none 0 0, .bool false, .int .i64 0, .slice none 0 0] 30 (h := ?_); intro gb170 hg w20 hbox hb; have BK170 := Aside0.mk (hbox); have GW170 := Aside0.mk ((by rw [hg]; exact (below_size bel) : w.heap.size ≤ gb170)); have GE170 := GW170; have NB162_170 := Aside0.mk ((by rw [hg]; exact Nat.ne_of_lt (blt BK162) : gb162 ≠ gb170)); have NB170_162 := Aside0.mk NB162_170.out.symm; replace HO_5 := Aside0.mk (Kd.R_below (Kd.R_elderB (rkp HO_5) gb170 (Nat.le_of_eq hg.symm)) hb); replace HO_6 := Aside0.mk (Kd.S_below (Kd.S_elderB (skp HO_6) gb170 (Nat.le_of_eq hg.symm)) hb); replace BK162 := Aside0.mk (blb BK162 hb); replace HB := bst hb; clear hb hbox hg; have hnb21 := NB170_162.out; have hnc21 := NB162_170.out; obtain ⟨C22_0, C22_1, C22_2, C22_3, -⟩ := cells_4 BK170.out trivial; obtain ⟨F22_0, F22_1, F22_2, F22_3, -⟩ := frz_4 BK170.out; obtain ⟨Ao23, co23, eo23⟩ := Kd.R_slice HO_5.out; subst eo23) | ((with_reducible refine gate_callee (f := 65) rfl ?_); refine gl_ (some 33) Try.func65 #[.agg #[.slice A169_0 ((rd_T30 l0_3 x26_2).f0).length c169_0, .bool ((rd_T30 l0_3 x26_2).f1), .int .i64 ((rd_T30 l0_3 x26_2).f2), .slice A169_3 ((rd_T30 l0_3 x26_2).f3).length c169_3], .slice Ao23 t163.length co23] (h := ?_); (with_reducible refine (ih k2 (by have := HJ3.out; have := HK2.out; omega) _ _ ((rd_T30 l0_3 x26_2).f0) ((rd_T30 l0_3 x26_2).f1) ((rd_T30 l0_3 x26_2).f2) _ _ ((rd_T30 l0_3 x26_2).f3) _ _ t163 t171 _ ?side1 ?side2 ?side3 ?side4 ?side5 ?side6 A18.out).mono ?_); (case side1 => exact Kd.C_below HR169_0.out bel); (case side2 => exact HC169_0.out); (case side3 => exact Kd.C_below HR169_3.out bel); (case side4 => exact HC169_3.out); (case side5 => refine (Kd.R_reads' (e := 5) (base := w.heap.size) (ok := fun k_ => (((w.heap.size ≤ k_) ∧ (some k_ ≠ (u6 : Value).ownBlock ∧ k_ ≠ gb162)) ∧ k_ ≠ gb170)) (n := t163.length) (c := co23) ?_).2.2; exact (by (with_reducible repeat (first | apply Kd.R_alloc | apply Kd.R_drewN | apply Kd.R_drew | apply Kd.S_alloc | apply Kd.S_drewN | apply Kd.S_drew)); exact (Kd.R_mono (Kd.R_far (p := ⟨gb170, 3, none⟩) (Kd.R_far (p := ⟨gb170, 2, none⟩) (Kd.R_far (p := ⟨gb170, 1, none⟩) (Kd.R_far (p := ⟨gb170, 0, none⟩) (Kd.R_mono HO_5.out (fun k_ hk => (⟨hk, hk.2⟩ : _ ∧ k_ ≠ gb170))) (fun _ hk => hk.2) (.slice A169_0 ((rd_T30 l0_3 x26_2).f0).length c169_0)) (fun _ hk => hk.2) (.bool ((rd_T30 l0_3 x26_2).f1))) (fun _ hk => hk.2) (.int .i64 ((rd_T30 l0_3 x26_2).f2))) (fun _ hk => hk.2) (.slice A169_3 ((rd_T30 l0_3 x26_2).f3).length c169_3)) (fun _ h_ => h_.1)))); (case side6 => exact (Kd.R_reads' HO_5.out).2.1); rintro e w24 ⟨v172, rfl, ho0, hb⟩; refine ⟨_, rfl, ?_⟩; obtain ⟨N0, hN0⟩ := Kd.sizeOf_ hb; have HO173 := Aside0.mk (Kd.S_lower (Kd.S_mono (ok' := fun k_ => (w.heap.size ≤ k_) ∧ some k_ ≠ (u6 : Value).ownBlock ∧ k_ ≠ gb162 ∧ k_ ≠ gb170 ∧ N0 ≤ k_) ho0 (fun k_ hk_ => ⟨(Nat.le_trans (below_size bel) hk_), (Kd.fresh' (Kd.S_lt (by (with_reducible repeat (first | apply Kd.R_alloc | apply Kd.R_drewN | apply Kd.R_drew | apply Kd.S_alloc | apply Kd.S_drewN | apply Kd.S_drew)); exact (Kd.S_mono (Kd.S_far (p := ⟨gb170, 3, none⟩) (Kd.S_far (p := ⟨gb170, 2, none⟩) (Kd.S_far (p := ⟨gb170, 1, none⟩) (Kd.S_far (p := ⟨gb170, 0, none⟩) (Kd.S_mono HO_6.out (fun k_ hk => (⟨hk, hk.2⟩ : _ ∧ k_ ≠ gb170))) (fun _ hk => hk.2) (.slice A169_0 ((rd_T30 l0_3 x26_2).f0).length c169_0)) (fun _ hk => hk.2) (.bool ((rd_T30 l0_3 x26_2).f1))) (fun _ hk => hk.2) (.int .i64 ((rd_T30 l0_3 x26_2).f2))) (fun _ hk => hk.2) (.slice A169_3 ((rd_T30 l0_3 x26_2).f3).length c169_3)) (fun _ h_ => h_.1)))) k_ hk_), (Kd.freshB (g := gb162) (o := .cells #[.slice A0_0 l0_0.length c0_0, .bool a0_1, .int .i64 a0_2, .slice (some ad169) l0_3.length c0_3] 30 (0, 0)) (by (with_reducible repeat (first | refine blk_drewN ?_ _ | refine blk_drew ?_ | refine blk_alloc ?_ _)); refine blk_far ?_ NB162_170.out _; (with_reducible repeat (first | refine blk_drewN ?_ _ | refine blk_drew ?_ | refine blk_alloc ?_ _)); refine blk_far ?_ NB162_170.out _; (with_reducible repeat (first | refine blk_drewN ?_ _ | refine blk_drew ?_ | refine blk_alloc ?_ _)); refine blk_far ?_ NB162_170.out _; (with_reducible repeat (first | refine blk_drewN ?_ _ | refine blk_drew ?_ | refine blk_alloc ?_ _)); refine blk_far ?_ NB162_170.out _; (with_reducible repeat (first | refine blk_drewN ?_ _ | refine blk_drew ?_ | refine blk_alloc ?_ _)); exact BK162.out) k_ hk_), (Kd.freshB (g := gb170) (o := .cells #[.slice A169_0 ((rd_T30 l0_3 x26_2).f0).length c169_0, .bool ((rd_T30 l0_3 x26_2).f1), .int .i64 ((rd_T30 l0_3 x26_2).f2), .slice A169_3 ((rd_T30 l0_3 x26_2).f3).length c169_3] 30 (0, 0)) (by (with_reducible repeat (first | refine blk_drewN ?_ _ | refine blk_drew ?_ | refine blk_alloc ?_ _)); refine blk_put (cs := #[.slice A169_0 ((rd_T30 l0_3 x26_2).f0).length c169_0, .bool ((rd_T30 l0_3 x26_2).f1), .int .i64 ((rd_T30 l0_3 x26_2).f2), .slice none 0 0]) ?_ 3 _ rfl; (with_reducible repeat (first | refine blk_drewN ?_ _ | refine blk_drew ?_ | refine blk_alloc ?_ _)); refine blk_put (cs := #[.slice A169_0 ((rd_T30 l0_3 x26_2).f0).length c169_0, .bool ((rd_T30 l0_3 x26_2).f1), .int .i64 0, .slice none 0 0]) ?_ 2 _ rfl; (with_reducible repeat (first | refine blk_drewN ?_ _ | refine blk_drew ?_ | refine blk_alloc ?_ _)); refine blk_put (cs := #[.slice A169_0 ((rd_T30 l0_3 x26_2).f0).length c169_0, .bool false, .int .i64 0, .slice none 0 0]) ?_ 1 _ rfl; (with_reducible repeat (first | refine blk_drewN ?_ _ | refine blk_drew ?_ | refine blk_alloc ?_ _)); refine blk_put (cs := #[.slice none 0 0, .bool false, .int .i64 0, .slice none 0 0]) ?_ 0 _ rfl; (with_reducible repeat (first | refine blk_drewN ?_ _ | refine blk_drew ?_ | refine blk_alloc ?_ _)); exact BK170.out) k_ hk_), Nat.le_trans (Nat.le_of_eq hN0) hk_⟩)) (below_size bel)); replace HO_5 := Aside0.mk (Kd.R_elder' (by (with_reducible repeat (first | apply Kd.R_alloc | apply Kd.R_drewN | apply Kd.R_drew | apply Kd.S_alloc | apply Kd.S_drewN | apply Kd.S_drew)); exact (Kd.R_mono (Kd.R_far (p := ⟨gb170, 3, none⟩) (Kd.R_far (p := ⟨gb170, 2, none⟩) (Kd.R_far (p := ⟨gb170, 1, none⟩) (Kd.R_far (p := ⟨gb170, 0, none⟩) (Kd.R_mono HO_5.out (fun k_ hk => (⟨hk, hk.2⟩ : _ ∧ k_ ≠ gb170))) (fun _ hk => hk.2) (.slice A169_0 ((rd_T30 l0_3 x26_2).f0).length c169_0)) (fun _ hk => hk.2) (.bool ((rd_T30 l0_3 x26_2).f1))) (fun _ hk => hk.2) (.int .i64 ((rd_T30 l0_3 x26_2).f2))) (fun _ hk => hk.2) (.slice A169_3 ((rd_T30 l0_3 x26_2).f3).length c169_3)) (fun _ h_ => h_.1))) (Kd.S_base ho0) hb); replace HO_6 := Aside0.mk (Kd.S_elderN (by (with_reducible repeat (first | apply Kd.R_alloc | apply Kd.R_drewN | apply Kd.R_drew | apply Kd.S_alloc | apply Kd.S_drewN | apply Kd.S_drew)); exact (Kd.S_mono (Kd.S_far (p := ⟨gb170, 3, none⟩) (Kd.S_far (p := ⟨gb170, 2, none⟩) (Kd.S_far (p := ⟨gb170, 1, none⟩) (Kd.S_far (p := ⟨gb170, 0, none⟩) (Kd.S_mono HO_6.out (fun k_ hk => (⟨hk, hk.2⟩ : _ ∧ k_ ≠ gb170))) (fun _ hk => hk.2) (.slice A169_0 ((rd_T30 l0_3 x26_2).f0).length c169_0)) (fun _ hk => hk.2) (.bool ((rd_T30 l0_3 x26_2).f1))) (fun _ hk => hk.2) (.int .i64 ((rd_T30 l0_3 x26_2).f2))) (fun _ hk => hk.2) (.slice A169_3 ((rd_T30 l0_3 x26_2).f3).length c169_3)) (fun _ h_ => h_.1))) (Kd.S_base ho0) hb hN0); replace BK162 := Aside0.mk (blk_below (g := gb162) (o := .cells #[.slice A0_0 l0_0.length c0_0, .bool a0_1, .int .i64 a0_2, .slice (some ad169) l0_3.length c0_3] 30 (0, 0)) (by (with_reducible repeat (first | refine blk_drewN ?_ _ | refine blk_drew ?_ | refine blk_alloc ?_ _)); refine blk_far ?_ NB162_170.out _; (with_reducible repeat (first | refine blk_drewN ?_ _ | refine blk_drew ?_ | refine blk_alloc ?_ _)); refine blk_far ?_ NB162_170.out _; (with_reducible repeat (first | refine blk_drewN ?_ _ | refine blk_drew ?_ | refine blk_alloc ?_ _)); refine blk_far ?_ NB162_170.out _; (with_reducible repeat (first | refine blk_drewN ?_ _ | refine blk_drew ?_ | refine blk_alloc ?_ _)); refine blk_far ?_ NB162_170.out _; (with_reducible repeat (first | refine blk_drewN ?_ _ | refine blk_drew ?_ | refine blk_alloc ?_ _)); exact BK162.out) hb); replace BK170 := Aside0.mk (blk_below (g := gb170) (o := .cells #[.slice A169_0 ((rd_T30 l0_3 x26_2).f0).length c169_0, .bool ((rd_T30 l0_3 x26_2).f1), .int .i64 ((rd_T30 l0_3 x26_2).f2), .slice A169_3 ((rd_T30 l0_3 x26_2).f3).length c169_3] 30 (0, 0)) (by (with_reducible repeat (first | refine blk_drewN ?_ _ | refine blk_drew ?_ | refine blk_alloc ?_ _)); refine blk_put (cs := #[.slice A169_0 ((rd_T30 l0_3 x26_2).f0).length c169_0, .bool ((rd_T30 l0_3 x26_2).f1), .int .i64 ((rd_T30 l0_3 x26_2).f2), .slice none 0 0]) ?_ 3 _ rfl; (with_reducible repeat (first | refine blk_drewN ?_ _ | refine blk_drew ?_ | refine blk_alloc ?_ _)); refine blk_put (cs := #[.slice A169_0 ((rd_T30 l0_3 x26_2).f0).length c169_0, .bool ((rd_T30 l0_3 x26_2).f1), .int .i64 0, .slice none 0 0]) ?_ 2 _ rfl; (with_reducible repeat (first | refine blk_drewN ?_ _ | refine blk_drew ?_ | refine blk_alloc ?_ _)); refine blk_put (cs := #[.slice A169_0 ((rd_T30 l0_3 x26_2).f0).length c169_0, .bool false, .int .i64 0, .slice none 0 0]) ?_ 1 _ rfl; (with_reducible repeat (first | refine blk_drewN ?_ _ | refine blk_drew ?_ | refine blk_alloc ?_ _)); refine blk_put (cs := #[.slice none 0 0, .bool false, .int .i64 0, .slice none 0 0]) ?_ 0 _ rfl; (with_reducible repeat (first | refine blk_drewN ?_ _ | refine blk_drew ?_ | refine blk_alloc ?_ _)); exact BK170.out) hb); replace HB := bst hb; (try clear hb); (try clear hb2); (try clear hk); (try clear hi); (try clear ho0); obtain ⟨Ao26, co26, eo26⟩ := Kd.S_slice HO173.out; subst eo26) | ((with_reducible refine gate_builtin (b := .append) (xs := #[.tmp 30, .tmp 33]) rfl ?_); at_builtin; refine Kd.S_append_rowsO k84 (w0 := w) w.heap.size rfl (.tmp 30) (.tmp 33) 80 84 (.agg #[(.slice none 0 0), (.int .i64 0)]) 32 rfl Try.underlying80 info84 rfl (by decide) (by omega) u6 x6_2 t171 _ _ _ (fun k_ => (w.heap.size ≤ k_) ∧ k_ ≠ gb162 ∧ k_ ≠ gb170) (fun k_ => ((fun k_ => (w.heap.size ≤ k_) ∧ k_ ≠ gb162 ∧ k_ ≠ gb170) k_ ∧ some k_ ≠ (u6 : Value).ownBlock) ∧ N0 ≤ k_) rfl rfl ?aO ?aR (fun _ hk => hk.1) ?aF ?aB ?aS ?aL ?_; (case aR => exact Kd.S_mono (HO173.out) (fun k_ hk => ⟨⟨⟨hk.1, hk.2.2.1, hk.2.2.2.1⟩, hk.2.1⟩, hk.2.2.2.2⟩)); (case aB => exact bel); (case aF => exact (fun k_ hk => ⟨(Nat.le_trans (below_size bel) hk), Kd.freshB (g := gb162) (o := .cells #[.slice A0_0 l0_0.length c0_0, .bool a0_1, .int .i64 a0_2, .slice (some ad169) l0_3.length c0_3] 30 (0, 0)) (bkp BK162) k_ hk, Kd.freshB (g := gb170) (o := .cells #[.slice A169_0 ((rd_T30 l0_3 x26_2).f0).length c169_0, .bool ((rd_T30 l0_3 x26_2).f1), .int .i64 ((rd_T30 l0_3 x26_2).f2), .slice A169_3 ((rd_T30 l0_3 x26_2).f3).length c169_3] 30 (0, 0)) (bkp BK170) k_ hk⟩)); (case aO => exact Kd.S_mono (skp HO_6) (fun _ hk => ⟨⟨hk.1.1.1.1, hk.1.1.1.2, hk.1.1.2⟩, fun h_ => Nat.lt_irrefl _ (Nat.lt_of_lt_of_le hk.2 h_.2)⟩)); (case aS => exact (below_size bel)); (case aL => have := LMc19.out; omega); intro v175 w25 ho hb hg hat; rw [← Ny174.out] at ho; have n0_ := Aside0.mk (Kd.R_after (ok := (fun k_ => (w.heap.size ≤ k_) ∧ some k_ ≠ (.slice Ao26 t171.length co26 : Value).ownBlock ∧ k_ ≠ gb162 ∧ k_ ≠ gb170)) (by (with_reducible repeat (first | apply Kd.R_alloc | apply Kd.R_drewN | apply Kd.R_drew | apply Kd.S_alloc | apply Kd.S_drewN | apply Kd.S_drew)); exact Kd.R_mono HO_5.out (fun _ hk => ⟨⟨hk.1.1.1, ⟨hk.2, ⟨hk.1.1.2.2, hk.1.2⟩⟩⟩, hk.1.1.2.1⟩)) hg hat); have n1_ := Aside0.mk (blk_grown (g := gb162) (o := .cells #[.slice A0_0 l0_0.length c0_0, .bool a0_1, .int .i64 a0_2, .slice (some ad169) l0_3.length c0_3] 30 (0, 0)) (bkp BK162) hg (Kd.S_ne HO_6.out BK162.out (by decide))); have n2_ := Aside0.mk (blk_grown (g := gb170) (o := .cells #[.slice A169_0 ((rd_T30 l0_3 x26_2).f0).length c169_0, .bool ((rd_T30 l0_3 x26_2).f1), .int .i64 ((rd_T30 l0_3 x26_2).f2), .slice A169_3 ((rd_T30 l0_3 x26_2).f3).length c169_3] 30 (0, 0)) (bkp BK170) hg (Kd.S_ne HO_6.out BK170.out (by decide))); have n3_ := Aside0.mk (Kd.S_after (ok := (fun k_ => (w.heap.size ≤ k_) ∧ k_ ≠ gb162 ∧ k_ ≠ gb170)) (by (with_reducible repeat (first | apply Kd.R_alloc | apply Kd.R_drewN | apply Kd.R_drew | apply Kd.S_alloc | apply Kd.S_drewN | apply Kd.S_drew)); exact Kd.S_mono HO173.out (fun _ hk => ⟨⟨hk.1, ⟨hk.2.2.1, hk.2.2.2.1⟩⟩, hk.2.1⟩)) hg hat); have n4_ := Aside0.mk (hb); have n5_ := Aside0.mk (ho); clear HO_5; clear BK162; clear BK170; clear HO173; clear HB; clear HO_6; have HO_5 := n0_; have BK162 := n1_; have BK170 := n2_; have HO173 := n3_; have HB := n4_; have HO176 := n5_; clear n0_ n1_ n2_ n3_ n4_ n5_; clear ho hb hg hat))
         go_roundg k2
         case measure => have := HJ3.out; have := HK2.out; omega
         case rel => exact ⟨(y174), (wrap64 (x26_2 + 1)), rs_, H', ⟨by have := HJ3.out; have := HK2.out; omega⟩, ⟨by (with_reducible repeat (first | apply Kd.R_alloc | apply Kd.R_drewN | apply Kd.R_drew | apply Kd.S_alloc | apply Kd.S_drewN | apply Kd.S_drew)); exact Kd.R_mono HO_5.out (fun _ hk => ⟨hk.1.1, ⟨hk.2, hk.1.2.2.1⟩⟩)⟩, ⟨by (with_reducible repeat (first | apply Kd.R_alloc | apply Kd.R_drewN | apply Kd.R_drew | apply Kd.S_alloc | apply Kd.S_drewN | apply Kd.S_drew)); exact Kd.S_mono HO176.out (fun _ hk => ⟨hk.1, hk.2.1⟩)⟩, ⟨bkp BK162⟩, ⟨bel⟩⟩
        rw [if_neg c19] at H
        exact absurd H (by simp)
       rw [if_neg c17] at H
       exact absurd H (by simp)
      rw [if_neg c16] at H
      exact absurd H (by simp)
     rw [if_neg c15] at H
     have c15b0 : decide (x26_2 < (l0_3.length : Int)) = false := decide_eq_false c15
     clear c15
     obtain rfl := Option.some.inj H
     go_wp2
     go_ret
     exact ⟨_, rz_, by (with_reducible repeat (first | apply Kd.R_alloc | apply Kd.R_drewN | apply Kd.R_drew | apply Kd.S_alloc | apply Kd.S_drewN | apply Kd.S_drew)); exact Kd.S_mono HO_6.out (fun _ hk => hk.1), bel⟩

/-! ### impl_TreeKeys: function 27 -/
def impl_TreeKeys.l0 : Nat → List Int → List (List Int) → List (S84) → Int → Int → Option ((List (List Int)))
 | 0, _, _, _, _, _ => none
 | k + 1, x1, x5, x12, x13, x14 => if x14 < x13 then (if 0 ≤ x14 then (if x14 < (x12.length : Int) then ((impl_HasPrefix.f ((rd_T84 x12 x14).f0) x1).bind fun t184 => (if t184 = true then (if x5.length < 5864062014805 then (impl_TreeKeys.l0 k x1 (x5 ++ [(rd_T84 x12 x14).f0]) x12 x13 (wrap64 (x14 + 1))) else (none)) else (impl_TreeKeys.l0 k x1 x5 x12 x13 (wrap64 (x14 + 1))))) else (none)) else (none)) else (some x5)
def impl_TreeKeys.f (k : Nat) (l0_0 : List Int) (a0_1 : Bool) (a0_2 : Int) (l0_3 : List (S30)) (l1 : List Int) : Option ((List (List Int))) := (impl_TreeOk.f k l0_0 a0_1 a0_2 l0_3).bind fun t178 => (if t178 = true then ((impl_Tree_entries.f k l0_0 a0_1 a0_2 l0_3 ([] : List Int)).bind fun t179 => (impl_TreeKeys.l0 k l1 ([] : List (List Int)) t179 (t179.length : Int) 0)) else (some ([] : List (List Int))))
theorem impl_TreeKeys.oMF84 {w : World} {base : Nat} {ok : Nat → Prop} {x : S84} {cs : List Value} (h : k84.M w base ok x cs) : ∃ A0 c0, cs = [.slice A0 x.f0.length c0, .int .i64 x.f1] ∧ x.f0.length ≤ c0 ∧ (Kd.int .u8).R 5 w base ok (.slice A0 x.f0.length c0) x.f0 := by
 obtain ⟨v0, rfl, h0⟩ := k84_openM h
 obtain ⟨A0, c0, rfl, l0, _⟩ := Kd.R_reads h0
 exact ⟨A0, c0, rfl, l0, h0⟩
set_option maxHeartbeats 8000000 in
set_option maxRecDepth 100000 in
theorem impl_TreeKeys.calls (k : Nat) (A0_0 : Option Addr) (c0_0 : Nat) (l0_0 : List Int) (a0_1 : Bool) (a0_2 : Int) (A0_3 : Option Addr) (c0_3 : Nat) (l0_3 : List (S30)) (A1 : Option Addr) (c1 : Nat) (l1 : List Int) (r : List (List Int)) (w : World) (hr0_0 : Kd.C (Kd.int .u8) w A0_0 l0_0.length l0_0) (hc0_0 : l0_0.length ≤ c0_0) (hr0_3 : Kd.C k30 w A0_3 l0_3.length l0_3) (hc0_3 : l0_3.length ≤ c0_3) (hr1 : Kd.C (Kd.int .u8) w A1 l1.length l1) (hc1 : l1.length ≤ c1) (h : impl_TreeKeys.f k l0_0 a0_1 a0_2 l0_3 l1 = some r) :
  Calls Try.prog 27 #[.agg #[.slice A0_0 l0_0.length c0_0, .bool a0_1, .int .i64 a0_2, .slice A0_3 l0_3.length c0_3], .slice A1 l1.length c1] w fun e w' => ∃ v0_ : Value, e = .returned (v0_) ∧ Kd.S (Kd.slice 5 (Kd.int .u8)) 22 w' w.heap.size (fun k_ => (w.heap.size ≤ k_)) v0_ r ∧ Below w.heap.size w w' := by
 have hu30 := Try.underlying30
 have hu84 := Try.underlying84
 have HR0_0 := Aside0.mk hr0_0
 have HC0_0 := Aside0.mk hc0_0
 clear hr0_0 hc0_0
 have HR0_3 := Aside0.mk hr0_3
 have HC0_3 := Aside0.mk hc0_3
 clear hr0_3 hc0_3
 have HR1 := Aside0.mk hr1
 have HC1 := Aside0.mk hc1
 clear hr1 hc1
 have HB := Aside0.mk (Below.refl w.heap.size w)
 have H : ((impl_TreeOk.f k l0_0 a0_1 a0_2 l0_3).bind fun t178 => (if t178 = true then ((impl_Tree_entries.f k l0_0 a0_1 a0_2 l0_3 ([] : List Int)).bind fun t179 => (impl_TreeKeys.l0 k l1 ([] : List (List Int)) t179 (t179.length : Int) 0)) else (some ([] : List (List Int))))) = some r := h
 clear h
 replace H := Option.bind_eq_some_iff.mp H
 obtain ⟨t178, A30, H⟩ := H
 replace H : (if t178 = true then ((impl_Tree_entries.f k l0_0 a0_1 a0_2 l0_3 ([] : List Int)).bind fun t179 => (impl_TreeKeys.l0 k l1 ([] : List (List Int)) t179 (t179.length : Int) 0)) else (some ([] : List (List Int)))) = some r := H
 have A3 := Aside0.mk A30
 clear A30
 by_cases c4 : t178 = true
 ·subst c4
  have H1 : ((impl_Tree_entries.f k l0_0 a0_1 a0_2 l0_3 ([] : List Int)).bind fun t179 => (impl_TreeKeys.l0 k l1 ([] : List (List Int)) t179 (t179.length : Int) 0)) = some r := by rw [if_pos rfl] at H; exact H
  clear H
  have H := H1
  clear H1
  replace H := Option.bind_eq_some_iff.mp H
  obtain ⟨t179, A50, H⟩ := H
  replace H : (impl_TreeKeys.l0 k l1 ([] : List (List Int)) t179 (t179.length : Int) 0) = some r := H
  have A5 := Aside0.mk A50
  clear A50
  have H' := Aside0.mk H
  clear H
  go_enter Try.func27, Try.ntmps27
  go_wp2_with (first | ((with_reducible refine gate_dst (N := 2) rfl ?_); refine bx_ 2 #[.slice A0_0 l0_0.length c0_0, .bool a0_1, .int .i64 a0_2, .slice A0_3 l0_3.length c0_3] 30 (h := ?_); intro gb177 hg w6 hbox hb; have BK177 := Aside0.mk (hbox); have GW177 := Aside0.mk ((by rw [hg]; exact (below_size bel) : w.heap.size ≤ gb177)); have GE177 := GW177; replace HB := bst hb; clear hb hbox hg; obtain ⟨C7_0, C7_1, C7_2, C7_3, -⟩ := cells_4 BK177.out trivial; obtain ⟨F7_0, F7_1, F7_2, F7_3, -⟩ := frz_4 BK177.out) | ((with_reducible refine gate_callee (f := 18) rfl ?_); refine gl_ (some 9) Try.func18 #[.agg #[.slice A0_0 l0_0.length c0_0, .bool a0_1, .int .i64 a0_2, .slice A0_3 l0_3.length c0_3]] (h := ?_); (with_reducible refine (impl_TreeOk.calls k _ _ l0_0 a0_1 a0_2 _ _ l0_3 true _ ?side1 ?side2 ?side3 ?side4 A3.out).mono ?_); (case side1 => exact kcb); (case side2 => exact HC0_0.out); (case side3 => exact kcb); (case side4 => exact HC0_3.out); rintro e w8 ⟨rfl, hb⟩; refine ⟨_, rfl, ?_⟩; replace BK177 := Aside0.mk (blb BK177 hb); replace HB := bst hb; (try clear hb); (try clear hb2); (try clear hk); (try clear hi); obtain ⟨C9_0, C9_1, C9_2, C9_3, -⟩ := cells_4 BK177.out trivial; obtain ⟨F9_0, F9_1, F9_2, F9_3, -⟩ := frz_4 BK177.out) | ((with_reducible refine gate_callee (f := 65) rfl ?_); refine gl_ (some 12) Try.func65 #[.agg #[.slice A0_0 l0_0.length c0_0, .bool a0_1, .int .i64 a0_2, .slice A0_3 l0_3.length c0_3], .slice none 0 0] (h := ?_); (refine (impl_Tree_entries.calls k _ _ l0_0 a0_1 a0_2 _ _ l0_3 _ _ ([] : List Int) t179 _ ?side1 ?side2 ?side3 ?side4 ?side5 ?side6 A5.out).mono ?_); (case side1 => exact kcb); (case side2 => exact HC0_0.out); (case side3 => exact kcb); (case side4 => exact HC0_3.out); (case side5 => exact Kd.C_nil _ _); (case side6 => exact Nat.le_refl _); rintro e w10 ⟨v180, rfl, ho0, hb⟩; refine ⟨_, rfl, ?_⟩; obtain ⟨f12, ho0⟩ := ho0; have HO181 := Aside0.mk (Kd.R_lower (Kd.R_mono (ok' := fun k_ => (w.heap.size ≤ k_) ∧ k_ ≠ gb177) ho0 (fun k_ hk_ => ⟨(Nat.le_trans (below_size bel) hk_), (Kd.freshB (g := gb177) (o := .cells #[.slice A0_0 l0_0.length c0_0, .bool a0_1, .int .i64 a0_2, .slice A0_3 l0_3.length c0_3] 30 (0, 0)) (bkp BK177) k_ hk_)⟩)) (below_size bel)); replace BK177 := Aside0.mk (blb BK177 hb); replace HB := bst hb; (try clear hb); (try clear hb2); (try clear hk); (try clear hi); (try clear ho0); obtain ⟨Ao11, co11, eo11⟩ := Kd.R_slice HO181.out; rw [List.length_zipIdx] at eo11; subst eo11))
  go_loopg [5, 14] k (fun kq v5 v14 w' => ∃ (x5_1 : List (List Int)) (x14_1 : Int) (f12 : Nat → Nat), v14 = .int .i64 x14_1 ∧ Aside0 (impl_TreeKeys.l0 kq l1 x5_1 t179 (t179.length : Int) x14_1 = some r) ∧ Aside0 (kq ≤ k) ∧ Aside0 (Kd.S (Kd.slice 5 (Kd.int .u8)) 22 w' w.heap.size (fun k_ => ((w.heap.size ≤ k_) ∧ some k_ ≠ ((.slice Ao11 t179.length co11) : Value).ownBlock ∧ k_ ≠ gb177) ∧ f12 k_ < x14_1.toNat) v5 x5_1) ∧ Aside0 ((Kd.tag f12 k84).R 84 w' w.heap.size (fun k_ => (w.heap.size ≤ k_) ∧ some k_ ≠ (v5 : Value).ownBlock ∧ k_ ≠ gb177) (.slice Ao11 t179.length co11) t179.zipIdx) ∧ Aside0 (w'.heap[gb177]? = some (.cells #[(.slice A0_0 l0_0.length c0_0), .bool a0_1, .int .i64 a0_2, (.slice A0_3 l0_3.length c0_3)] 30 (0, 0))) ∧ Aside0 (Below w.heap.size w w'))
  case atStart => exact ⟨(([] : List (List Int))), (0), f12, rs_, H', ⟨Nat.le_refl _⟩, ⟨by first | exact Kd.S_nil _ _ _ _ _ | exact Kd.R_nil _ _ _ _ _ | exact Kd.R_nil _ _ _ _ _ | exact Kd.Q_nil _ _ _ _ _ | exact Kd.R_nil _ _ _ _ _⟩, ⟨by (with_reducible repeat (first | apply Kd.R_alloc | apply Kd.R_drewN | apply Kd.R_drew | apply Kd.S_alloc | apply Kd.S_drewN | apply Kd.S_drew)); exact Kd.R_mono HO181.out (fun _ hk => ⟨hk.1, ⟨(by simp [Value.ownBlock]), hk.2⟩⟩)⟩, ⟨bkp BK177⟩, ⟨bel⟩⟩
  case round =>
   clear H'
   try clear c1; try clear c2; try clear p2; try clear c4; try clear c6; try clear C7_0 C7_1 C7_2 C7_3; try clear C9_0 C9_1 C9_2 C9_3; try clear F7_0 F7_1 F7_2 F7_3; try clear F9_0 F9_1 F9_2 F9_3
   obtain ⟨x5_1, x14_1, f13, rfl, HA, HK1, HO_5, HO_12, BK177, HB⟩ := hrel
   cases gk with
   | zero => exact absurd HA.out (by simp [impl_TreeKeys.l0])
   | succ k1 =>
    have H := HA.out
    clear HA
    simp only [impl_TreeKeys.l0] at H
    by_cases c12 : x14_1 < (t179.length : Int)
    ·rw [if_pos c12] at H
     have c12b0 : decide (x14_1 < (t179.length : Int)) = true := decide_eq_true c12
     clear c12
     by_cases c13 : 0 ≤ x14_1
     ·rw [if_pos c13] at H
      have c13b0 : decide (0 ≤ x14_1) = true := decide_eq_true c13
      clear c13
      by_cases c14 : x14_1 < (t179.length : Int)
      ·rw [if_pos c14] at H
       have c14b0 : decide (x14_1 < (t179.length : Int)) = true := decide_eq_true c14
       clear c14
       replace H := Option.bind_eq_some_iff.mp H
       obtain ⟨t184, A150, H⟩ := H
       replace H : (if t184 = true then (if x5_1.length < 5864062014805 then (impl_TreeKeys.l0 k1 l1 (x5_1 ++ [(rd_T84 t179 x14_1).f0]) t179 (t179.length : Int) (wrap64 (x14_1 + 1))) else (none)) else (impl_TreeKeys.l0 k1 l1 x5_1 t179 (t179.length : Int) (wrap64 (x14_1 + 1)))) = some r := H
       have A15 := Aside0.mk A150
       clear A150
       by_cases c16 : t184 = true
       ·subst c16
        have H1 : (if x5_1.length < 5864062014805 then (impl_TreeKeys.l0 k1 l1 (x5_1 ++ [(rd_T84 t179 x14_1).f0]) t179 (t179.length : Int) (wrap64 (x14_1 + 1))) else (none)) = some r := by rw [if_pos rfl] at H; exact H
        clear H
        have H := H1
        clear H1
        by_cases c17 : x5_1.length < 5864062014805
        ·rw [if_pos c17] at H
         have LMc17 := Aside0.mk c17
         clear c17
         obtain ⟨y185, hy185⟩ : ∃ y_ : List (List Int), y_ = (x5_1 ++ [(rd_T84 t179 x14_1).f0]) := ⟨_, rfl⟩
         replace H : (impl_TreeKeys.l0 k1 l1 y185 t179 (t179.length : Int) (wrap64 (x14_1 + 1))) = some r := by first | (rw [hy185]; with_reducible exact H) | (have H2_ := (Option.bind_some _ _).symm.trans H; rw [hy185]; with_reducible exact H2_) | (have H2_ := (Option.bind_some _ _).symm.trans H; with_reducible exact H2_) | with_reducible exact H | (rw [hy185]; exact H) | exact H
         have Ny185 := Aside0.mk hy185
         clear hy185
         have H' := Aside0.mk H
         clear H
         have p182 : 0 ≤ (x14_1 : Int) := od
         have q182 : x14_1 < (t179.length : Int) := od
         have HW14 := Aside0.mk (Kd.wr64 p182 q182 (Kd.R_reads' (Kd.S_R ⟨_, HO_12.out⟩)).2.2.2.1)
         obtain ⟨ad182, A182_0, c182_0, e182, hx182_0, hx182_1, hl182_0, hi182_0⟩ := at_T84 (Kd.R_reads' (Kd.S_R ⟨_, HO_12.out⟩)).2.2 x14_1 p182 q182
         cases e182
         obtain ⟨ce182, hce182, hMe182, hcc182⟩ := Kd.S_getf HO_12.out z84 x14_1 p182 q182
         obtain ⟨ua182_0, uc182_0, rfl, ul182_0, ge182_0⟩ := impl_TreeKeys.oMF84 hMe182
         have hv182_0 := hcc182 0 _ rfl
         rw [Nat.add_zero] at hv182_0
         replace hv182_0 := Option.some.inj (hv182_0.symm.trans hx182_0)
         injection hv182_0 with hva_ hvn_ hvc_
         rw [hva_] at ge182_0
         rw [hvc_] at ul182_0 ge182_0
         have HL182_0 := Aside0.mk (show Kd.R (Kd.int .u8) 5 _ w.heap.size _ _ ((rd_T84 t179 x14_1).f0) from Kd.R_mk ul182_0 ge182_0)
         clear hva_ hvn_ hvc_ ge182_0 ul182_0
         clear hcc182 hce182
         have HR182_0 := Aside0.mk hi182_0
         have HC182_0 := Aside0.mk hl182_0
         clear hi182_0 hl182_0
         replace p182 := eq_true p182
         replace q182 := eq_true q182
         go_wp2_with (first | ((with_reducible refine gate_dst (N := 7) rfl ?_); refine bx_ 7 #[.slice none 0 0, .int .i64 0] 84 (h := ?_); intro gb183 hg w18 hbox hb; have BK183 := Aside0.mk (hbox); have GW183 := Aside0.mk ((by rw [hg]; exact (below_size bel) : w.heap.size ≤ gb183)); have GE183 := GW183; have NB177_183 := Aside0.mk ((by rw [hg]; exact Nat.ne_of_lt (blt BK177) : gb177 ≠ gb183)); have NB183_177 := Aside0.mk NB177_183.out.symm; replace HO_5 := Aside0.mk (Kd.S_below (Kd.S_elderB (skp HO_5) gb183 (Nat.le_of_eq hg.symm)) hb); replace HO_12 := Aside0.mk (Kd.R_below (Kd.R_elderB (rkp HO_12) gb183 (Nat.le_of_eq hg.symm)) hb); replace HL182_0 := Aside0.mk (Kd.R_below (Kd.R_elderB (by (with_reducible repeat (first | apply Kd.R_alloc | apply Kd.R_drewN | apply Kd.R_drew | apply Kd.S_alloc | apply Kd.S_drewN | apply Kd.S_drew)); exact HL182_0.out) gb183 (Nat.le_of_eq hg.symm)) hb); replace BK177 := Aside0.mk (blb BK177 hb); replace HR182_0 := Aside0.mk (Kd.C_below (by repeat (first | (with_reducible exact HR182_0.out) | (with_reducible refine Kd.C_alloc ?_ _) | (with_reducible refine Kd.C_drewN ?_ _) | (with_reducible refine Kd.C_drew ?_) | exact HR182_0.out)) hb); replace HB := bst hb; clear hb hbox hg; have hnb19 := NB183_177.out; have hnc19 := NB177_183.out; obtain ⟨C20_0, C20_1, -⟩ := cells_2 BK183.out trivial; obtain ⟨F20_0, F20_1, -⟩ := frz_2 BK183.out) | ((with_reducible refine gate_store (t := 84) (p := 7) rfl ?_); refine store_event (t := 84) (p := 7) (v := ?vo_w21) (w1 := ((w18.setCell ⟨gb183, 0, none⟩ (.slice A182_0 ((rd_T84 t179 x14_1).f0).length c182_0)).setCell ⟨gb183, 1, none⟩ (.int .i64 ((rd_T84 t179 x14_1).f1)))) ?hg ?ho ?hn ?hr ?_; (case ho => rfl); (case hg => rfl); (case hn => rfl); (case hr => first | (go_simp; done) | (go_simp; rfl)); intro w21 hw; have n0_ : Aside0 (Kd.S (Kd.slice 5 (Kd.int .u8)) 22 w21 w.heap.size (fun k_ => ((w.heap.size ≤ k_) ∧ some k_ ≠ (.slice (some ad182) t179.length co11 : Value).ownBlock ∧ k_ ≠ gb177 ∧ k_ ≠ gb183) ∧ f13 k_ < x14_1.toNat) u5 x5_1) := ⟨(by rw [hw]; exact (by (with_reducible repeat (first | apply Kd.R_alloc | apply Kd.R_drewN | apply Kd.R_drew | apply Kd.S_alloc | apply Kd.S_drewN | apply Kd.S_drew)); exact Kd.S_mono (Kd.S_far (p := ⟨gb183, 1, none⟩) (Kd.S_far (p := ⟨gb183, 0, none⟩) (Kd.S_mono HO_5.out (fun k_ hk => (⟨hk, hk.2⟩ : _ ∧ k_ ≠ gb183))) (fun _ hk => hk.2) (.slice A182_0 ((rd_T84 t179 x14_1).f0).length c182_0)) (fun _ hk => hk.2) (.int .i64 ((rd_T84 t179 x14_1).f1))) (fun _ hk => ⟨⟨hk.1.1.1.1, ⟨hk.1.1.1.2.1, ⟨hk.1.1.1.2.2, hk.1.2⟩⟩⟩, hk.1.1.2⟩)))⟩; have n1_ : Aside0 ((Kd.tag f13 k84).R 84 w21 w.heap.size (fun k_ => (w.heap.size ≤ k_) ∧ some k_ ≠ (u5 : Value).ownBlock ∧ k_ ≠ gb177 ∧ k_ ≠ gb183) (.slice (some ad182) t179.length co11) t179.zipIdx) := ⟨(by rw [hw]; exact (by (with_reducible repeat (first | apply Kd.R_alloc | apply Kd.R_drewN | apply Kd.R_drew | apply Kd.S_alloc | apply Kd.S_drewN | apply Kd.S_drew)); exact Kd.R_mono (Kd.R_far (p := ⟨gb183, 1, none⟩) (Kd.R_far (p := ⟨gb183, 0, none⟩) (Kd.R_mono HO_12.out (fun k_ hk => (⟨hk, hk.2⟩ : _ ∧ k_ ≠ gb183))) (fun _ hk => hk.2) (.slice A182_0 ((rd_T84 t179 x14_1).f0).length c182_0)) (fun _ hk => hk.2) (.int .i64 ((rd_T84 t179 x14_1).f1))) (fun _ hk => ⟨hk.1.1.1, ⟨hk.1.1.2.1, ⟨hk.1.1.2.2, hk.1.2⟩⟩⟩)))⟩; have n2_ : Aside0 (Kd.R (Kd.int .u8) 5 w21 w.heap.size (fun k_ => ((w.heap.size ≤ k_) ∧ some k_ ≠ (u5 : Value).ownBlock ∧ some k_ ≠ (.slice (some ad182) t179.length co11 : Value).ownBlock ∧ k_ ≠ gb177 ∧ k_ ≠ gb183) ∧ f13 k_ = x14_1.toNat) (.slice A182_0 ((rd_T84 t179 x14_1).f0).length c182_0) ((rd_T84 t179 x14_1).f0)) := ⟨(by rw [hw]; exact (by (with_reducible repeat (first | apply Kd.R_alloc | apply Kd.R_drewN | apply Kd.R_drew | apply Kd.S_alloc | apply Kd.S_drewN | apply Kd.S_drew)); exact Kd.R_mono (Kd.R_far (p := ⟨gb183, 1, none⟩) (Kd.R_far (p := ⟨gb183, 0, none⟩) (Kd.R_mono HL182_0.out (fun k_ hk => (⟨hk, hk.2⟩ : _ ∧ k_ ≠ gb183))) (fun _ hk => hk.2) (.slice A182_0 ((rd_T84 t179 x14_1).f0).length c182_0)) (fun _ hk => hk.2) (.int .i64 ((rd_T84 t179 x14_1).f1))) (fun _ hk => ⟨⟨hk.1.1.1.1.1, ⟨hk.1.1.1.1.2.1, ⟨hk.1.1.1.2, ⟨hk.1.1.1.1.2.2, hk.1.2⟩⟩⟩⟩, hk.1.1.2⟩)))⟩; have n3_ : Aside0 (w21.heap[gb177]? = some (.cells #[.slice A0_0 l0_0.length c0_0, .bool a0_1, .int .i64 a0_2, .slice A0_3 l0_3.length c0_3] 30 (0, 0))) := ⟨(by rw [hw]; exact (by (with_reducible repeat (first | refine blk_drewN ?_ _ | refine blk_drew ?_ | refine blk_alloc ?_ _)); refine blk_far ?_ NB177_183.out _; (with_reducible repeat (first | refine blk_drewN ?_ _ | refine blk_drew ?_ | refine blk_alloc ?_ _)); refine blk_far ?_ NB177_183.out _; (with_reducible repeat (first | refine blk_drewN ?_ _ | refine blk_drew ?_ | refine blk_alloc ?_ _)); exact BK177.out))⟩; have n4_ : Aside0 (w21.heap[gb183]? = some (.cells #[.slice A182_0 ((rd_T84 t179 x14_1).f0).length c182_0, .int .i64 ((rd_T84 t179 x14_1).f1)] 84 (0, 0))) := ⟨(by rw [hw]; exact (by (with_reducible repeat (first | refine blk_drewN ?_ _ | refine blk_drew ?_ | refine blk_alloc ?_ _)); refine blk_put (cs := #[.slice A182_0 ((rd_T84 t179 x14_1).f0).length c182_0, .int .i64 0]) ?_ 1 _ rfl; (with_reducible repeat (first | refine blk_drewN ?_ _ | refine blk_drew ?_ | refine blk_alloc ?_ _)); refine blk_put (cs := #[.slice none 0 0, .int .i64 0]) ?_ 0 _ rfl; (with_reducible repeat (first | refine blk_drewN ?_ _ | refine blk_drew ?_ | refine blk_alloc ?_ _)); exact BK183.out))⟩; have n5_ : Aside0 (Below w.heap.size w w21) := ⟨(by rw [hw]; exact bel)⟩; clear hw; clear HO_5; clear HO_12; clear HL182_0; clear BK177; clear BK183; clear HB; have HO_5 := n0_; have HO_12 := n1_; have HL182_0 := n2_; have BK177 := n3_; have BK183 := n4_; have HB := n5_; clear n0_ n1_ n2_ n3_ n4_ n5_; obtain ⟨f14, hf14, hl14, ho14, hp14⟩ := Kd.S_retag HO_12.out HO_5.out HL182_0.out; clear HO_12 HO_5 HL182_0; have HO_12 := Aside0.mk hl14; have HO_5 := Aside0.mk ho14; have HL182_0 := Aside0.mk hp14; have HF14 := Aside0.mk hf14; clear hl14 ho14 hp14 hf14; have C22_0 : w21.cell? ⟨gb183, 0, none⟩ = some (.slice A182_0 ((rd_T84 t179 x14_1).f0).length c182_0) := (blk_cell BK183.out 0).trans rfl; have C22_1 : w21.cell? ⟨gb183, 1, none⟩ = some (.int .i64 ((rd_T84 t179 x14_1).f1)) := (blk_cell BK183.out 1).trans rfl; obtain ⟨F22_0, F22_1, -⟩ := frz_2 BK183.out) | ((with_reducible refine gate_callee (f := 31) rfl ?_); refine gl_ (some 21) Try.func31 #[.slice A182_0 ((rd_T84 t179 x14_1).f0).length c182_0, .slice A1 l1.length c1] (h := ?_); (with_reducible refine (impl_HasPrefix.calls _ _ ((rd_T84 t179 x14_1).f0) _ _ l1 true _ ?side1 ?side2 ?side3 ?side4 A15.out).mono ?_); (case side1 => first | exact (Kd.R_reads' HL182_0.out).2.2 | exact (Kd.R_reads' HL182_0.out).2.2 | repeat (first | exact (by repeat (first | (with_reducible exact HR182_0.out) | (with_reducible refine Kd.C_alloc ?_ _) | (with_reducible refine Kd.C_drewN ?_ _) | (with_reducible refine Kd.C_drew ?_) | exact HR182_0.out)) | (with_reducible refine Kd.C_alloc ?_ _) | (with_reducible refine Kd.C_drewN ?_ _) | (with_reducible refine Kd.C_drew ?_))); (case side2 => exact HC182_0.out); (case side3 => exact kcb); (case side4 => exact HC1.out); rintro e w' ⟨rfl, ⟨nd, rfl⟩⟩; refine ⟨_, rfl, ?_⟩) | ((with_reducible refine gate_builtin (b := .append) (xs := #[.tmp 22, .tmp 25]) rfl ?_); at_builtin; refine Kd.S_append (Kd.slice 5 (Kd.int .u8)) (w0 := w) w.heap.size rfl (.tmp 22) (.tmp 25) 42 22 (.slice none 0 0) 24 rfl Try.underlying42 info22 rfl (by decide) (by omega) u5 x5_1 ((rd_T84 t179 x14_1).f0) [.slice A182_0 ((rd_T84 t179 x14_1).f0).length c182_0] (fun k_ => ((w.heap.size ≤ k_) ∧ some k_ ≠ (.slice (some ad182) t179.length co11 : Value).ownBlock ∧ k_ ≠ gb177 ∧ k_ ≠ gb183) ∧ f14 k_ < x14_1.toNat + 1) (fun k_ => ((((w.heap.size ≤ k_) ∧ some k_ ≠ (.slice (some ad182) t179.length co11 : Value).ownBlock ∧ k_ ≠ gb177 ∧ k_ ≠ gb183) ∧ f14 k_ < x14_1.toNat + 1) ∧ some k_ ≠ (u5 : Value).ownBlock) ∧ f14 k_ = x14_1.toNat) rfl rfl ?aP (fun _ hk => hk.1) ?aF ?aO ?aB ?aS ?aL ?_; (case aP => exact Kd.M_slice_mk (Kd.R_reads' HL182_0.out).2.1 (Kd.R_mono HL182_0.out (fun k_ hk => ⟨⟨⟨⟨hk.1.1, ⟨hk.1.2.2.1, ⟨hk.1.2.2.2.1, hk.1.2.2.2.2⟩⟩⟩, Nat.lt_succ_of_le (Nat.le_of_eq hk.2)⟩, hk.1.2.1⟩, hk.2⟩))); (case aB => exact bel); (case aF => exact (fun k_ hk => ⟨⟨(Nat.le_trans (below_size bel) hk), Kd.fresh' (Kd.R_lt (rkp HO_12)) k_ hk, Kd.freshB (g := gb177) (o := .cells #[.slice A0_0 l0_0.length c0_0, .bool a0_1, .int .i64 a0_2, .slice A0_3 l0_3.length c0_3] 30 (0, 0)) (bkp BK177) k_ hk, Kd.freshB (g := gb183) (o := .cells #[.slice A182_0 ((rd_T84 t179 x14_1).f0).length c182_0, .int .i64 ((rd_T84 t179 x14_1).f1)] 84 (0, 0)) (bkp BK183) k_ hk⟩, by rw [HF14.out k_ (Nat.le_trans (Kd.szN _ _) hk)]; exact Nat.succ_pos _⟩)); (case aO => exact Kd.S_mono (skp HO_5) (fun k_ hk => ⟨⟨hk.1, Nat.lt_succ_of_lt hk.2⟩, fun h_ => Nat.ne_of_lt hk.2 h_.2⟩)); (case aS => exact (below_size bel)); (case aL => have := LMc17.out; omega); intro v186 w23 ho hb hg hat; rw [← Ny185.out] at ho; have n0_ := Aside0.mk (Kd.R_after (ok := (fun k_ => (w.heap.size ≤ k_) ∧ k_ ≠ gb177 ∧ k_ ≠ gb183)) (by (with_reducible repeat (first | apply Kd.R_alloc | apply Kd.R_drewN | apply Kd.R_drew | apply Kd.S_alloc | apply Kd.S_drewN | apply Kd.S_drew)); exact Kd.R_mono HO_12.out (fun _ hk => ⟨⟨hk.1, ⟨hk.2.2.1, hk.2.2.2⟩⟩, hk.2.1⟩)) hg hat); have n1_ := Aside0.mk (blk_grown (g := gb177) (o := .cells #[.slice A0_0 l0_0.length c0_0, .bool a0_1, .int .i64 a0_2, .slice A0_3 l0_3.length c0_3] 30 (0, 0)) (bkp BK177) hg (Kd.S_ne HO_5.out BK177.out (by decide))); have n2_ := Aside0.mk (Kd.R_after (ok := (fun k_ => (w.heap.size ≤ k_) ∧ some k_ ≠ (.slice (some ad182) t179.length co11 : Value).ownBlock ∧ k_ ≠ gb177 ∧ k_ ≠ gb183)) (by (with_reducible repeat (first | apply Kd.R_alloc | apply Kd.R_drewN | apply Kd.R_drew | apply Kd.S_alloc | apply Kd.S_drewN | apply Kd.S_drew)); exact Kd.R_mono HL182_0.out (fun _ hk => ⟨⟨hk.1.1, ⟨hk.1.2.2.1, ⟨hk.1.2.2.2.1, hk.1.2.2.2.2⟩⟩⟩, hk.1.2.1⟩)) hg hat); have n3_ := Aside0.mk (blk_grown (g := gb183) (o := .cells #[.slice A182_0 ((rd_T84 t179 x14_1).f0).length c182_0, .int .i64 ((rd_T84 t179 x14_1).f1)] 84 (0, 0)) (bkp BK183) hg (Kd.S_ne HO_5.out BK183.out (by decide))); have n4_ := Aside0.mk (hb); have n5_ := Aside0.mk (ho); clear HO_12; clear BK177; clear HL182_0; clear BK183; clear HB; clear HO_5; have HO_12 := n0_; have BK177 := n1_; have HL182_0 := n2_; have BK183 := n3_; have HB := n4_; have HO187 := n5_; clear n0_ n1_ n2_ n3_ n4_ n5_; clear ho hb hg hat))
         go_roundg k1
         case measure => have := HK1.out; omega
         case rel => exact ⟨(y185), (wrap64 (x14_1 + 1)), f14, rs_, H', ⟨by have := HK1.out; omega⟩, ⟨by (with_reducible repeat (first | apply Kd.R_alloc | apply Kd.R_drewN | apply Kd.R_drew | apply Kd.S_alloc | apply Kd.S_drewN | apply Kd.S_drew)); exact Kd.S_mono HO187.out (fun _ hk => ⟨⟨hk.1.1, ⟨hk.1.2.1, hk.1.2.2.1⟩⟩, by rw [HW14.out]; exact hk.2⟩)⟩, ⟨by (with_reducible repeat (first | apply Kd.R_alloc | apply Kd.R_drewN | apply Kd.R_drew | apply Kd.S_alloc | apply Kd.S_drewN | apply Kd.S_drew)); exact Kd.R_mono HO_12.out (fun _ hk => ⟨hk.1.1, ⟨hk.2, hk.1.2.1⟩⟩)⟩, ⟨bkp BK177⟩, ⟨bel⟩⟩
        rw [if_neg c17] at H
        exact absurd H (by simp)
       replace c16 := Bool.eq_false_iff.mpr c16
       subst c16
       have H1 : (impl_TreeKeys.l0 k1 l1 x5_1 t179 (t179.length : Int) (wrap64 (x14_1 + 1))) = some r := by rw [if_neg (show ¬ (false = true) by decide)] at H; exact H
       clear H
       have H := H1
       clear H1
       have H' := Aside0.mk H
       clear H
       have p182 : 0 ≤ (x14_1 : Int) := od
       have q182 : x14_1 < (t179.length : Int) := od
       have HW14 := Aside0.mk (Kd.wr64 p182 q182 (Kd.R_reads' (Kd.S_R ⟨_, HO_12.out⟩)).2.2.2.1)
       obtain ⟨ad182, A182_0, c182_0, e182, hx182_0, hx182_1, hl182_0, hi182_0⟩ := at_T84 (Kd.R_reads' (Kd.S_R ⟨_, HO_12.out⟩)).2.2 x14_1 p182 q182
       cases e182
       obtain ⟨ce182, hce182, hMe182, hcc182⟩ := Kd.S_getf HO_12.out z84 x14_1 p182 q182
       obtain ⟨ua182_0, uc182_0, rfl, ul182_0, ge182_0⟩ := impl_TreeKeys.oMF84 hMe182
       have hv182_0 := hcc182 0 _ rfl
       rw [Nat.add_zero] at hv182_0
       replace hv182_0 := Option.some.inj (hv182_0.symm.trans hx182_0)
       injection hv182_0 with hva_ hvn_ hvc_
       rw [hva_] at ge182_0
       rw [hvc_] at ul182_0 ge182_0
       have HL182_0 := Aside0.mk (show Kd.R (Kd.int .u8) 5 _ w.heap.size _ _ ((rd_T84 t179 x14_1).f0) from Kd.R_mk ul182_0 ge182_0)
       clear hva_ hvn_ hvc_ ge182_0 ul182_0
       clear hcc182 hce182
       have HR182_0 := Aside0.mk hi182_0
       have HC182_0 := Aside0.mk hl182_0
       clear hi182_0 hl182_0
       replace p182 := eq_true p182
       replace q182 := eq_true q182
       go_wp2_with (first | ((with_reducible refine gate_dst (N := 7) rfl ?_); refine bx_ 7 #[.slice none 0 0, .int .i64 0] 84 (h := ?_); intro gb183 hg w24 hbox hb; have BK183 := Aside0.mk (hbox); have GW183 := Aside0.mk ((by rw [hg]; exact (below_size bel) : w.heap.size ≤ gb183)); have GE183 := GW183; have NB177_183 := Aside0.mk ((by rw [hg]; exact Nat.ne_of_lt (blt BK177) : gb177 ≠ gb183)); have NB183_177 := Aside0.mk NB177_183.out.symm; replace HO_5 := Aside0.mk (Kd.S_below (Kd.S_elderB (skp HO_5) gb183 (Nat.le_of_eq hg.symm)) hb); replace HO_12 := Aside0.mk (Kd.R_below (Kd.R_elderB (rkp HO_12) gb183 (Nat.le_of_eq hg.symm)) hb); replace HL182_0 := Aside0.mk (Kd.R_below (Kd.R_elderB (by (with_reducible repeat (first | apply Kd.R_alloc | apply Kd.R_drewN | apply Kd.R_drew | apply Kd.S_alloc | apply Kd.S_drewN | apply Kd.S_drew)); exact HL182_0.out) gb183 (Nat.le_of_eq hg.symm)) hb); replace BK177 := Aside0.mk (blb BK177 hb); replace HR182_0 := Aside0.mk (Kd.C_below (by repeat (first | (with_reducible exact HR182_0.out) | (with_reducible refine Kd.C_alloc ?_ _) | (with_reducible refine Kd.C_drewN ?_ _) | (with_reducible refine Kd.C_drew ?_) | exact HR182_0.out)) hb); replace HB := bst hb; clear hb hbox hg; have hnb25 := NB183_177.out; have hnc25 := NB177_183.out; obtain ⟨C26_0, C26_1, -⟩ := cells_2 BK183.out trivial; obtain ⟨F26_0, F26_1, -⟩ := frz_2 BK183.out) | ((with_reducible refine gate_callee (f := 31) rfl ?_); refine gl_ (some 21) Try.func31 #[.slice A182_0 ((rd_T84 t179 x14_1).f0).length c182_0, .slice A1 l1.length c1] (h := ?_); (with_reducible refine (impl_HasPrefix.calls _ _ ((rd_T84 t179 x14_1).f0) _ _ l1 false _ ?side1 ?side2 ?side3 ?side4 A15.out).mono ?_); (case side1 => repeat (first | exact ((Kd.R_reads' (by (with_reducible repeat (first | apply Kd.R_alloc | apply Kd.R_drewN | apply Kd.R_drew | apply Kd.S_alloc | apply Kd.S_drewN | apply Kd.S_drew)); exact (Kd.R_mono (Kd.R_far (p := ⟨gb183, 1, none⟩) (Kd.R_far (p := ⟨gb183, 0, none⟩) (Kd.R_mono HL182_0.out (fun k_ hk => (⟨hk, hk.2⟩ : _ ∧ k_ ≠ gb183))) (fun _ hk => hk.2) (.slice A182_0 ((rd_T84 t179 x14_1).f0).length c182_0)) (fun _ hk => hk.2) (.int .i64 ((rd_T84 t179 x14_1).f1))) (fun _ h_ => h_.1)))).2.2) | (with_reducible refine Kd.C_alloc ?_ _) | (with_reducible refine Kd.C_drewN ?_ _) | (with_reducible refine Kd.C_drew ?_))); (case side2 => exact HC182_0.out); (case side3 => exact Kd.C_below HR1.out bel); (case side4 => exact HC1.out); rintro e w' ⟨rfl, ⟨nd, rfl⟩⟩; refine ⟨_, rfl, ?_⟩))
       go_roundg k1
       case measure => have := HK1.out; omega
       case rel => exact ⟨(x5_1), (wrap64 (x14_1 + 1)), f13, rs_, H', ⟨by have := HK1.out; omega⟩, ⟨by (with_reducible repeat (first | apply Kd.R_alloc | apply Kd.R_drewN | apply Kd.R_drew | apply Kd.S_alloc | apply Kd.S_drewN | apply Kd.S_drew)); exact Kd.S_mono (Kd.S_far (p := ⟨gb183, 1, none⟩) (Kd.S_far (p := ⟨gb183, 0, none⟩) (Kd.S_mono HO_5.out (fun k_ hk => (⟨hk, hk.2⟩ : _ ∧ k_ ≠ gb183))) (fun _ hk => hk.2) (.slice A182_0 ((rd_T84 t179 x14_1).f0).length c182_0)) (fun _ hk => hk.2) (.int .i64 ((rd_T84 t179 x14_1).f1))) (fun _ hk => ⟨⟨hk.1.1.1.1, ⟨hk.1.1.1.2.1, hk.1.1.1.2.2⟩⟩, by rw [HW14.out]; exact Nat.lt_succ_of_lt hk.1.1.2⟩)⟩, ⟨by (with_reducible repeat (first | apply Kd.R_alloc | apply Kd.R_drewN | apply Kd.R_drew | apply Kd.S_alloc | apply Kd.S_drewN | apply Kd.S_drew)); exact Kd.R_mono (Kd.R_far (p := ⟨gb183, 1, none⟩) (Kd.R_far (p := ⟨gb183, 0, none⟩) (Kd.R_mono HO_12.out (fun k_ hk => (⟨hk, hk.2⟩ : _ ∧ k_ ≠ gb183))) (fun _ hk => hk.2) (.slice A182_0 ((rd_T84 t179 x14_1).f0).length c182_0)) (fun _ hk => hk.2) (.int .i64 ((rd_T84 t179 x14_1).f1))) (fun _ hk => ⟨hk.1.1.1, ⟨hk.1.1.2.1, hk.1.1.2.2⟩⟩)⟩, ⟨by (with_reducible repeat (first | refine blk_drewN ?_ _ | refine blk_drew ?_ | refine blk_alloc ?_ _)); refine blk_far ?_ NB177_183.out _; (with_reducible repeat (first | refine blk_drewN ?_ _ | refine blk_drew ?_ | refine blk_alloc ?_ _)); refine blk_far ?_ NB177_183.out _; (with_reducible repeat (first | refine blk_drewN ?_ _ | refine blk_drew ?_ | refine blk_alloc ?_ _)); exact BK177.out⟩, ⟨bel⟩⟩
      rw [if_neg c14] at H
      exact absurd H (by simp)
     rw [if_neg c13] at H
     exact absurd H (by simp)
    rw [if_neg c12] at H
    have c12b0 : decide (x14_1 < (t179.length : Int)) = false := decide_eq_false c12
    clear c12
    obtain rfl := Option.some.inj H
    go_wp2
    go_ret
    exact ⟨_, rz_, by (with_reducible repeat (first | apply Kd.R_alloc | apply Kd.R_drewN | apply Kd.R_drew | apply Kd.S_alloc | apply Kd.S_drewN | apply Kd.S_drew)); exact Kd.S_mono HO_5.out (fun _ hk => hk.1.1), bel⟩
 replace c4 := Bool.eq_false_iff.mpr c4
 subst c4
 have H1 : (some ([] : List (List Int))) = some r := by rw [if_neg (show ¬ (false = true) by decide)] at H; exact H
 clear H
 have H := H1
 clear H1
 obtain rfl := Option.some.inj H
 go_enter Try.func27, Try.ntmps27
 go_wp2_with (first | ((with_reducible refine gate_dst (N := 2) rfl ?_); refine bx_ 2 #[.slice A0_0 l0_0.length c0_0, .bool a0_1, .int .i64 a0_2, .slice A0_3 l0_3.length c0_3] 30 (h := ?_); intro gb177 hg w27 hbox hb; have BK177 := Aside0.mk (hbox); have GW177 := Aside0.mk ((by rw [hg]; exact (below_size bel) : w.heap.size ≤ gb177)); have GE177 := GW177; replace HB := bst hb; clear hb hbox hg; obtain ⟨C28_0, C28_1, C28_2, C28_3, -⟩ := cells_4 BK177.out trivial; obtain ⟨F28_0, F28_1, F28_2, F28_3, -⟩ := frz_4 BK177.out) | ((with_reducible refine gate_callee (f := 18) rfl ?_); refine gl_ (some 9) Try.func18 #[.agg #[.slice A0_0 l0_0.length c0_0, .bool a0_1, .int .i64 a0_2, .slice A0_3 l0_3.length c0_3]] (h := ?_); (with_reducible refine (impl_TreeOk.calls k _ _ l0_0 a0_1 a0_2 _ _ l0_3 false _ ?side1 ?side2 ?side3 ?side4 A3.out).mono ?_); (case side1 => exact kcb); (case side2 => exact HC0_0.out); (case side3 => exact kcb); (case side4 => exact HC0_3.out); rintro e w29 ⟨rfl, hb⟩; refine ⟨_, rfl, ?_⟩; replace BK177 := Aside0.mk (blb BK177 hb); replace HB := bst hb; (try clear hb); (try clear hb2); (try clear hk); (try clear hi)))
 go_ret
 exact ⟨_, rz_, by first | exact Kd.S_nil _ _ _ _ _ | exact Kd.R_nil _ _ _ _ _ | exact Kd.R_nil _ _ _ _ _ | exact Kd.Q_nil _ _ _ _ _ | exact Kd.R_nil _ _ _ _ _, bel⟩

end Go.Proofs.Ytoaddpfoecggpaa.PS
