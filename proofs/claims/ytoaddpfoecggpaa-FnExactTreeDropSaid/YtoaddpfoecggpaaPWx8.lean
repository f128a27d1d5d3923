-- Written for this claim by the session's program pp.py, out of the kit's print and the seat's translation.
import Derived.Test.YtoaddpfoecggpaaPWx0
import Derived.Test.YtoaddpfoecggpaaPWx7
namespace Go.Proofs.Ytoaddpfoecggpaa.PW
open Go.RowKit Go.Proofs.YtoaddpfoecggpaaW.PrintWords Go.Proofs.YtoaddpfoecggpaaW.PrintLast Go.Proofs.YtoaddpfoecggpaaW.PrintMore
attribute [local go_sem] max2_int min2_int max_two min_two max_three min_three max_four min_four   -- for this text's walks alone
set_option linter.unusedVariables false
set_option linter.unusedSimpArgs false

/-! ### impl_TreeOk: function 18 -/
def impl_TreeOk.f (k : Nat) (l0_0 : List Int) (a0_1 : Bool) (a0_2 : Int) (l0_3 : List (S30)) : Option (Bool) := (impl_scan.f k l0_0 a0_1 a0_2 l0_3 0 0 0).bind fun t => some t.1
set_option maxHeartbeats 8000000 in
set_option maxRecDepth 100000 in
theorem impl_TreeOk.calls (k : Nat) (A0_0 : Option Addr) (c0_0 : Nat) (l0_0 : List Int) (a0_1 : Bool) (a0_2 : Int) (A0_3 : Option Addr) (c0_3 : Nat) (l0_3 : List (S30)) (r : Bool) (w : World) (hr0_0 : Kd.C (Kd.int .u8) w A0_0 l0_0.length l0_0) (hc0_0 : l0_0.length ≤ c0_0) (hr0_3 : Kd.C k30 w A0_3 l0_3.length l0_3) (hc0_3 : l0_3.length ≤ c0_3) (h : impl_TreeOk.f k l0_0 a0_1 a0_2 l0_3 = some r) :
  Calls Try.prog 18 #[.agg #[.slice A0_0 l0_0.length c0_0, .bool a0_1, .int .i64 a0_2, .slice A0_3 l0_3.length c0_3]] w fun e w' => e = .returned (.bool r) ∧ Below w.heap.size w w' := by
 have hu30 := Try.underlying30; have HR0_0 := Aside0.mk hr0_0; have HC0_0 := Aside0.mk hc0_0; have HR0_3 := Aside0.mk hr0_3; have HC0_3 := Aside0.mk hc0_3; clear hr0_0 hc0_0 hr0_3 hc0_3; have HB := Aside0.mk (Below.refl w.heap.size w); obtain ⟨⟨t1, t2⟩, A20, H⟩ := Option.bind_eq_some_iff.mp h; clear h; obtain rfl := Option.some.inj H; clear H; have A2 := Aside0.mk A20; clear A20; go_enter Try.func18, Try.ntmps18
 go_wp2_with (first
  | ((with_reducible refine gate_dst (N := 1) rfl ?_); refine bx_ 1 #[.slice A0_0 l0_0.length c0_0, .bool a0_1, .int .i64 a0_2, .slice A0_3 l0_3.length c0_3] 30 (h := ?_); intro gb1 hg w1 hbox hb; have BK1 := Aside0.mk (hbox); have GW1 := Aside0.mk ((by rw [hg]; exact (below_size bel) : w.heap.size ≤ gb1)); replace HB := bst hb; clear hb hbox hg)
  | ((with_reducible refine gate_dst (N := 3) rfl ?_); refine bx_ 3 #[.int .i64 0] 3 (h := ?_); intro gb2 hg w2 hbox hb; have BK2 := Aside0.mk (hbox); have GW2 := Aside0.mk ((by rw [hg]; exact (below_size bel) : w.heap.size ≤ gb2)); have NB1_2 := Aside0.mk ((by rw [hg]; exact Nat.ne_of_lt (blt BK1) : gb1 ≠ gb2)); have NB2_1 := Aside0.mk NB1_2.out.symm; replace BK1 := Aside0.mk (blb BK1 hb); replace HB := bst hb; clear hb hbox hg; have hnb := NB1_2.out; have hnc := NB2_1.out; have C1_0 : w2.cell? ⟨gb1, 0, none⟩ = some (.slice A0_0 l0_0.length c0_0) := (blk_cell BK1.out 0).trans rfl; have C1_1 : w2.cell? ⟨gb1, 1, none⟩ = some (.bool a0_1) := (blk_cell BK1.out 1).trans rfl; have C1_2 : w2.cell? ⟨gb1, 2, none⟩ = some (.int .i64 a0_2) := (blk_cell BK1.out 2).trans rfl; have C1_3 : w2.cell? ⟨gb1, 3, none⟩ = some (.slice A0_3 l0_3.length c0_3) := (blk_cell BK1.out 3).trans rfl; have C2 : w2.cell? ⟨gb2, 0, none⟩ = some (.int .i64 0) := (blk_cell BK2.out 0).trans rfl; have F2 := blk_frozen BK2.out 0; have HI := Aside0.mk (show IsS3 w w2 gb2 0 from ⟨BK2.out, GW2.out⟩))
  | (go_at_call 62; (refine (impl_scan.calls k A0_0 c0_0 l0_0 a0_1 a0_2 A0_3 c0_3 l0_3 0 0 gb2 0 t1 t2 w _ ?s1 ?s2 ?s3 ?s4 ?s5 ?s6 ?s7 A2.out).mono ?_); (case s1 => exact (IsS3.set_0 HI.out 0)); (case s2 => exact (below_set HB.out GW2.out)); (case s3 => exact (Kd.C_below HR0_0.out (below_set HB.out GW2.out))); (case s4 => exact HC0_0.out); (case s5 => exact (Kd.far_C (0 : Int) HR0_0.out GW2.out)); (case s6 => exact (Kd.C_foot_came k30_heap HR0_3.out (below_set HB.out GW2.out) GW2.out)); (case s7 => exact HC0_3.out); rintro e w3 ⟨rfl, -, hb, -⟩; have HB3 := Aside0.mk hb; clear hb))
 go_ret; exact ⟨rfl, HB3.out⟩

/-! ### slices_Grow_byte_byte: function 131 -/
def slices_Grow_byte_byte.f (l0 : List Int) (a1 : Int) : Option (List Int) := if 0 ≤ a1 then (if a1 < 140737488355328 then some [] else none) else none
set_option maxHeartbeats 8000000 in
set_option maxRecDepth 100000 in
/-- (At a nil slice: what is handed in is not looked at.) -/
theorem slices_Grow_byte_byte.calls (A0 : Option Addr) (c0 : Nat) (l0 : List Int) (a1 : Int) (r : List Int) (w : World) (hr0 : Kd.C (Kd.int .u8) w A0 l0.length l0) (hc0 : l0.length ≤ c0) (h : slices_Grow_byte_byte.f l0 a1 = some r) :
  Calls Try.prog 131 #[.slice none 0 0, .int .i64 a1] w fun e w' => ∃ v0_ : Value, e = .returned (v0_) ∧ Kd.R (Kd.int .u8) 5 w' w.heap.size (fun _ => True) v0_ r ∧ Below w.heap.size w w' := by
 clear hr0 hc0; unfold slices_Grow_byte_byte.f at h; by_cases h0 : 0 ≤ a1
 case neg =>
  rw [if_neg h0] at h; exact absurd h (by simp)
 by_cases h1 : a1 < 140737488355328
 case neg =>
  rw [if_pos h0, if_neg h1] at h; exact absurd h (by simp)
 rw [if_pos h0, if_pos h1] at h; obtain rfl := Option.some.inj h; clear h; have HB := Aside0.mk (Below.refl w.heap.size w); have hn : decide (a1 < 0) = false := decide_eq_false (by omega); have hw : wrap64 a1 = a1 := by unfold wrap64; omega
 by_cases hp : 0 < a1
 ·have hp' : decide (0 < a1) = true := decide_eq_true hp
  have HP := Aside0.mk hp; have HH := Aside0.mk h1; have HW := Aside0.mk hw; clear h0 h1 hp; go_enter Try.func131, Try.ntmps131
  go_wp2_with (((with_reducible refine gate_builtin (b := .append) (xs := #[.tmp 20, .tmp 21]) rfl ?_); at_builtin; refine Kd.R_append_zeros (Kd.int .u8) (w0 := w) w.heap.size rfl (.tmp 20) (.tmp 21) 22 3 5 (.int .u8 0) 1 rfl Try.underlying22 Try.underlying3 info5 rfl (by decide) (by omega) (.slice none 0 0) [] (0 : Int) (wrap64 a1) (fun _ => True) rfl rfl rfl (fun _ _ => trivial) (Kd.R_nil _ _ _ _ _) (by have := HP.out; have := HW.out; omega) HB.out ?aS ?aL ?_; (case aS => exact below_size HB.out); (case aL => have := HH.out; have := HP.out; have := HW.out; simp; omega); intro v1 w1 ho hb hg hat; obtain ⟨A1, c1, e1⟩ := Kd.R_slice ho; subst e1; have HO := Aside0.mk ho; replace HB := Aside0.mk hb; clear ho hb hg hat))
  go_ret; exact ⟨_, rfl, Kd.R_take HO.out (Nat.zero_le _), HB.out⟩
 have hz : a1 = 0 := by omega
 subst hz; clear h0 h1 hp hn hw; go_enter Try.func131, Try.ntmps131; go_wp2; go_ret; exact ⟨_, rfl, Kd.R_nil _ _ _ _ _, HB.out⟩

/-! ### slices_Concat_byte_byte: function 110 -/
mutual
def slices_Concat_byte_byte.l0 : Nat → List (List Int) → Int → List (List Int) → Int → Int → Option (List Int)
 | 0, _, _, _, _, _ => none
 | k + 1, x0, x3, x9, x10, x11 => if x11 < x10 then (if 0 ≤ x11 then (if x11 < (x9.length : Int) then (if (wrap64 (x3 + ((rd_L1 x9 x11).length : Int))) < 0 then (none) else (slices_Concat_byte_byte.l0 k x0 (wrap64 (x3 + ((rd_L1 x9 x11).length : Int))) x9 x10 (wrap64 (x11 + 1)))) else (none)) else (none)) else ((slices_Grow_byte_byte.f ([] : List Int) x3).bind fun t294 => (slices_Concat_byte_byte.l1 k t294 x0 (x0.length : Int) 0))
def slices_Concat_byte_byte.l1 : Nat → List Int → List (List Int) → Int → Int → Option (List Int)
 | 0, _, _, _, _ => none
 | k + 1, x6, x25, x26, x27 => if x27 < x26 then (if 0 ≤ x27 then (if x27 < (x25.length : Int) then (if x6.length + (rd_L1 x25 x27).length < 140737488355328 then (slices_Concat_byte_byte.l1 k (x6 ++ (rd_L1 x25 x27)) x25 x26 (wrap64 (x27 + 1))) else (none)) else (none)) else (none)) else (some x6)
end
def slices_Concat_byte_byte.f (k : Nat) (l0 : List (List Int)) : Option (List Int) := slices_Concat_byte_byte.l0 k l0 0 l0 (l0.length : Int) 0
set_option maxHeartbeats 8000000 in
set_option maxRecDepth 100000 in
theorem slices_Concat_byte_byte.callsR (k : Nat) (A0 : Option Addr) (c0 : Nat) (l0 : List (List Int)) (r : List Int) (w : World) (hr0 : Kd.C (Kd.slice 5 (Kd.int .u8)) w A0 l0.length l0) (hc0 : l0.length ≤ c0) (h : slices_Concat_byte_byte.f k l0 = some r) :
  Calls Try.prog 110 #[.slice A0 l0.length c0] w fun e w' => ∃ v0_ : Value, e = .returned (v0_) ∧ Kd.R (Kd.int .u8) 5 w' w.heap.size (fun _ => True) v0_ r ∧ Below w.heap.size w w' := by
 have HR0 := Aside0.mk hr0; have HC0 := Aside0.mk hc0; clear hr0 hc0; have HB := Aside0.mk (Below.refl w.heap.size w); have H : (slices_Concat_byte_byte.l0 k l0 0 l0 (l0.length : Int) 0) = some r := h; clear h; have H' := Aside0.mk H; clear H; go_enter Try.func110, Try.ntmps110; go_wp2; go_loopg [3, 11] k (fun kq v3 v11 w' => ∃ (x3_1 : Int) (x11_1 : Int), v3 = .int .i64 x3_1 ∧ v11 = .int .i64 x11_1 ∧ Aside0 (slices_Concat_byte_byte.l0 kq l0 x3_1 l0 (l0.length : Int) x11_1 = some r) ∧ Aside0 (kq ≤ k) ∧ Aside0 (Below w.heap.size w w'))
 case atStart => exact ⟨(0), (0), rs_, rs_, H', ⟨Nat.le_refl _⟩, ⟨bel⟩⟩
 case round =>
  clear H'; try clear c1
  obtain ⟨x3_1, x11_1, rfl, rfl, HA, HK1, HB⟩ := hrel; cases gk with
  | zero => exact absurd HA.out (by simp [slices_Concat_byte_byte.l0])
  | succ k1 =>
   have H := HA.out; clear HA; simp only [slices_Concat_byte_byte.l0] at H; by_cases c2 : x11_1 < (l0.length : Int)
   ·rw [if_pos c2] at H
    have c2b0 : decide (x11_1 < (l0.length : Int)) = true := decide_eq_true c2; clear c2; by_cases c3 : 0 ≤ x11_1
    ·rw [if_pos c3] at H
     have c3b0 : decide (0 ≤ x11_1) = true := decide_eq_true c3; clear c3; by_cases c4 : x11_1 < (l0.length : Int)
     ·rw [if_pos c4] at H
      have c4b0 : decide (x11_1 < (l0.length : Int)) = true := decide_eq_true c4; clear c4; by_cases c5 : (wrap64 (x3_1 + ((rd_L1 l0 x11_1).length : Int))) < 0
      ·rw [if_pos c5] at H
       exact absurd H (by simp)
      rw [if_neg c5] at H; have c5b0 : decide ((wrap64 (x3_1 + ((rd_L1 l0 x11_1).length : Int))) < 0) = false := decide_eq_false c5; clear c5; have H' := Aside0.mk H; clear H; have p293 : 0 ≤ (x11_1 : Int) := od; have q293 : x11_1 < (l0.length : Int) := od; obtain ⟨ad293, A293_0, c293_0, e293, hx293_0, hl293_0, hi293_0⟩ := at_L1 HR0.out x11_1 p293 q293; cases e293; replace hx293_0 := hxb HB hx293_0; have HR293_0 := Aside0.mk hi293_0; have HC293_0 := Aside0.mk hl293_0; clear hi293_0 hl293_0; replace p293 := eq_true p293; replace q293 := eq_true q293; go_wp2; go_roundg k1
      case measure => have := HK1.out; omega
      case rel => exact ⟨(wrap64 (x3_1 + ((rd_L1 l0 x11_1).length : Int))), (wrap64 (x11_1 + 1)), rs_, rs_, H', ⟨by have := HK1.out; omega⟩, ⟨bel⟩⟩
     rw [if_neg c4] at H; exact absurd H (by simp)
    rw [if_neg c3] at H; exact absurd H (by simp)
   rw [if_neg c2] at H; have c2b0 : decide (x11_1 < (l0.length : Int)) = false := decide_eq_false c2; clear c2; replace H := Option.bind_eq_some_iff.mp H; obtain ⟨t294, A60, H⟩ := H; replace H : (slices_Concat_byte_byte.l1 k1 t294 l0 (l0.length : Int) 0) = some r := H; have A6 := Aside0.mk A60; clear A60; have H' := Aside0.mk H; clear H
   go_wp2_with (first | ((with_reducible refine gate_callee (f := 131) rfl ?_); refine gl_ (some 24) Try.func131 #[.slice none 0 0, .int .i64 x3_1] (h := ?_); (refine (slices_Grow_byte_byte.calls none 0 ([] : List Int) x3_1 t294 _ ?side1 ?side2 A6.out).mono ?_); (case side1 => exact Kd.C_nil _ _); (case side2 => exact Nat.le_refl _); rintro e w7 ⟨v295, rfl, ho0, hb⟩; refine ⟨_, rfl, ?_⟩; have HO296 := Aside0.mk (Kd.R_lower ho0 (below_size bel)); replace HB := bst hb; (try clear hb); (try clear hb2); (try clear hk); (try clear hi); (try clear ho0)))
   go_loopg [6, 27] k1 (fun kq v6 v27 w' => ∃ (x6_2 : List Int) (x27_2 : Int), v27 = .int .i64 x27_2 ∧ Aside0 (slices_Concat_byte_byte.l1 kq x6_2 l0 (l0.length : Int) x27_2 = some r) ∧ Aside0 (kq ≤ k1) ∧ Aside0 (Kd.R (Kd.int .u8) 5 w' w.heap.size (fun _ => True) v6 x6_2) ∧ Aside0 (Below w.heap.size w w'))
   case atStart => exact ⟨(t294), (0), rs_, H', ⟨Nat.le_refl _⟩, ⟨rkp HO296⟩, ⟨bel⟩⟩
   case round =>
    clear H'; try clear c1; try clear c2; try clear c2b0; try clear p2; try clear q2; try clear hx2; try clear c3; try clear c3b0; try clear c4; try clear c4b0; try clear c5; try clear c5b0; try clear p6; try clear hx293_0; try clear p293; try clear q293
    obtain ⟨x6_2, x27_2, rfl, HA, HK2, HO_6, HB⟩ := hrel; cases gk with
    | zero => exact absurd HA.out (by simp [slices_Concat_byte_byte.l1])
    | succ k2 =>
     have H := HA.out; clear HA; simp only [slices_Concat_byte_byte.l1] at H; by_cases c8 : x27_2 < (l0.length : Int)
     ·rw [if_pos c8] at H
      have c8b0 : decide (x27_2 < (l0.length : Int)) = true := decide_eq_true c8; clear c8; by_cases c9 : 0 ≤ x27_2
      ·rw [if_pos c9] at H
       have c9b0 : decide (0 ≤ x27_2) = true := decide_eq_true c9; clear c9; by_cases c10 : x27_2 < (l0.length : Int)
       ·rw [if_pos c10] at H
        have c10b0 : decide (x27_2 < (l0.length : Int)) = true := decide_eq_true c10; clear c10; by_cases c11 : x6_2.length + (rd_L1 l0 x27_2).length < 140737488355328
        ·rw [if_pos c11] at H
         have LMc11 := Aside0.mk c11; clear c11; obtain ⟨y298, hy298⟩ : ∃ y_ : List Int, y_ = (x6_2 ++ (rd_L1 l0 x27_2)) := ⟨_, rfl⟩; replace H : (slices_Concat_byte_byte.l1 k2 y298 l0 (l0.length : Int) (wrap64 (x27_2 + 1))) = some r := by first | (rw [hy298]; with_reducible exact H) | (have H2_ := (Option.bind_some _ _).symm.trans H; rw [hy298]; with_reducible exact H2_) | (have H2_ := (Option.bind_some _ _).symm.trans H; with_reducible exact H2_) | with_reducible exact H | (rw [hy298]; exact H) | exact H
         have Ny298 := Aside0.mk hy298; clear hy298; have H' := Aside0.mk H; clear H; have p297 : 0 ≤ (x27_2 : Int) := od; have q297 : x27_2 < (l0.length : Int) := od; obtain ⟨ad297, A297_0, c297_0, e297, hx297_0, hl297_0, hi297_0⟩ := at_L1 HR0.out x27_2 p297 q297; cases e297; replace hx297_0 := hxb HB hx297_0; have HR297_0 := Aside0.mk hi297_0; have HC297_0 := Aside0.mk hl297_0; clear hi297_0 hl297_0; replace p297 := eq_true p297; replace q297 := eq_true q297
         go_wp2_with (first | ((with_reducible refine gate_builtin (b := .append) (xs := #[.tmp 31, .tmp 32]) rfl ?_); at_builtin; refine Kd.R_append_rows (Kd.int .u8) (w0 := w) w.heap.size rfl (.tmp 31) (.tmp 32) 22 5 (.int .u8 0) 1 rfl Try.underlying22 info5 rfl (by decide) (by omega) u6 x6_2 (rd_L1 l0 x27_2) _ _ _ (fun _ => True) (fun _ => False) rfl rfl ?aO ?aR (fun _ _ h => h) (fun _ h => h.elim) ?aF ?aB ?aS ?aL ?_; (case aR => repeat (first | exact (Kd.C_below HR297_0.out HB.out) | (with_reducible refine Kd.C_alloc ?_ _) | (with_reducible refine Kd.C_drewN ?_ _) | (with_reducible refine Kd.C_drew ?_))); (case aB => exact bel); (case aF => exact (fun _ _ => trivial)); (case aO => exact (rkp HO_6)); (case aS => exact (below_size bel)); (case aL => have := LMc11.out; omega); intro v299 w12 ho hb hg hat; rw [← Ny298.out] at ho; have n0_ := Aside0.mk (hb); have n1_ := Aside0.mk (ho); clear HB; clear HO_6; have HB := n0_; have HO300 := n1_; clear n0_ n1_; clear ho hb hg hat))
         go_roundg k2
         case measure => have := HK1.out; have := HK2.out; omega
         case rel => exact ⟨(y298), (wrap64 (x27_2 + 1)), rs_, H', ⟨by have := HK1.out; have := HK2.out; omega⟩, ⟨rkp HO300⟩, ⟨bel⟩⟩
        rw [if_neg c11] at H; exact absurd H (by simp)
       rw [if_neg c10] at H; exact absurd H (by simp)
      rw [if_neg c9] at H; exact absurd H (by simp)
     rw [if_neg c8] at H; have c8b0 : decide (x27_2 < (l0.length : Int)) = false := decide_eq_false c8; clear c8; obtain rfl := Option.some.inj H; go_wp2; go_ret; exact ⟨_, rz_, by (with_reducible repeat (first | apply Kd.R_alloc | apply Kd.R_drewN | apply Kd.R_drew)); exact HO_6.out, bel⟩

theorem slices_Concat_byte_byte.calls (k : Nat) (A0 : Option Addr) (c0 : Nat) (l0 : List (List Int)) (r : List Int) (w : World) (hr0 : Kd.C (Kd.slice 5 (Kd.int .u8)) w A0 l0.length l0) (hc0 : l0.length ≤ c0) (h : slices_Concat_byte_byte.f k l0 = some r) :
  Calls Try.prog 110 #[.slice A0 l0.length c0] w fun e w' => ∃ v0_ : Value, e = .returned (v0_) ∧ Kd.V (Kd.int .u8) 5 w' w.heap.size (fun k_ => (w.heap.size ≤ k_)) v0_ r ∧ Below w.heap.size w w' :=
 (slices_Concat_byte_byte.callsR k A0 c0 l0 r w hr0 hc0 h).mono (by rintro e w' ⟨v, rfl, ho, hb⟩; exact ⟨v, rfl, Kd.V_mono (Kd.R_V (Kd.R_bound ho)) (fun _ hk => hk.2.1), hb⟩)

/-! ### virtual_concat2: function 172 -/
theorem virtual_concat2.c2_ {P : Program} {ops : Array Oper} {Q : Exit → Act → World → Prop} {rest : List Oper} {o1 o2 : Oper} {a : Act} {w : World} (N1 N2 : Tmp) {f : FuncId} {fn : Func} (hf : P.funcs[f]? = some fn) (v1 v0 : Value) (e : TypeId) {ar : Array Operand} {ts : Array TypeId}
  (hd1 : o1.dst = some N1 := by exact rfl) (hg1 : o1.guard = none := by exact rfl) (hrun : (execOp a.eval o1).run P w = .ok (.value (.slice (some ⟨w.heap.size, 0, none⟩) 2 2)) (w.alloc (.cells #[v1, v0] e)) := by first | (go_simp; done) | (go_simp; rfl))
  (hd2 : o2.dst = some N2 := by exact rfl) (hg2 : o2.guard = none := by exact rfl) (hname : (fn.name == "runtime.NumGoroutine") = false := by kernel_rfl) (hb : fn.body.isSome = true := by exact rfl)
  (hop : o2.op = .call { callee := .value (.func f), args := ar, argTypes := ts } := by exact rfl) (hargs : ar.map (a.put (some N1) (.slice (some ⟨w.heap.size, 0, none⟩) 2 2)).eval = #[.slice (some ⟨w.heap.size, 0, none⟩) 2 2] := by ((try simp only [List.map_toArray, List.map_cons, List.map_nil]); first | done | rfl))
  (h : Calls P f #[.slice (some ⟨w.heap.size, 0, none⟩) 2 2] (w.alloc (.cells #[v1, v0] e)) fun en w' => ∃ v, en = .returned v ∧ wpList P ops Q rest ((a.put (some N1) (.slice (some ⟨w.heap.size, 0, none⟩) 2 2)).put (some N2) v) w') : wpList P ops Q (o1 :: o2 :: rest) a w := by
 refine Kd.event_run hg1 hrun ?_; rw [hd1]; exact goesL_ (some N2) hd2 hg2 hf hname hb _ hop hargs h
def virtual_concat2.f (k : Nat) (l0 l1 : List Int) : Option (List Int) := slices_Concat_byte_byte.f k [l0, l1]
theorem virtual_concat2.calls (k : Nat) (A0 : Option Addr) (c0 : Nat) (l0 : List Int) (A1 : Option Addr) (c1 : Nat) (l1 : List Int) (r : List Int) (w : World) (hr0 : Kd.C (Kd.int .u8) w A0 l0.length l0) (hc0 : l0.length ≤ c0) (hr1 : Kd.C (Kd.int .u8) w A1 l1.length l1) (hc1 : l1.length ≤ c1) (h : virtual_concat2.f k l0 l1 = some r) :
  Calls Try.prog 110 #[.slice (some ⟨w.heap.size, 0, none⟩) 2 2] (w.alloc (.cells #[.slice A0 l0.length c0, .slice A1 l1.length c1] 22)) fun e w' => ∃ v0_ : Value, e = .returned (v0_) ∧ Kd.R (Kd.int .u8) 5 w' w.heap.size (fun k_ => (w.heap.size ≤ k_)) v0_ r ∧ Below w.heap.size w w' := by
 have hb : Below w.heap.size w (w.alloc (.cells #[.slice A0 l0.length c0, .slice A1 l1.length c1] 22)) := below_alloc (Below.refl _ _) _
 have hC : Kd.C (Kd.slice 5 (Kd.int .u8)) (w.alloc (.cells #[.slice A0 l0.length c0, .slice A1 l1.length c1] 22)) (some ⟨w.heap.size, 0, none⟩) [l0, l1].length [l0, l1] := by
  refine ⟨rfl, by simp, fun _ => ⟨_, rfl, fun j p hj => ?_⟩⟩
  have key : ∀ i u, (#[Value.slice A0 l0.length c0, Value.slice A1 l1.length c1] : Array Value)[i]? = some u → (w.alloc (.cells #[.slice A0 l0.length c0, .slice A1 l1.length c1] 22)).cell? ((⟨w.heap.size, 0, none⟩ : Addr).add i) = some u := by
   intro i u hu; have e : (⟨w.heap.size, 0, none⟩ : Addr).add i = ⟨w.heap.size, i, none⟩ := by unfold Addr.add; split <;> simp_all
   rw [e]; exact (cell_of_row _ _ i _ 22 (0, 0) (heap_alloc_new w _)).trans hu
  match j with
  | 0 =>
   simp at hj; subst hj
   exact ⟨[.slice A0 l0.length c0], rfl, ⟨A0, c0, rfl, hc0, Kd.C_below hr0 hb⟩, fun i u hu => by
    match i with
    | 0 => exact key 0 u (by simpa using hu)
    | i + 1 => simp at hu⟩
  | 1 =>
   simp at hj; subst hj
   exact ⟨[.slice A1 l1.length c1], rfl, ⟨A1, c1, rfl, hc1, Kd.C_below hr1 hb⟩, fun i u hu => by
    match i with
    | 0 => exact key 1 u (by simpa using hu)
    | i + 1 => simp at hu⟩
  | j + 2 => simp at hj
 refine (slices_Concat_byte_byte.callsR k (some ⟨w.heap.size, 0, none⟩) 2 [l0, l1] r _ hC (by simp) h).mono ?_; rintro e w' ⟨v, rfl, ho, hb2⟩; have hsz : w.heap.size ≤ (w.alloc (.cells #[.slice A0 l0.length c0, .slice A1 l1.length c1] 22)).heap.size := hb.size; exact ⟨v, rfl, Kd.R_mono (Kd.R_bound (Kd.R_lower ho hsz)) (fun _ hk => hk.2.1), hb.trans (hb2.mono hsz)⟩

/-! ### impl_Tree_entries: function 65 -/
mutual
def impl_Tree_entries.j0 : Nat → List Int → List (S84) → List Int → Bool → Int → List (S30) → Option ((List (S84)))
 | 0, _, _, _, _, _, _ => none
 | k + 1, x5, x6, x302000, x302001, x302002, x302003 => impl_Tree_entries.l0 k x5 x6 x302003 (x302003.length : Int) 0
def impl_Tree_entries.l0 : Nat → List Int → List (S84) → List (S30) → Int → Int → Option ((List (S84)))
 | 0, _, _, _, _, _ => none
 | k + 1, x5, x6, x24, x25, x26 => if x26 < x25 then (if 0 ≤ x26 then (if x26 < (x24.length : Int) then ((impl_Tree_entries.f k ((rd_T30 x24 x26).f0) ((rd_T30 x24 x26).f1) ((rd_T30 x24 x26).f2) ((rd_T30 x24 x26).f3) x5).bind fun t310 => (if x6.length + t310.length < 4398046511104 then (impl_Tree_entries.l0 k x5 (x6 ++ t310) x24 x25 (wrap64 (x26 + 1))) else (none))) else (none)) else (none)) else (some x6)
def impl_Tree_entries.f : Nat → List Int → Bool → Int → List (S30) → List Int → Option ((List (S84)))
 | 0, _, _, _, _, _ => none
 | k + 1, l0_0, a0_1, a0_2, l0_3, l1 => (virtual_concat2.f k l1 l0_0).bind fun t302 => (if a0_1 = true then (if ([] : List (S84)).length < 4398046511104 then (impl_Tree_entries.j0 k t302 (([] : List (S84)) ++ [(⟨t302, a0_2⟩ : S84)]) l0_0 a0_1 a0_2 l0_3) else (none)) else (impl_Tree_entries.j0 k t302 ([] : List (S84)) l0_0 a0_1 a0_2 l0_3))
end
set_option maxHeartbeats 8000000 in
set_option maxRecDepth 100000 in
theorem impl_Tree_entries.calls (k : Nat) : ∀ (A0_0 : Option Addr) (c0_0 : Nat) (l0_0 : List Int) (a0_1 : Bool) (a0_2 : Int) (A0_3 : Option Addr) (c0_3 : Nat) (l0_3 : List (S30)) (A1 : Option Addr) (c1 : Nat) (l1 : List Int) (r : List (S84)) (w : World) (hr0_0 : Kd.C (Kd.int .u8) w A0_0 l0_0.length l0_0) (hc0_0 : l0_0.length ≤ c0_0) (hr0_3 : Kd.C k30 w A0_3 l0_3.length l0_3) (hc0_3 : l0_3.length ≤ c0_3) (hr1 : Kd.C (Kd.int .u8) w A1 l1.length l1) (hc1 : l1.length ≤ c1) (h : impl_Tree_entries.f k l0_0 a0_1 a0_2 l0_3 l1 = some r),
  Calls Try.prog 65 #[.agg #[.slice A0_0 l0_0.length c0_0, .bool a0_1, .int .i64 a0_2, .slice A0_3 l0_3.length c0_3], .slice A1 l1.length c1] w fun e w' => ∃ v0_ : Value, e = .returned (v0_) ∧ Kd.R k84 84 w' w.heap.size (fun k_ => (w.heap.size ≤ k_)) v0_ r ∧ Below w.heap.size w w' := by
 induction k using Nat.strongRecOn with
 | _ k ih =>
 intro A0_0 c0_0 l0_0 a0_1 a0_2 A0_3 c0_3 l0_3 A1 c1 l1 r w hr0_0 hc0_0 hr0_3 hc0_3 hr1 hc1 h; cases k with
 | zero => exact absurd h (by simp [impl_Tree_entries.f])
 | succ k =>
 simp only [impl_Tree_entries.f] at h; have hu30 := Try.underlying30; have hu84 := Try.underlying84; have HR0_0 := Aside0.mk hr0_0; have HC0_0 := Aside0.mk hc0_0; clear hr0_0 hc0_0; have HR0_3 := Aside0.mk hr0_3; have HC0_3 := Aside0.mk hc0_3; clear hr0_3 hc0_3; have HR1 := Aside0.mk hr1; have HC1 := Aside0.mk hc1; clear hr1 hc1; have HB := Aside0.mk (Below.refl w.heap.size w)
 have H : ((virtual_concat2.f k l1 l0_0).bind fun t302 => (if a0_1 = true then (if ([] : List (S84)).length < 4398046511104 then (impl_Tree_entries.j0 k t302 (([] : List (S84)) ++ [(⟨t302, a0_2⟩ : S84)]) l0_0 a0_1 a0_2 l0_3) else (none)) else (impl_Tree_entries.j0 k t302 ([] : List (S84)) l0_0 a0_1 a0_2 l0_3))) = some r := h; clear h; replace H := Option.bind_eq_some_iff.mp H; obtain ⟨t302, A30, H⟩ := H
 replace H : (if a0_1 = true then (if ([] : List (S84)).length < 4398046511104 then (impl_Tree_entries.j0 k t302 (([] : List (S84)) ++ [(⟨t302, a0_2⟩ : S84)]) l0_0 a0_1 a0_2 l0_3) else (none)) else (impl_Tree_entries.j0 k t302 ([] : List (S84)) l0_0 a0_1 a0_2 l0_3)) = some r := H; have A3 := Aside0.mk A30; clear A30; have HC4 := Aside0.mk H; clear H; go_enter Try.func65, Try.ntmps65
 go_upto_if 15 with (first | ((with_reducible refine gate_dst (N := 2) rfl ?_); refine bx_ 2 #[.slice A0_0 l0_0.length c0_0, .bool a0_1, .int .i64 a0_2, .slice A0_3 l0_3.length c0_3] 30 (h := ?_); intro gb301 hg w5 hbox hb; have BK301 := Aside0.mk (hbox); have GW301 := Aside0.mk ((by rw [hg]; exact (below_size bel) : w.heap.size ≤ gb301)); have GE301 := GW301; replace HB := bst hb; clear hb hbox hg; obtain ⟨C6_0, C6_1, C6_2, C6_3, -⟩ := cells_4 BK301.out trivial; obtain ⟨F6_0, F6_1, F6_2, F6_3, -⟩ := frz_4 BK301.out) | ((with_reducible refine gate_dst (N := 12) rfl ?_); refine virtual_concat2.c2_ 12 13 Try.func110 (.slice A1 l1.length c1) (.slice A0_0 l0_0.length c0_0) 22 (h := ?_); (with_reducible refine (virtual_concat2.calls k _ _ l1 _ _ l0_0 t302 _ ?side1 ?side2 ?side3 ?side4 A3.out).mono ?_); (case side1 => exact kcb); (case side2 => exact HC1.out); (case side3 => exact kcb); (case side4 => exact HC0_0.out); rintro e w7 ⟨v303, rfl, ho0, hb⟩; refine ⟨_, rfl, ?_⟩; have HO304 := Aside0.mk (Kd.R_lower (Kd.R_mono (ok' := fun k_ => (w.heap.size ≤ k_) ∧ k_ ≠ gb301) ho0 (fun k_ hk_ => ⟨(Nat.le_trans (below_size bel) hk_), (Kd.freshB (bkp BK301) k_ hk_)⟩)) (below_size bel)); replace BK301 := Aside0.mk (blb BK301 hb); replace HB := bst hb; (try clear hb); (try clear hb2); (try clear hk); (try clear hi); (try clear ho0); obtain ⟨C8_0, C8_1, C8_2, C8_3, -⟩ := cells_4 BK301.out trivial; obtain ⟨F8_0, F8_1, F8_2, F8_3, -⟩ := frz_4 BK301.out))
 (try simp only [Act.put, List.setIfInBounds_toArray, List.set_cons_zero, List.set_cons_succ])
 go_cut [6] (fun v6 wc => ∃ (kq : Nat) (x6_3 : List (S84)), Aside0 (impl_Tree_entries.j0 kq t302 x6_3 l0_0 a0_1 a0_2 l0_3 = some r) ∧ Aside0 (kq ≤ k) ∧ Aside0 (Kd.R (Kd.int .u8) 5 wc w.heap.size (fun k_ => (w.heap.size ≤ k_) ∧ some k_ ≠ (v6 : Value).ownBlock ∧ k_ ≠ gb301) v303 t302) ∧ Aside0 (Kd.R k84 84 wc w.heap.size (fun k_ => (w.heap.size ≤ k_) ∧ k_ ≠ gb301) v6 x6_3) ∧ Aside0 (wc.heap[gb301]? = some (.cells #[(.slice A0_0 l0_0.length c0_0), .bool a0_1, .int .i64 a0_2, (.slice A0_3 l0_3.length c0_3)] 30 (0, 0))) ∧ Aside0 (Below w.heap.size w wc))
 case first =>
  have H := HC4.out; clear HC4; by_cases c9 : a0_1 = true
  ·subst c9
   have H1 : (if ([] : List (S84)).length < 4398046511104 then (impl_Tree_entries.j0 k t302 (([] : List (S84)) ++ [(⟨t302, a0_2⟩ : S84)]) l0_0 true a0_2 l0_3) else (none)) = some r := by rw [if_pos rfl] at H; exact H
   clear H; have H := H1; clear H1; by_cases c10 : ([] : List (S84)).length < 4398046511104
   ·rw [if_pos c10] at H
    have LMc10 := Aside0.mk c10; clear c10; obtain ⟨y305, hy305⟩ : ∃ y_ : List (S84), y_ = (([] : List (S84)) ++ [(⟨t302, a0_2⟩ : S84)]) := ⟨_, rfl⟩; replace H : (impl_Tree_entries.j0 k t302 y305 l0_0 true a0_2 l0_3) = some r := by first | (rw [hy305]; with_reducible exact H) | (have H2_ := (Option.bind_some _ _).symm.trans H; rw [hy305]; with_reducible exact H2_) | (have H2_ := (Option.bind_some _ _).symm.trans H; with_reducible exact H2_) | with_reducible exact H | (rw [hy305]; exact H) | exact H
    have Ny305 := Aside0.mk hy305; clear hy305; have H' := Aside0.mk H; clear H; obtain ⟨C11_0, C11_1, C11_2, C11_3, -⟩ := cells_4 BK301.out trivial; obtain ⟨F11_0, F11_1, F11_2, F11_3, -⟩ := frz_4 BK301.out; obtain ⟨Ao12, co12, eo12⟩ := Kd.R_slice HO304.out; subst eo12
    go_wp2_with (first | ((with_reducible refine gate_builtin (b := .append) (xs := #[.tmp 16, .tmp 21]) rfl ?_); at_builtin; refine Kd.R_append k84 (w0 := w) w.heap.size rfl (.tmp 16) (.tmp 21) 80 84 (.agg #[(.slice none 0 0), (.int .i64 0)]) 32 rfl Try.underlying80 info84 rfl (by decide) (by omega) (.slice none 0 0) ([] : List (S84)) (⟨t302, a0_2⟩ : S84) [.slice Ao12 t302.length co12, .int .i64 a0_2] (fun k_ => (w.heap.size ≤ k_) ∧ k_ ≠ gb301) (fun k_ => ((fun k_ => (w.heap.size ≤ k_) ∧ k_ ≠ gb301)) k_ ∧ some k_ ≠ (.slice none 0 0 : Value).ownBlock) rfl rfl ?aP (fun _ hk => hk) ?aF ?aO ?aB ?aS ?aL ?_; (case aP => exact (k84_mkM _ _ _ (⟨t302, a0_2⟩ : S84) (Kd.R_mono (ok' := (fun k_ => ((fun k_ => (w.heap.size ≤ k_) ∧ k_ ≠ gb301)) k_ ∧ some k_ ≠ (.slice none 0 0 : Value).ownBlock)) (HO304.out) (fun k_ hk => ⟨⟨hk.1, hk.2⟩, (by simp [Value.ownBlock])⟩)))); (case aB => exact bel); (case aF => exact (fun k_ hk => ⟨(Nat.le_trans (below_size bel) hk), Kd.freshB (bkp BK301) k_ hk⟩)); (case aO => exact ((Kd.R_nil _ _ _ _ (fun k_ => (w.heap.size ≤ k_) ∧ k_ ≠ gb301)))); (case aS => exact (below_size bel)); (case aL => have := LMc10.out; omega); intro v306 w13 ho hb hg hat; rw [← Ny305.out] at ho; have HO307 := Aside0.mk (ho); replace BK301 := Aside0.mk (blk_grown (g := gb301) (o := .cells #[.slice A0_0 l0_0.length c0_0, .bool true, .int .i64 a0_2, .slice A0_3 l0_3.length c0_3] 30 (0, 0)) (bkp BK301) hg (by simp [Value.ownBlock])); replace HO304 := Aside0.mk (Kd.R_after (Kd.R_apart_nil (rkp HO304)) hg hat); replace HB := Aside0.mk (hb); clear ho hb hg hat))
    go_meet
    case rel => exact ⟨_, (y305), H', ⟨by first | omega | exact Nat.le_refl _⟩, ⟨Kd.R_mono (rkp HO304) (fun _ hk => ⟨hk.1.1, ⟨hk.2, hk.1.2⟩⟩)⟩, ⟨rkp HO307⟩, ⟨bkp BK301⟩, ⟨bel⟩⟩
   rw [if_neg c10] at H; exact absurd H (by simp)
  replace c9 := Bool.eq_false_iff.mpr c9; subst c9; have H1 : (impl_Tree_entries.j0 k t302 ([] : List (S84)) l0_0 false a0_2 l0_3) = some r := by rw [if_neg (show ¬ (false = true) by decide)] at H; exact H
  clear H; have H := H1; clear H1; have H' := Aside0.mk H; clear H; go_wp2; go_meet
  case rel => exact ⟨_, (([] : List (S84))), H', ⟨by first | omega | exact Nat.le_refl _⟩, ⟨Kd.R_mono (rkp HO304) (fun _ hk => ⟨hk.1, ⟨(by simp [Value.ownBlock]), hk.2⟩⟩)⟩, ⟨by first | exact Kd.S_nil _ _ _ _ _ | exact Kd.R_nil _ _ _ _ _ | exact Kd.R_nil _ _ _ _ _ | exact Kd.Q_nil _ _ _ _ _ | exact Kd.R_nil _ _ _ _ _⟩, ⟨bkp BK301⟩, ⟨bel⟩⟩
 case rest =>
  clear HC4; try clear c1; try clear p2; try clear c6; try clear c9; try clear c10; try clear C11_0 C11_1 C11_2 C11_3; try clear C6_0 C6_1 C6_2 C6_3; try clear C8_0 C8_1 C8_2 C8_3; try clear F11_0 F11_1 F11_2 F11_3; try clear F6_0 F6_1 F6_2 F6_3; try clear F8_0 F8_1 F8_2 F8_3
  obtain ⟨kq, x6_3, HA, HJ3, HO_5, HO_6, BK301, HB⟩ := hcut; cases kq with
  | zero => exact absurd HA.out (by simp [impl_Tree_entries.j0])
  | succ kj3 =>
   have H := HA.out; clear HA; simp only [impl_Tree_entries.j0] at H; have H' := Aside0.mk H; clear H; obtain ⟨C14_0, C14_1, C14_2, C14_3, -⟩ := cells_4 BK301.out trivial; obtain ⟨F14_0, F14_1, F14_2, F14_3, -⟩ := frz_4 BK301.out; go_wp2
   go_loopg [6, 26] kj3 (fun kq v6 v26 w' => ∃ (x6_2 : List (S84)) (x26_2 : Int), v26 = .int .i64 x26_2 ∧ Aside0 (impl_Tree_entries.l0 kq t302 x6_2 l0_3 (l0_3.length : Int) x26_2 = some r) ∧ Aside0 (kq ≤ kj3) ∧ Aside0 (Kd.R (Kd.int .u8) 5 w' w.heap.size (fun k_ => (w.heap.size ≤ k_) ∧ some k_ ≠ (v6 : Value).ownBlock ∧ k_ ≠ gb301) v303 t302) ∧ Aside0 (Kd.R k84 84 w' w.heap.size (fun k_ => (w.heap.size ≤ k_) ∧ k_ ≠ gb301) v6 x6_2) ∧ Aside0 (w'.heap[gb301]? = some (.cells #[(.slice A0_0 l0_0.length c0_0), .bool a0_1, .int .i64 a0_2, (.slice A0_3 l0_3.length c0_3)] 30 (0, 0))) ∧ Aside0 (Below w.heap.size w w'))
   case atStart => exact ⟨(x6_3), (0), rs_, H', ⟨Nat.le_refl _⟩, ⟨rkp HO_5⟩, ⟨rkp HO_6⟩, ⟨bkp BK301⟩, ⟨bel⟩⟩
   case round =>
    clear H'; try clear c1; try clear p2; try clear c6; try clear c9; try clear c10; try clear C11_0 C11_1 C11_2 C11_3; try clear C14_0 C14_1 C14_2 C14_3; try clear C6_0 C6_1 C6_2 C6_3; try clear C8_0 C8_1 C8_2 C8_3; try clear F11_0 F11_1 F11_2 F11_3; try clear F14_0 F14_1 F14_2 F14_3; try clear F6_0 F6_1 F6_2 F6_3; try clear F8_0 F8_1 F8_2 F8_3; try clear p2
    obtain ⟨x6_2, x26_2, rfl, HA, HK2, HO_5, HO_6, BK301, HB⟩ := hrel; cases gk with
    | zero => exact absurd HA.out (by simp [impl_Tree_entries.l0])
    | succ k2 =>
     have H := HA.out; clear HA; simp only [impl_Tree_entries.l0] at H; by_cases c15 : x26_2 < (l0_3.length : Int)
     ·rw [if_pos c15] at H
      have c15b0 : decide (x26_2 < (l0_3.length : Int)) = true := decide_eq_true c15; clear c15; by_cases c16 : 0 ≤ x26_2
      ·rw [if_pos c16] at H
       have c16b0 : decide (0 ≤ x26_2) = true := decide_eq_true c16; clear c16; by_cases c17 : x26_2 < (l0_3.length : Int)
       ·rw [if_pos c17] at H
        have c17b0 : decide (x26_2 < (l0_3.length : Int)) = true := decide_eq_true c17; clear c17; replace H := Option.bind_eq_some_iff.mp H; obtain ⟨t310, A180, H⟩ := H; replace H : (if x6_2.length + t310.length < 4398046511104 then (impl_Tree_entries.l0 k2 t302 (x6_2 ++ t310) l0_3 (l0_3.length : Int) (wrap64 (x26_2 + 1))) else (none)) = some r := H; have A18 := Aside0.mk A180; clear A180; by_cases c19 : x6_2.length + t310.length < 4398046511104
        ·rw [if_pos c19] at H
         have LMc19 := Aside0.mk c19; clear c19; obtain ⟨y313, hy313⟩ : ∃ y_ : List (S84), y_ = (x6_2 ++ t310) := ⟨_, rfl⟩; replace H : (impl_Tree_entries.l0 k2 t302 y313 l0_3 (l0_3.length : Int) (wrap64 (x26_2 + 1))) = some r := by first | (rw [hy313]; with_reducible exact H) | (have H2_ := (Option.bind_some _ _).symm.trans H; rw [hy313]; with_reducible exact H2_) | (have H2_ := (Option.bind_some _ _).symm.trans H; with_reducible exact H2_) | with_reducible exact H | (rw [hy313]; exact H) | exact H
         have Ny313 := Aside0.mk hy313; clear hy313; have H' := Aside0.mk H; clear H; have p308 : 0 ≤ (x26_2 : Int) := od; have q308 : x26_2 < (l0_3.length : Int) := od; obtain ⟨ad308, A308_0, c308_0, A308_3, c308_3, e308, hx308_0, hx308_1, hx308_2, hx308_3, hl308_0, hi308_0, hl308_3, hi308_3⟩ := at_T30 HR0_3.out x26_2 p308 q308; cases e308; replace hx308_0 := hxb HB hx308_0; replace hx308_1 := hxb HB hx308_1; replace hx308_2 := hxb HB hx308_2; replace hx308_3 := hxb HB hx308_3; have HR308_0 := Aside0.mk hi308_0; have HC308_0 := Aside0.mk hl308_0; clear hi308_0 hl308_0
         have HR308_3 := Aside0.mk hi308_3; have HC308_3 := Aside0.mk hl308_3; clear hi308_3 hl308_3; replace p308 := eq_true p308; replace q308 := eq_true q308
         go_wp2_with (first | ((with_reducible refine gate_dst (N := 8) rfl ?_); refine bx_ 8 #[.slice none 0 0, .bool false, .int .i64 0, .slice none 0 0] 30 (h := ?_); intro gb309 hg w20 hbox hb; have BK309 := Aside0.mk (hbox); have GW309 := Aside0.mk ((by rw [hg]; exact (below_size bel) : w.heap.size ≤ gb309)); have GE309 := GW309; have NB301_309 := Aside0.mk ((by rw [hg]; exact Nat.ne_of_lt (blt BK301) : gb301 ≠ gb309)); have NB309_301 := Aside0.mk NB301_309.out.symm; replace HO_5 := Aside0.mk (Kd.R_below (Kd.R_elderB (rkp HO_5) gb309 (Nat.le_of_eq hg.symm)) hb); replace HO_6 := Aside0.mk (Kd.R_below (Kd.R_elderB (rkp HO_6) gb309 (Nat.le_of_eq hg.symm)) hb); replace BK301 := Aside0.mk (blb BK301 hb); replace HB := bst hb; clear hb hbox hg; have hnb21 := NB309_301.out; have hnc21 := NB301_309.out; obtain ⟨C22_0, C22_1, C22_2, C22_3, -⟩ := cells_4 BK309.out trivial; obtain ⟨F22_0, F22_1, F22_2, F22_3, -⟩ := frz_4 BK309.out; obtain ⟨Ao23, co23, eo23⟩ := Kd.R_slice HO_5.out; subst eo23) | ((with_reducible refine gate_callee (f := 65) rfl ?_); refine gl_ (some 33) Try.func65 #[.agg #[.slice A308_0 ((rd_T30 l0_3 x26_2).f0).length c308_0, .bool ((rd_T30 l0_3 x26_2).f1), .int .i64 ((rd_T30 l0_3 x26_2).f2), .slice A308_3 ((rd_T30 l0_3 x26_2).f3).length c308_3], .slice Ao23 t302.length co23] (h := ?_); (with_reducible refine (ih k2 (by have := HJ3.out; have := HK2.out; omega) _ _ ((rd_T30 l0_3 x26_2).f0) ((rd_T30 l0_3 x26_2).f1) ((rd_T30 l0_3 x26_2).f2) _ _ ((rd_T30 l0_3 x26_2).f3) _ _ t302 t310 _ ?side1 ?side2 ?side3 ?side4 ?side5 ?side6 A18.out).mono ?_); (case side1 => exact Kd.C_below HR308_0.out bel); (case side2 => exact HC308_0.out); (case side3 => exact Kd.C_below HR308_3.out bel); (case side4 => exact HC308_3.out); (case side5 => refine (Kd.R_reads' (e := 5) (base := w.heap.size) (ok := fun k_ => (((w.heap.size ≤ k_) ∧ (some k_ ≠ (u6 : Value).ownBlock ∧ k_ ≠ gb301)) ∧ k_ ≠ gb309)) (n := t302.length) (c := co23) ?_).2.2; exact (by (with_reducible repeat (first | apply Kd.R_alloc | apply Kd.R_drewN | apply Kd.R_drew)); exact (Kd.R_mono (Kd.R_far4 (q := gb309) (Kd.R_mono HO_5.out (fun k_ hk => (⟨hk, hk.2⟩ : _ ∧ k_ ≠ gb309))) (fun _ hk => hk.2)) (fun _ h_ => h_.1)))); (case side6 => exact (Kd.R_reads' HO_5.out).2.1); rintro e w24 ⟨v311, rfl, ho0, hb⟩; refine ⟨_, rfl, ?_⟩; have HO312 := Aside0.mk (Kd.R_lower (Kd.R_mono (ok' := fun k_ => (w.heap.size ≤ k_) ∧ some k_ ≠ (u6 : Value).ownBlock ∧ k_ ≠ gb301 ∧ k_ ≠ gb309) ho0 (fun k_ hk_ => ⟨(Nat.le_trans (below_size bel) hk_), (Kd.fresh' (Kd.R_lt (by (with_reducible repeat (first | apply Kd.R_alloc | apply Kd.R_drewN | apply Kd.R_drew)); exact (Kd.R_mono (Kd.R_far4 (q := gb309) (Kd.R_mono HO_6.out (fun k_ hk => (⟨hk, hk.2⟩ : _ ∧ k_ ≠ gb309))) (fun _ hk => hk.2)) (fun _ h_ => h_.1)))) k_ hk_), (Kd.freshB (g := gb301) (o := .cells #[.slice A0_0 l0_0.length c0_0, .bool a0_1, .int .i64 a0_2, .slice (some ad308) l0_3.length c0_3] 30 (0, 0)) (by (with_reducible repeat (first | refine blk_drewN ?_ _ | refine blk_drew ?_ | refine blk_alloc ?_ _)); refine blk_far4 ?_ NB301_309.out; (with_reducible repeat (first | refine blk_drewN ?_ _ | refine blk_drew ?_ | refine blk_alloc ?_ _)); exact BK301.out) k_ hk_), (Kd.freshB (g := gb309) (o := .cells #[.slice A308_0 ((rd_T30 l0_3 x26_2).f0).length c308_0, .bool ((rd_T30 l0_3 x26_2).f1), .int .i64 ((rd_T30 l0_3 x26_2).f2), .slice A308_3 ((rd_T30 l0_3 x26_2).f3).length c308_3] 30 (0, 0)) (by (with_reducible repeat (first | refine blk_drewN ?_ _ | refine blk_drew ?_ | refine blk_alloc ?_ _)); apply blk_put4; (with_reducible repeat (first | refine blk_drewN ?_ _ | refine blk_drew ?_ | refine blk_alloc ?_ _)); exact BK309.out) k_ hk_)⟩)) (below_size bel)); replace HO_5 := Aside0.mk (Kd.R_elder' (by (with_reducible repeat (first | apply Kd.R_alloc | apply Kd.R_drewN | apply Kd.R_drew)); exact (Kd.R_mono (Kd.R_far4 (q := gb309) (Kd.R_mono HO_5.out (fun k_ hk => (⟨hk, hk.2⟩ : _ ∧ k_ ≠ gb309))) (fun _ hk => hk.2)) (fun _ h_ => h_.1))) (Kd.R_base ho0) hb); replace HO_6 := Aside0.mk (Kd.R_elder' (by (with_reducible repeat (first | apply Kd.R_alloc | apply Kd.R_drewN | apply Kd.R_drew)); exact (Kd.R_mono (Kd.R_far4 (q := gb309) (Kd.R_mono HO_6.out (fun k_ hk => (⟨hk, hk.2⟩ : _ ∧ k_ ≠ gb309))) (fun _ hk => hk.2)) (fun _ h_ => h_.1))) (Kd.R_base ho0) hb); replace BK301 := Aside0.mk (blk_below (g := gb301) (o := .cells #[.slice A0_0 l0_0.length c0_0, .bool a0_1, .int .i64 a0_2, .slice (some ad308) l0_3.length c0_3] 30 (0, 0)) (by (with_reducible repeat (first | refine blk_drewN ?_ _ | refine blk_drew ?_ | refine blk_alloc ?_ _)); refine blk_far4 ?_ NB301_309.out; (with_reducible repeat (first | refine blk_drewN ?_ _ | refine blk_drew ?_ | refine blk_alloc ?_ _)); exact BK301.out) hb); replace BK309 := Aside0.mk (blk_below (g := gb309) (o := .cells #[.slice A308_0 ((rd_T30 l0_3 x26_2).f0).length c308_0, .bool ((rd_T30 l0_3 x26_2).f1), .int .i64 ((rd_T30 l0_3 x26_2).f2), .slice A308_3 ((rd_T30 l0_3 x26_2).f3).length c308_3] 30 (0, 0)) (by (with_reducible repeat (first | refine blk_drewN ?_ _ | refine blk_drew ?_ | refine blk_alloc ?_ _)); apply blk_put4; (with_reducible repeat (first | refine blk_drewN ?_ _ | refine blk_drew ?_ | refine blk_alloc ?_ _)); exact BK309.out) hb); replace HB := bst hb; (try clear hb); (try clear hb2); (try clear hk); (try clear hi); (try clear ho0); obtain ⟨Ao26, co26, eo26⟩ := Kd.R_slice HO312.out; subst eo26) | ((with_reducible refine gate_builtin (b := .append) (xs := #[.tmp 30, .tmp 33]) rfl ?_); at_builtin; refine Kd.R_append_rowsO k84 (w0 := w) w.heap.size rfl (.tmp 30) (.tmp 33) 80 84 (.agg #[(.slice none 0 0), (.int .i64 0)]) 32 rfl Try.underlying80 info84 rfl (by decide) (by omega) u6 x6_2 t310 _ _ _ (fun k_ => (w.heap.size ≤ k_) ∧ k_ ≠ gb301 ∧ k_ ≠ gb309) (fun k_ => ((fun k_ => (w.heap.size ≤ k_) ∧ k_ ≠ gb301 ∧ k_ ≠ gb309)) k_ ∧ some k_ ≠ (u6 : Value).ownBlock) rfl rfl ?aO ?aR (fun _ hk => hk) ?aF ?aB ?aS ?aL ?_; (case aR => exact (by skip; exact Kd.R_F (Kd.R_mono (ok' := (fun k_ => ((fun k_ => (w.heap.size ≤ k_) ∧ k_ ≠ gb301 ∧ k_ ≠ gb309)) k_ ∧ some k_ ≠ (u6 : Value).ownBlock)) (HO312.out) (fun k_ hk => ⟨⟨hk.1, ⟨hk.2.2.1, hk.2.2.2⟩⟩, hk.2.1⟩)))); (case aB => exact bel); (case aF => exact (fun k_ hk => ⟨(Nat.le_trans (below_size bel) hk), Kd.freshB (bkp BK301) k_ hk, Kd.freshB (bkp BK309) k_ hk⟩)); (case aO => exact (Kd.R_mono (rkp HO_6) (fun _ hk => ⟨hk.1.1.1, ⟨hk.1.1.2, hk.1.2⟩⟩))); (case aS => exact (below_size bel)); (case aL => have := LMc19.out; omega); intro v314 w25 ho hb hg hat; rw [← Ny313.out] at ho; have n0_ := Aside0.mk (Kd.R_after (ok := (fun k_ => (w.heap.size ≤ k_) ∧ some k_ ≠ (.slice Ao26 t310.length co26 : Value).ownBlock ∧ k_ ≠ gb301 ∧ k_ ≠ gb309)) (Kd.R_mono (rkp HO_5) (fun _ hk => ⟨⟨hk.1.1.1, ⟨hk.2, ⟨hk.1.1.2.2, hk.1.2⟩⟩⟩, hk.1.1.2.1⟩)) hg hat); have n1_ := Aside0.mk (blk_grown (g := gb301) (o := .cells #[.slice A0_0 l0_0.length c0_0, .bool a0_1, .int .i64 a0_2, .slice (some ad308) l0_3.length c0_3] 30 (0, 0)) (bkp BK301) hg (Kd.R_ne HO_6.out BK301.out (by decide))); have n2_ := Aside0.mk (blk_grown (g := gb309) (o := .cells #[.slice A308_0 ((rd_T30 l0_3 x26_2).f0).length c308_0, .bool ((rd_T30 l0_3 x26_2).f1), .int .i64 ((rd_T30 l0_3 x26_2).f2), .slice A308_3 ((rd_T30 l0_3 x26_2).f3).length c308_3] 30 (0, 0)) (bkp BK309) hg (Kd.R_ne HO_6.out BK309.out (by decide))); have n3_ := Aside0.mk (Kd.R_after (ok := (fun k_ => (w.heap.size ≤ k_) ∧ k_ ≠ gb301 ∧ k_ ≠ gb309)) (Kd.R_mono (rkp HO312) (fun _ hk => ⟨⟨hk.1, ⟨hk.2.2.1, hk.2.2.2⟩⟩, hk.2.1⟩)) hg hat); have n4_ := Aside0.mk (hb); have n5_ := Aside0.mk (ho); clear HO_5; clear BK301; clear BK309; clear HO312; clear HB; clear HO_6; have HO_5 := n0_; have BK301 := n1_; have BK309 := n2_; have HO312 := n3_; have HB := n4_; have HO315 := n5_; clear n0_ n1_ n2_ n3_ n4_ n5_; clear ho hb hg hat))
         go_roundg k2
         case measure => have := HJ3.out; have := HK2.out; omega
         case rel => exact ⟨(y313), (wrap64 (x26_2 + 1)), rs_, H', ⟨by have := HJ3.out; have := HK2.out; omega⟩, ⟨Kd.R_mono (rkp HO_5) (fun _ hk => ⟨hk.1.1, ⟨hk.2, hk.1.2.2.1⟩⟩)⟩, ⟨Kd.R_mono (rkp HO315) (fun _ hk => ⟨hk.1, hk.2.1⟩)⟩, ⟨bkp BK301⟩, ⟨bel⟩⟩
        rw [if_neg c19] at H; exact absurd H (by simp)
       rw [if_neg c17] at H; exact absurd H (by simp)
      rw [if_neg c16] at H; exact absurd H (by simp)
     rw [if_neg c15] at H; have c15b0 : decide (x26_2 < (l0_3.length : Int)) = false := decide_eq_false c15; clear c15; obtain rfl := Option.some.inj H; go_wp2; go_ret; exact ⟨_, rz_, by (with_reducible repeat (first | apply Kd.R_alloc | apply Kd.R_drewN | apply Kd.R_drew)); exact Kd.R_mono HO_6.out (fun _ hk => hk.1), bel⟩

/-! ### slices_Clone_byte_byte: function 134 -/
def slices_Clone_byte_byte.f (l0 : List Int) : Option (List Int) := if l0.length < 140737488355328 then some l0 else none
set_option maxHeartbeats 8000000 in
set_option maxRecDepth 100000 in
theorem slices_Clone_byte_byte.calls (A0 : Option Addr) (c0 : Nat) (l0 : List Int) (r : List Int) (w : World) (hr0 : Kd.C (Kd.int .u8) w A0 l0.length l0) (hc0 : l0.length ≤ c0) (h : slices_Clone_byte_byte.f l0 = some r) :
  Calls Try.prog 134 #[.slice A0 l0.length c0] w fun e w' => ∃ v0_ : Value, e = .returned (v0_) ∧ Kd.R (Kd.int .u8) 5 w' w.heap.size (fun _ => True) v0_ r ∧ Below w.heap.size w w' := by
 unfold slices_Clone_byte_byte.f at h; by_cases hl : l0.length < 140737488355328
 ·rw [if_pos hl] at h
  obtain rfl := Option.some.inj h; clear h; have LM := Aside0.mk hl; clear hl; have HB := Aside0.mk (Below.refl w.heap.size w); cases A0 with
  | none =>
   have hz : l0.length = 0 := by
    rcases Nat.eq_zero_or_pos l0.length with h | h
    ·exact h
    ·obtain ⟨ad, e, _⟩ := hr0.2.2 h
     cases e
   obtain rfl := List.eq_nil_of_length_eq_zero hz; clear hr0 hc0 hz LM; have hq := Lib.run_eql_slice_nil (P := Try.prog) w 22 5 none 0 c0 0 0 Try.underlying22; go_enter Try.func134, Try.ntmps134; go_wp2; go_ret; exact ⟨_, rfl, Kd.R_nil _ _ _ _ _, Below.refl _ _⟩
  | some ad =>
   have HR0 := Aside0.mk hr0; have HC0 := Aside0.mk hc0; clear hr0 hc0; obtain ⟨m, hm⟩ : ∃ m, m = l0.length := ⟨_, rfl⟩; have HM := Aside0.mk hm; have hq := Lib.run_eql_slice_nil (P := Try.prog) w 22 5 (some ad) l0.length c0 0 0 Try.underlying22; go_enter Try.func134, Try.ntmps134
   go_wp2_with (first | ((with_reducible refine gate_dst (N := 5) rfl ?_); refine Kd.R_lit (Kd.int .u8) _ 5 ?hg (N := 5) ?hd (xs := ([] : List Int)) (inner := []) (ok := fun _ => True) (okp := fun _ => True) ?hr ?hp (fun _ hk => hk) trivial (Below.refl _ _) (Nat.le_refl _) (by simp) ?_; (case hd => rfl); (case hg => rfl); (case hr => first | (go_simp; done) | (go_simp; rfl)); (case hp => exact (Reps.none _ _)); intro v111 w5 ho6 hb hg_ hnew_; clear hg_ hnew_; have HO112 := Aside0.mk ho6; have n1_ := Aside0.mk (below_step (by repeat (first | (with_reducible first | exact HB.out | apply below_alloc | apply pw_below_drewN | apply below_drew1) | exact HB.out)) hb); clear HB; have HB := n1_; clear n1_; clear hb ho6) | ((with_reducible refine gate_builtin (b := .append) (xs := #[.tmp 5, .tmp 6]) rfl ?_); at_builtin; refine Kd.R_append_rows (Kd.int .u8) (w0 := w) w.heap.size rfl (.tmp 5) (.tmp 6) 22 5 (.int .u8 0) 1 rfl Try.underlying22 info5 rfl (by decide) (by omega) v111 [] l0 _ _ _ (fun _ => True) (fun _ => False) rfl rfl ?aO ?aR (fun _ _ h => h) (fun _ h => h.elim) ?aF ?aB ?aS ?aL ?_; (case aR => repeat (first | exact (Kd.C_below HR0.out HB.out) | (with_reducible refine Kd.C_alloc ?_ _) | (with_reducible refine Kd.C_drewN ?_ _) | (with_reducible refine Kd.C_drew ?_))); (case aB => exact (by repeat (first | (with_reducible first | exact HB.out | apply below_alloc | apply pw_below_drewN | apply below_drew1) | exact HB.out))); (case aF => exact (fun _ _ => trivial)); (case aO => exact (rkp HO112)); (case aS => exact (below_size (by repeat (first | (with_reducible first | exact HB.out | apply below_alloc | apply pw_below_drewN | apply below_drew1) | exact HB.out)))); (case aL => have := LM.out; simp; omega); intro v114 w7 ho hb hg hat; have n0_ := Aside0.mk (hb); have n1_ := Aside0.mk (ho); clear HB; clear HO112; have HB := n0_; have HO115 := n1_; clear n0_ n1_; clear ho hb hg hat))
   go_ret; exact ⟨_, rfl, Kd.R_lower HO115.out (Nat.le_refl _), HB.out⟩
 rw [if_neg hl] at h; exact absurd h (by simp)

/-! ### impl_Common: function 135 -/
def impl_Common.l0 : Nat → List Int → List Int → Int → Option (Int)
 | 0, _, _, _ => none
 | k + 1, x0, x1, x5 => if x5 < (x0.length : Int) then (if x5 < (x1.length : Int) then (if 0 ≤ x5 then (if (rd x0 x5) = (rd x1 x5) then (impl_Common.l0 k x0 x1 (wrap64 (x5 + 1))) else (some x5)) else (none)) else (some x5)) else (some x5)
def impl_Common.f (k : Nat) (l0 : List Int) (l1 : List Int) : Option (Int) := impl_Common.l0 k l0 l1 0
set_option maxHeartbeats 8000000 in
set_option maxRecDepth 100000 in
theorem impl_Common.calls (k : Nat) (A0 : Option Addr) (c0 : Nat) (l0 : List Int) (A1 : Option Addr) (c1 : Nat) (l1 : List Int) (r : Int) (w : World) (hr0 : Kd.C (Kd.int .u8) w A0 l0.length l0) (hc0 : l0.length ≤ c0) (hr1 : Kd.C (Kd.int .u8) w A1 l1.length l1) (hc1 : l1.length ≤ c1) (h : impl_Common.f k l0 l1 = some r) :
  Calls Try.prog 135 #[.slice A0 l0.length c0, .slice A1 l1.length c1] w fun e w' => e = .returned (.int .i64 r) ∧ Drawn0 w w' := by
 have HR0 := Aside0.mk hr0; have HC0 := Aside0.mk hc0; clear hr0 hc0; have HR1 := Aside0.mk hr1; have HC1 := Aside0.mk hc1; clear hr1 hc1; have H : (impl_Common.l0 k l0 l1 0) = some r := h; clear h; have H' := Aside0.mk H; clear H; go_enter Try.func135, Try.ntmps135; go_wp2; repeat (go_quiet (fail); try go_wp2)
 go_loopg [5] k (fun kq v5 w' => ∃ (x5_1 : Int), v5 = .int .i64 x5_1 ∧ Aside0 (impl_Common.l0 kq l0 l1 x5_1 = some r) ∧ Aside0 (kq ≤ k) ∧ Drawn0 w w')
 case atStart => exact ⟨(0), rs_, H', ⟨Nat.le_refl _⟩, by repeat (first | exact Drawn0.refl _ | apply Drawn0.step)⟩
 case round =>
  clear H'; try clear c1; try clear p2
  obtain ⟨x5_1, rfl, HA, HK1, ⟨m1, rfl⟩⟩ := hrel; cases gk with
  | zero => exact absurd HA.out (by simp [impl_Common.l0])
  | succ k1 =>
   have H := HA.out; clear HA; simp only [impl_Common.l0] at H; by_cases c3 : x5_1 < (l0.length : Int)
   ·rw [if_pos c3] at H
    have c3b0 : decide (x5_1 < (l0.length : Int)) = true := decide_eq_true c3; clear c3; by_cases c4 : x5_1 < (l1.length : Int)
    ·rw [if_pos c4] at H
     have c4b0 : decide (x5_1 < (l1.length : Int)) = true := decide_eq_true c4; clear c4; by_cases c5 : 0 ≤ x5_1
     ·rw [if_pos c5] at H
      have c5b0 : decide (0 ≤ x5_1) = true := decide_eq_true c5; clear c5; by_cases c6 : (rd l0 x5_1) = (rd l1 x5_1)
      ·rw [if_pos c6] at H
       have c6b0 : ((rd l0 x5_1) == (rd l1 x5_1)) = true := beq_iff_eq.mpr c6; have c6b1 : ((rd l0 x5_1) != (rd l1 x5_1)) = false := bne_eq_false_iff_eq.mpr c6; clear c6; have H' := Aside0.mk H; clear H; have p316 : 0 ≤ (x5_1 : Int) := od; have q316 : x5_1 < (l0.length : Int) := od; obtain ⟨ad316, e316, hx316_0⟩ := Kd.at_int HR0.out x5_1 p316 q316; cases e316; replace p316 := eq_true p316; replace q316 := eq_true q316; have p317 : 0 ≤ (x5_1 : Int) := od; have q317 : x5_1 < (l1.length : Int) := od; obtain ⟨ad317, e317, hx317_0⟩ := Kd.at_int HR1.out x5_1 p317 q317; cases e317
       replace p317 := eq_true p317; replace q317 := eq_true q317; go_wp2; repeat (go_quiet (fail); try go_wp2)
       go_roundg k1
       case measure => have := HK1.out; omega
       case rel => exact ⟨(wrap64 (x5_1 + 1)), rs_, H', ⟨by have := HK1.out; omega⟩, by repeat (first | exact Drawn0.refl _ | apply Drawn0.step)⟩
      rw [if_neg c6] at H; have c6b0 : ((rd l0 x5_1) == (rd l1 x5_1)) = false := beq_eq_false_iff_ne.mpr c6; have c6b1 : ((rd l0 x5_1) != (rd l1 x5_1)) = true := bne_iff_ne.mpr c6; obtain rfl := Option.some.inj H; have p316 : 0 ≤ (x5_1 : Int) := od; have q316 : x5_1 < (l0.length : Int) := od; obtain ⟨ad316, e316, hx316_0⟩ := Kd.at_int HR0.out x5_1 p316 q316; cases e316; replace p316 := eq_true p316; replace q316 := eq_true q316; have p317 : 0 ≤ (x5_1 : Int) := od; have q317 : x5_1 < (l1.length : Int) := od; obtain ⟨ad317, e317, hx317_0⟩ := Kd.at_int HR1.out x5_1 p317 q317; cases e317
      replace p317 := eq_true p317; replace q317 := eq_true q317; go_wp2; repeat (go_quiet (fail); try go_wp2)
      go_ret; exact ⟨by first | rfl | (simp; done) | (simp [*]; done), by repeat (first | exact Drawn0.refl _ | apply Drawn0.step)⟩
     rw [if_neg c5] at H; exact absurd H (by simp)
    rw [if_neg c4] at H; have c4b0 : decide (x5_1 < (l1.length : Int)) = false := decide_eq_false c4; clear c4; obtain rfl := Option.some.inj H; go_wp2; repeat (go_quiet (fail); try go_wp2)
    go_ret; exact ⟨by first | rfl | (simp; done) | (simp [*]; done), by repeat (first | exact Drawn0.refl _ | apply Drawn0.step)⟩
   rw [if_neg c3] at H; have c3b0 : decide (x5_1 < (l0.length : Int)) = false := decide_eq_false c3; clear c3; obtain rfl := Option.some.inj H; go_wp2; repeat (go_quiet (fail); try go_wp2)
   go_ret; exact ⟨by first | rfl | (simp; done) | (simp [*]; done), by repeat (first | exact Drawn0.refl _ | apply Drawn0.step)⟩

end Go.Proofs.Ytoaddpfoecggpaa.PW
