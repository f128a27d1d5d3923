-- Written for this claim by the session's program pp.py, out of the kit's print and the seat's translation.
import Derived.Test.YtoaddpfoecggpaaPVx0
import Derived.Test.YtoaddpfoecggpaaPVx8
namespace Go.Proofs.Ytoaddpfoecggpaa.PV
open Go.RowKit Go.Proofs.YtoaddpfoecggpaaW.PrintWords Go.Proofs.YtoaddpfoecggpaaW.PrintLast Go.Proofs.YtoaddpfoecggpaaW.PrintMore
attribute [local go_sem] max2_int min2_int max_two min_two max_three min_three max_four min_four   -- for this text's walks alone
set_option linter.unusedVariables false
set_option linter.unusedSimpArgs false

/-! ### impl_TreeOk: function 18 -/
def impl_TreeOk.f (k : Nat) (l0_0 : List Int) (a0_1 : Bool) (a0_2 : Int) (l0_3 : List (S30)) : Option (Bool) := (impl_scan.f k l0_0 a0_1 a0_2 l0_3 0 0 0).bind fun t => some t.1
set_option maxHeartbeats 8000000 in
set_option maxRecDepth 100000 in
theorem impl_TreeOk.calls (k : Nat) (A0_0 : Option Addr) (c0_0 : Nat) (l0_0 : List Int) (a0_1 : Bool) (a0_2 : Int) (A0_3 : Option Addr) (c0_3 : Nat) (l0_3 : List (S30)) (r : Bool) (w : World) (hr0_0 : Kd.C (Kd.int .u8) w A0_0 l0_0.length l0_0) (hc0_0 : l0_0.length ≤ c0_0) (hr0_3 : Kd.C k30 w A0_3 l0_3.length l0_3) (hc0_3 : l0_3.length ≤ c0_3) (h : impl_TreeOk.f k l0_0 a0_1 a0_2 l0_3 = some r) :
  Calls Try.prog 18 #[.agg #[.slice A0_0 l0_0.length c0_0, .bool a0_1, .int .i64 a0_2, .slice A0_3 l0_3.length c0_3]] w fun e w' => e = .returned (.bool r) ∧ Below w.heap.size w w' := by
 have hu30 := Try.underlying30; have HR0_0 := Aside0.mk hr0_0; have HC0_0 := Aside0.mk hc0_0; have HR0_3 := Aside0.mk hr0_3; have HC0_3 := Aside0.mk hc0_3; clear hr0_0 hc0_0 hr0_3 hc0_3; have HB := Aside0.mk (Below.refl w.heap.size w); obtain ⟨⟨t1, t2⟩, A20, H⟩ := Option.bind_eq_some_iff.mp h; clear h; obtain rfl := Option.some.inj H; clear H; have A2 := Aside0.mk A20; clear A20; go_enter Try.func18, Try.ntmps18
 go_wp2_with (first
  | ((with_reducible refine gate_dst (N := 1) rfl ?_); refine bx_ 1 #[.slice A0_0 l0_0.length c0_0, .bool a0_1, .int .i64 a0_2, .slice A0_3 l0_3.length c0_3] 30 (h := ?_); intro gb1 hg w1 hbox hb; have BK1 := Aside0.mk (hbox); have GW1 := Aside0.mk ((by rw [hg]; exact (below_size bel) : w.heap.size ≤ gb1)); replace HB := bst hb; clear hb hbox hg)
  | ((with_reducible refine gate_dst (N := 3) rfl ?_); refine bx_ 3 #[.int .i64 0] 3 (h := ?_); intro gb2 hg w2 hbox hb; have BK2 := Aside0.mk (hbox); have GW2 := Aside0.mk ((by rw [hg]; exact (below_size bel) : w.heap.size ≤ gb2)); have NB1_2 := Aside0.mk ((by rw [hg]; exact Nat.ne_of_lt (blt BK1) : gb1 ≠ gb2)); have NB2_1 := Aside0.mk NB1_2.out.symm; replace BK1 := Aside0.mk (blb BK1 hb); replace HB := bst hb; clear hb hbox hg; have hnb := NB1_2.out; have hnc := NB2_1.out; have C1_0 : w2.cell? ⟨gb1, 0, none⟩ = some (.slice A0_0 l0_0.length c0_0) := (blk_cell BK1.out 0).trans rfl; have C1_1 : w2.cell? ⟨gb1, 1, none⟩ = some (.bool a0_1) := (blk_cell BK1.out 1).trans rfl; have C1_2 : w2.cell? ⟨gb1, 2, none⟩ = some (.int .i64 a0_2) := (blk_cell BK1.out 2).trans rfl; have C1_3 : w2.cell? ⟨gb1, 3, none⟩ = some (.slice A0_3 l0_3.length c0_3) := (blk_cell BK1.out 3).trans rfl; have C2 : w2.cell? ⟨gb2, 0, none⟩ = some (.int .i64 0) := (blk_cell BK2.out 0).trans rfl; have F2 := blk_frozen BK2.out 0; have HI := Aside0.mk (show IsS3 w w2 gb2 0 from ⟨BK2.out, GW2.out⟩))
  | (go_at_call 62; (refine (impl_scan.calls k A0_0 c0_0 l0_0 a0_1 a0_2 A0_3 c0_3 l0_3 0 0 gb2 0 t1 t2 w _ ?s1 ?s2 ?s3 ?s4 ?s5 ?s6 ?s7 A2.out).mono ?_); (case s1 => exact (IsS3.set_0 HI.out 0)); (case s2 => exact (below_set HB.out GW2.out)); (case s3 => exact (Kd.C_below HR0_0.out (below_set HB.out GW2.out))); (case s4 => exact HC0_0.out); (case s5 => exact (Kd.far_C (0 : Int) HR0_0.out GW2.out)); (case s6 => exact (Kd.C_foot_came k30_heap HR0_3.out (below_set HB.out GW2.out) GW2.out)); (case s7 => exact HC0_3.out); rintro e w3 ⟨rfl, -, hb, -⟩; have HB3 := Aside0.mk hb; clear hb))
 go_ret; exact ⟨rfl, HB3.out⟩

/-! ### slices_Grow_byte_byte: function 131 -/
def slices_Grow_byte_byte.f (l0 : List Int) (a1 : Int) : Option (List Int) := if 0 ≤ a1 then (if a1 < 140737488355328 then some [] else none) else none
set_option maxHeartbeats 8000000 in
set_option maxRecDepth 100000 in
/-- (At a nil slice: what is handed in is not looked at.) -/
theorem slices_Grow_byte_byte.calls (A0 : Option Addr) (c0 : Nat) (l0 : List Int) (a1 : Int) (r : List Int) (w : World) (hr0 : Kd.C (Kd.int .u8) w A0 l0.length l0) (hc0 : l0.length ≤ c0) (h : slices_Grow_byte_byte.f l0 a1 = some r) :
  Calls Try.prog 131 #[.slice none 0 0, .int .i64 a1] w fun e w' => ∃ v0_ : Value, e = .returned (v0_) ∧ Kd.R (Kd.int .u8) 5 w' w.heap.size (fun _ => True) v0_ r ∧ Below w.heap.size w w' := by
 clear hr0 hc0; unfold slices_Grow_byte_byte.f at h; by_cases h0 : 0 ≤ a1
 case neg =>
  rw [if_neg h0] at h; exact absurd h (by simp)
 by_cases h1 : a1 < 140737488355328
 case neg =>
  rw [if_pos h0, if_neg h1] at h; exact absurd h (by simp)
 rw [if_pos h0, if_pos h1] at h; obtain rfl := Option.some.inj h; clear h; have HB := Aside0.mk (Below.refl w.heap.size w); have hn : decide (a1 < 0) = false := decide_eq_false (by omega); have hw : wrap64 a1 = a1 := by unfold wrap64; omega
 by_cases hp : 0 < a1
 ·have hp' : decide (0 < a1) = true := decide_eq_true hp
  have HP := Aside0.mk hp; have HH := Aside0.mk h1; have HW := Aside0.mk hw; clear h0 h1 hp; go_enter Try.func131, Try.ntmps131
  go_wp2_with (((with_reducible refine gate_builtin (b := .append) (xs := #[.tmp 20, .tmp 21]) rfl ?_); at_builtin; refine Kd.R_append_zeros (Kd.int .u8) (w0 := w) w.heap.size rfl (.tmp 20) (.tmp 21) 22 3 5 (.int .u8 0) 1 rfl Try.underlying22 Try.underlying3 info5 rfl (by decide) (by omega) (.slice none 0 0) [] (0 : Int) (wrap64 a1) (fun _ => True) rfl rfl rfl (fun _ _ => trivial) (Kd.R_nil _ _ _ _ _) (by have := HP.out; have := HW.out; omega) HB.out ?aS ?aL ?_; (case aS => exact below_size HB.out); (case aL => have := HH.out; have := HP.out; have := HW.out; simp; omega); intro v1 w1 ho hb hg hat; obtain ⟨A1, c1, e1⟩ := Kd.R_slice ho; subst e1; have HO := Aside0.mk ho; replace HB := Aside0.mk hb; clear ho hb hg hat))
  go_ret; exact ⟨_, rfl, Kd.R_take HO.out (Nat.zero_le _), HB.out⟩
 have hz : a1 = 0 := by omega
 subst hz; clear h0 h1 hp hn hw; go_enter Try.func131, Try.ntmps131; go_wp2; go_ret; exact ⟨_, rfl, Kd.R_nil _ _ _ _ _, HB.out⟩

/-! ### slices_Concat_byte_byte: function 110 -/
mutual
def slices_Concat_byte_byte.l0 : Nat → List (List Int) → Int → List (List Int) → Int → Int → Option (List Int)
 | 0, _, _, _, _, _ => none
 | k + 1, x0, x3, x9, x10, x11 => if x11 < x10 then (if 0 ≤ x11 then (if x11 < (x9.length : Int) then (if (wrap64 (x3 + ((rd_L1 x9 x11).length : Int))) < 0 then (none) else (slices_Concat_byte_byte.l0 k x0 (wrap64 (x3 + ((rd_L1 x9 x11).length : Int))) x9 x10 (wrap64 (x11 + 1)))) else (none)) else (none)) else ((slices_Grow_byte_byte.f ([] : List Int) x3).bind fun t301 => (slices_Concat_byte_byte.l1 k t301 x0 (x0.length : Int) 0))
def slices_Concat_byte_byte.l1 : Nat → List Int → List (List Int) → Int → Int → Option (List Int)
 | 0, _, _, _, _ => none
 | k + 1, x6, x25, x26, x27 => if x27 < x26 then (if 0 ≤ x27 then (if x27 < (x25.length : Int) then (if x6.length + (rd_L1 x25 x27).length < 140737488355328 then (slices_Concat_byte_byte.l1 k (x6 ++ (rd_L1 x25 x27)) x25 x26 (wrap64 (x27 + 1))) else (none)) else (none)) else (none)) else (some x6)
end
def slices_Concat_byte_byte.f (k : Nat) (l0 : List (List Int)) : Option (List Int) := slices_Concat_byte_byte.l0 k l0 0 l0 (l0.length : Int) 0
set_option maxHeartbeats 8000000 in
set_option maxRecDepth 100000 in
theorem slices_Concat_byte_byte.callsR (k : Nat) (A0 : Option Addr) (c0 : Nat) (l0 : List (List Int)) (r : List Int) (w : World) (hr0 : Kd.C (Kd.slice 5 (Kd.int .u8)) w A0 l0.length l0) (hc0 : l0.length ≤ c0) (h : slices_Concat_byte_byte.f k l0 = some r) :
  Calls Try.prog 110 #[.slice A0 l0.length c0] w fun e w' => ∃ v0_ : Value, e = .returned (v0_) ∧ Kd.R (Kd.int .u8) 5 w' w.heap.size (fun _ => True) v0_ r ∧ Below w.heap.size w w' := by
 have HR0 := Aside0.mk hr0; have HC0 := Aside0.mk hc0; clear hr0 hc0; have HB := Aside0.mk (Below.refl w.heap.size w); have H : (slices_Concat_byte_byte.l0 k l0 0 l0 (l0.length : Int) 0) = some r := h; clear h; have H' := Aside0.mk H; clear H; go_enter Try.func110, Try.ntmps110; go_wp2; go_loopg [3, 11] k (fun kq v3 v11 w' => ∃ (x3_1 : Int) (x11_1 : Int), v3 = .int .i64 x3_1 ∧ v11 = .int .i64 x11_1 ∧ Aside0 (slices_Concat_byte_byte.l0 kq l0 x3_1 l0 (l0.length : Int) x11_1 = some r) ∧ Aside0 (kq ≤ k) ∧ Aside0 (Below w.heap.size w w'))
 case atStart => exact ⟨(0), (0), rs_, rs_, H', ⟨Nat.le_refl _⟩, ⟨bel⟩⟩
 case round =>
  clear H'; try clear c1
  obtain ⟨x3_1, x11_1, rfl, rfl, HA, HK1, HB⟩ := hrel; cases gk with
  | zero => exact absurd HA.out (by simp [slices_Concat_byte_byte.l0])
  | succ k1 =>
   have H := HA.out; clear HA; simp only [slices_Concat_byte_byte.l0] at H; by_cases c2 : x11_1 < (l0.length : Int)
   ·rw [if_pos c2] at H
    have c2b0 : decide (x11_1 < (l0.length : Int)) = true := decide_eq_true c2; clear c2; by_cases c3 : 0 ≤ x11_1
    ·rw [if_pos c3] at H
     have c3b0 : decide (0 ≤ x11_1) = true := decide_eq_true c3; clear c3; by_cases c4 : x11_1 < (l0.length : Int)
     ·rw [if_pos c4] at H
      have c4b0 : decide (x11_1 < (l0.length : Int)) = true := decide_eq_true c4; clear c4; by_cases c5 : (wrap64 (x3_1 + ((rd_L1 l0 x11_1).length : Int))) < 0
      ·rw [if_pos c5] at H
       exact absurd H (by simp)
      rw [if_neg c5] at H; have c5b0 : decide ((wrap64 (x3_1 + ((rd_L1 l0 x11_1).length : Int))) < 0) = false := decide_eq_false c5; clear c5; have H' := Aside0.mk H; clear H; have p300 : 0 ≤ (x11_1 : Int) := od; have q300 : x11_1 < (l0.length : Int) := od; obtain ⟨ad300, A300_0, c300_0, e300, hx300_0, hl300_0, hi300_0⟩ := at_L1 HR0.out x11_1 p300 q300; cases e300; replace hx300_0 := hxb HB hx300_0; have HR300_0 := Aside0.mk hi300_0; have HC300_0 := Aside0.mk hl300_0; clear hi300_0 hl300_0; replace p300 := eq_true p300; replace q300 := eq_true q300; go_wp2; go_roundg k1
      case measure => have := HK1.out; omega
      case rel => exact ⟨(wrap64 (x3_1 + ((rd_L1 l0 x11_1).length : Int))), (wrap64 (x11_1 + 1)), rs_, rs_, H', ⟨by have := HK1.out; omega⟩, ⟨bel⟩⟩
     rw [if_neg c4] at H; exact absurd H (by simp)
    rw [if_neg c3] at H; exact absurd H (by simp)
   rw [if_neg c2] at H; have c2b0 : decide (x11_1 < (l0.length : Int)) = false := decide_eq_false c2; clear c2; replace H := Option.bind_eq_some_iff.mp H; obtain ⟨t301, A60, H⟩ := H; replace H : (slices_Concat_byte_byte.l1 k1 t301 l0 (l0.length : Int) 0) = some r := H; have A6 := Aside0.mk A60; clear A60; have H' := Aside0.mk H; clear H
   go_wp2_with (first | ((with_reducible refine gate_callee (f := 131) rfl ?_); refine gl_ (some 24) Try.func131 #[.slice none 0 0, .int .i64 x3_1] (h := ?_); (refine (slices_Grow_byte_byte.calls none 0 ([] : List Int) x3_1 t301 _ ?side1 ?side2 A6.out).mono ?_); (case side1 => exact Kd.C_nil _ _); (case side2 => exact Nat.le_refl _); rintro e w7 ⟨v302, rfl, ho0, hb⟩; refine ⟨_, rfl, ?_⟩; have HO303 := Aside0.mk (Kd.R_lower ho0 (below_size bel)); replace HB := bst hb; (try clear hb); (try clear hb2); (try clear hk); (try clear hi); (try clear ho0)))
   go_loopg [6, 27] k1 (fun kq v6 v27 w' => ∃ (x6_2 : List Int) (x27_2 : Int), v27 = .int .i64 x27_2 ∧ Aside0 (slices_Concat_byte_byte.l1 kq x6_2 l0 (l0.length : Int) x27_2 = some r) ∧ Aside0 (kq ≤ k1) ∧ Aside0 (Kd.R (Kd.int .u8) 5 w' w.heap.size (fun _ => True) v6 x6_2) ∧ Aside0 (Below w.heap.size w w'))
   case atStart => exact ⟨(t301), (0), rs_, H', ⟨Nat.le_refl _⟩, ⟨rkp HO303⟩, ⟨bel⟩⟩
   case round =>
    clear H'; try clear c1; try clear c2; try clear c2b0; try clear p2; try clear c3; try clear c3b0; try clear p3; try clear q3; try clear hx3; try clear c4; try clear c4b0; try clear c5; try clear c5b0; try clear p6; try clear hx300_0; try clear p300; try clear q300
    obtain ⟨x6_2, x27_2, rfl, HA, HK2, HO_6, HB⟩ := hrel; cases gk with
    | zero => exact absurd HA.out (by simp [slices_Concat_byte_byte.l1])
    | succ k2 =>
     have H := HA.out; clear HA; simp only [slices_Concat_byte_byte.l1] at H; by_cases c8 : x27_2 < (l0.length : Int)
     ·rw [if_pos c8] at H
      have c8b0 : decide (x27_2 < (l0.length : Int)) = true := decide_eq_true c8; clear c8; by_cases c9 : 0 ≤ x27_2
      ·rw [if_pos c9] at H
       have c9b0 : decide (0 ≤ x27_2) = true := decide_eq_true c9; clear c9; by_cases c10 : x27_2 < (l0.length : Int)
       ·rw [if_pos c10] at H
        have c10b0 : decide (x27_2 < (l0.length : Int)) = true := decide_eq_true c10; clear c10; by_cases c11 : x6_2.length + (rd_L1 l0 x27_2).length < 140737488355328
        ·rw [if_pos c11] at H
         have LMc11 := Aside0.mk c11; clear c11; obtain ⟨y305, hy305⟩ : ∃ y_ : List Int, y_ = (x6_2 ++ (rd_L1 l0 x27_2)) := ⟨_, rfl⟩; replace H : (slices_Concat_byte_byte.l1 k2 y305 l0 (l0.length : Int) (wrap64 (x27_2 + 1))) = some r := by first | (rw [hy305]; with_reducible exact H) | (have H2_ := (Option.bind_some _ _).symm.trans H; rw [hy305]; with_reducible exact H2_) | (have H2_ := (Option.bind_some _ _).symm.trans H; with_reducible exact H2_) | with_reducible exact H | (rw [hy305]; exact H) | exact H
         have Ny305 := Aside0.mk hy305; clear hy305; have H' := Aside0.mk H; clear H; have p304 : 0 ≤ (x27_2 : Int) := od; have q304 : x27_2 < (l0.length : Int) := od; obtain ⟨ad304, A304_0, c304_0, e304, hx304_0, hl304_0, hi304_0⟩ := at_L1 HR0.out x27_2 p304 q304; cases e304; replace hx304_0 := hxb HB hx304_0; have HR304_0 := Aside0.mk hi304_0; have HC304_0 := Aside0.mk hl304_0; clear hi304_0 hl304_0; replace p304 := eq_true p304; replace q304 := eq_true q304
         go_wp2_with (first | ((with_reducible refine gate_builtin (b := .append) (xs := #[.tmp 31, .tmp 32]) rfl ?_); at_builtin; refine Kd.R_append_rows (Kd.int .u8) (w0 := w) w.heap.size rfl (.tmp 31) (.tmp 32) 22 5 (.int .u8 0) 1 rfl Try.underlying22 info5 rfl (by decide) (by omega) u6 x6_2 (rd_L1 l0 x27_2) _ _ _ (fun _ => True) (fun _ => False) rfl rfl ?aO ?aR (fun _ _ h => h) (fun _ h => h.elim) ?aF ?aB ?aS ?aL ?_; (case aR => repeat (first | exact (Kd.C_below HR304_0.out HB.out) | (with_reducible refine Kd.C_alloc ?_ _) | (with_reducible refine Kd.C_drewN ?_ _) | (with_reducible refine Kd.C_drew ?_))); (case aB => exact bel); (case aF => exact (fun _ _ => trivial)); (case aO => exact (rkp HO_6)); (case aS => exact (below_size bel)); (case aL => have := LMc11.out; omega); intro v306 w12 ho hb hg hat; rw [← Ny305.out] at ho; have n0_ := Aside0.mk (hb); have n1_ := Aside0.mk (ho); clear HB; clear HO_6; have HB := n0_; have HO307 := n1_; clear n0_ n1_; clear ho hb hg hat))
         go_roundg k2
         case measure => have := HK1.out; have := HK2.out; omega
         case rel => exact ⟨(y305), (wrap64 (x27_2 + 1)), rs_, H', ⟨by have := HK1.out; have := HK2.out; omega⟩, ⟨rkp HO307⟩, ⟨bel⟩⟩
        rw [if_neg c11] at H; exact absurd H (by simp)
       rw [if_neg c10] at H; exact absurd H (by simp)
      rw [if_neg c9] at H; exact absurd H (by simp)
     rw [if_neg c8] at H; have c8b0 : decide (x27_2 < (l0.length : Int)) = false := decide_eq_false c8; clear c8; obtain rfl := Option.some.inj H; go_wp2; go_ret; exact ⟨_, rz_, by (with_reducible repeat (first | apply Kd.R_alloc | apply Kd.R_drewN | apply Kd.R_drew)); exact HO_6.out, bel⟩

theorem slices_Concat_byte_byte.calls (k : Nat) (A0 : Option Addr) (c0 : Nat) (l0 : List (List Int)) (r : List Int) (w : World) (hr0 : Kd.C (Kd.slice 5 (Kd.int .u8)) w A0 l0.length l0) (hc0 : l0.length ≤ c0) (h : slices_Concat_byte_byte.f k l0 = some r) :
  Calls Try.prog 110 #[.slice A0 l0.length c0] w fun e w' => ∃ v0_ : Value, e = .returned (v0_) ∧ Kd.V (Kd.int .u8) 5 w' w.heap.size (fun k_ => (w.heap.size ≤ k_)) v0_ r ∧ Below w.heap.size w w' :=
 (slices_Concat_byte_byte.callsR k A0 c0 l0 r w hr0 hc0 h).mono (by rintro e w' ⟨v, rfl, ho, hb⟩; exact ⟨v, rfl, Kd.V_mono (Kd.R_V (Kd.R_bound ho)) (fun _ hk => hk.2.1), hb⟩)

/-! ### virtual_concat2: function 172 -/
theorem virtual_concat2.c2_ {P : Program} {ops : Array Oper} {Q : Exit → Act → World → Prop} {rest : List Oper} {o1 o2 : Oper} {a : Act} {w : World} (N1 N2 : Tmp) {f : FuncId} {fn : Func} (hf : P.funcs[f]? = some fn) (v1 v0 : Value) (e : TypeId) {ar : Array Operand} {ts : Array TypeId}
  (hd1 : o1.dst = some N1 := by exact rfl) (hg1 : o1.guard = none := by exact rfl) (hrun : (execOp a.eval o1).run P w = .ok (.value (.slice (some ⟨w.heap.size, 0, none⟩) 2 2)) (w.alloc (.cells #[v1, v0] e)) := by first | (go_simp; done) | (go_simp; rfl))
  (hd2 : o2.dst = some N2 := by exact rfl) (hg2 : o2.guard = none := by exact rfl) (hname : (fn.name == "runtime.NumGoroutine") = false := by kernel_rfl) (hb : fn.body.isSome = true := by exact rfl)
  (hop : o2.op = .call { callee := .value (.func f), args := ar, argTypes := ts } := by exact rfl) (hargs : ar.map (a.put (some N1) (.slice (some ⟨w.heap.size, 0, none⟩) 2 2)).eval = #[.slice (some ⟨w.heap.size, 0, none⟩) 2 2] := by ((try simp only [List.map_toArray, List.map_cons, List.map_nil]); first | done | rfl))
  (h : Calls P f #[.slice (some ⟨w.heap.size, 0, none⟩) 2 2] (w.alloc (.cells #[v1, v0] e)) fun en w' => ∃ v, en = .returned v ∧ wpList P ops Q rest ((a.put (some N1) (.slice (some ⟨w.heap.size, 0, none⟩) 2 2)).put (some N2) v) w') : wpList P ops Q (o1 :: o2 :: rest) a w := by
 refine Kd.event_run hg1 hrun ?_; rw [hd1]; exact goesL_ (some N2) hd2 hg2 hf hname hb _ hop hargs h
def virtual_concat2.f (k : Nat) (l0 l1 : List Int) : Option (List Int) := slices_Concat_byte_byte.f k [l0, l1]
theorem virtual_concat2.calls (k : Nat) (A0 : Option Addr) (c0 : Nat) (l0 : List Int) (A1 : Option Addr) (c1 : Nat) (l1 : List Int) (r : List Int) (w : World) (hr0 : Kd.C (Kd.int .u8) w A0 l0.length l0) (hc0 : l0.length ≤ c0) (hr1 : Kd.C (Kd.int .u8) w A1 l1.length l1) (hc1 : l1.length ≤ c1) (h : virtual_concat2.f k l0 l1 = some r) :
  Calls Try.prog 110 #[.slice (some ⟨w.heap.size, 0, none⟩) 2 2] (w.alloc (.cells #[.slice A0 l0.length c0, .slice A1 l1.length c1] 22)) fun e w' => ∃ v0_ : Value, e = .returned (v0_) ∧ Kd.R (Kd.int .u8) 5 w' w.heap.size (fun k_ => (w.heap.size ≤ k_)) v0_ r ∧ Below w.heap.size w w' := by
 have hb : Below w.heap.size w (w.alloc (.cells #[.slice A0 l0.length c0, .slice A1 l1.length c1] 22)) := below_alloc (Below.refl _ _) _
 have hC : Kd.C (Kd.slice 5 (Kd.int .u8)) (w.alloc (.cells #[.slice A0 l0.length c0, .slice A1 l1.length c1] 22)) (some ⟨w.heap.size, 0, none⟩) [l0, l1].length [l0, l1] := by
  refine ⟨rfl, by simp, fun _ => ⟨_, rfl, fun j p hj => ?_⟩⟩
  have key : ∀ i u, (#[Value.slice A0 l0.length c0, Value.slice A1 l1.length c1] : Array Value)[i]? = some u → (w.alloc (.cells #[.slice A0 l0.length c0, .slice A1 l1.length c1] 22)).cell? ((⟨w.heap.size, 0, none⟩ : Addr).add i) = some u := by
   intro i u hu; have e : (⟨w.heap.size, 0, none⟩ : Addr).add i = ⟨w.heap.size, i, none⟩ := by unfold Addr.add; split <;> simp_all
   rw [e]; exact (cell_of_row _ _ i _ 22 (0, 0) (heap_alloc_new w _)).trans hu
  match j with
  | 0 =>
   simp at hj; subst hj
   exact ⟨[.slice A0 l0.length c0], rfl, ⟨A0, c0, rfl, hc0, Kd.C_below hr0 hb⟩, fun i u hu => by
    match i with
    | 0 => exact key 0 u (by simpa using hu)
    | i + 1 => simp at hu⟩
  | 1 =>
   simp at hj; subst hj
   exact ⟨[.slice A1 l1.length c1], rfl, ⟨A1, c1, rfl, hc1, Kd.C_below hr1 hb⟩, fun i u hu => by
    match i with
    | 0 => exact key 1 u (by simpa using hu)
    | i + 1 => simp at hu⟩
  | j + 2 => simp at hj
 refine (slices_Concat_byte_byte.callsR k (some ⟨w.heap.size, 0, none⟩) 2 [l0, l1] r _ hC (by simp) h).mono ?_; rintro e w' ⟨v, rfl, ho, hb2⟩; have hsz : w.heap.size ≤ (w.alloc (.cells #[.slice A0 l0.length c0, .slice A1 l1.length c1] 22)).heap.size := hb.size; exact ⟨v, rfl, Kd.R_mono (Kd.R_bound (Kd.R_lower ho hsz)) (fun _ hk => hk.2.1), hb.trans (hb2.mono hsz)⟩

/-! ### impl_Tree_entries: function 65 -/
mutual
def impl_Tree_entries.j0 : Nat → List Int → List (S84) → List Int → Bool → Int → List (S30) → Option ((List (S84)))
 | 0, _, _, _, _, _, _ => none
 | k + 1, x5, x6, x309000, x309001, x309002, x309003 => impl_Tree_entries.l0 k x5 x6 x309003 (x309003.length : Int) 0
def impl_Tree_entries.l0 : Nat → List Int → List (S84) → List (S30) → Int → Int → Option ((List (S84)))
 | 0, _, _, _, _, _ => none
 | k + 1, x5, x6, x24, x25, x26 => if x26 < x25 then (if 0 ≤ x26 then (if x26 < (x24.length : Int) then ((impl_Tree_entries.f k ((rd_T30 x24 x26).f0) ((rd_T30 x24 x26).f1) ((rd_T30 x24 x26).f2) ((rd_T30 x24 x26).f3) x5).bind fun t317 => (if x6.length + t317.length < 4398046511104 then (impl_Tree_entries.l0 k x5 (x6 ++ t317) x24 x25 (wrap64 (x26 + 1))) else (none))) else (none)) else (none)) else (some x6)
def impl_Tree_entries.f : Nat → List Int → Bool → Int → List (S30) → List Int → Option ((List (S84)))
 | 0, _, _, _, _, _ => none
 | k + 1, l0_0, a0_1, a0_2, l0_3, l1 => (virtual_concat2.f k l1 l0_0).bind fun t309 => (if a0_1 = true then (if ([] : List (S84)).length < 4398046511104 then (impl_Tree_entries.j0 k t309 (([] : List (S84)) ++ [(⟨t309, a0_2⟩ : S84)]) l0_0 a0_1 a0_2 l0_3) else (none)) else (impl_Tree_entries.j0 k t309 ([] : List (S84)) l0_0 a0_1 a0_2 l0_3))
end
set_option maxHeartbeats 8000000 in
set_option maxRecDepth 100000 in
theorem impl_Tree_entries.calls (k : Nat) : ∀ (A0_0 : Option Addr) (c0_0 : Nat) (l0_0 : List Int) (a0_1 : Bool) (a0_2 : Int) (A0_3 : Option Addr) (c0_3 : Nat) (l0_3 : List (S30)) (A1 : Option Addr) (c1 : Nat) (l1 : List Int) (r : List (S84)) (w : World) (hr0_0 : Kd.C (Kd.int .u8) w A0_0 l0_0.length l0_0) (hc0_0 : l0_0.length ≤ c0_0) (hr0_3 : Kd.C k30 w A0_3 l0_3.length l0_3) (hc0_3 : l0_3.length ≤ c0_3) (hr1 : Kd.C (Kd.int .u8) w A1 l1.length l1) (hc1 : l1.length ≤ c1) (h : impl_Tree_entries.f k l0_0 a0_1 a0_2 l0_3 l1 = some r),
  Calls Try.prog 65 #[.agg #[.slice A0_0 l0_0.length c0_0, .bool a0_1, .int .i64 a0_2, .slice A0_3 l0_3.length c0_3], .slice A1 l1.length c1] w fun e w' => ∃ v0_ : Value, e = .returned (v0_) ∧ Kd.R k84 84 w' w.heap.size (fun k_ => (w.heap.size ≤ k_)) v0_ r ∧ Below w.heap.size w w' := by
 induction k using Nat.strongRecOn with
 | _ k ih =>
 intro A0_0 c0_0 l0_0 a0_1 a0_2 A0_3 c0_3 l0_3 A1 c1 l1 r w hr0_0 hc0_0 hr0_3 hc0_3 hr1 hc1 h; cases k with
 | zero => exact absurd h (by simp [impl_Tree_entries.f])
 | succ k =>
 simp only [impl_Tree_entries.f] at h; have hu30 := Try.underlying30; have hu84 := Try.underlying84; have HR0_0 := Aside0.mk hr0_0; have HC0_0 := Aside0.mk hc0_0; clear hr0_0 hc0_0; have HR0_3 := Aside0.mk hr0_3; have HC0_3 := Aside0.mk hc0_3; clear hr0_3 hc0_3; have HR1 := Aside0.mk hr1; have HC1 := Aside0.mk hc1; clear hr1 hc1; have HB := Aside0.mk (Below.refl w.heap.size w)
 have H : ((virtual_concat2.f k l1 l0_0).bind fun t309 => (if a0_1 = true then (if ([] : List (S84)).length < 4398046511104 then (impl_Tree_entries.j0 k t309 (([] : List (S84)) ++ [(⟨t309, a0_2⟩ : S84)]) l0_0 a0_1 a0_2 l0_3) else (none)) else (impl_Tree_entries.j0 k t309 ([] : List (S84)) l0_0 a0_1 a0_2 l0_3))) = some r := h; clear h; replace H := Option.bind_eq_some_iff.mp H; obtain ⟨t309, A30, H⟩ := H
 replace H : (if a0_1 = true then (if ([] : List (S84)).length < 4398046511104 then (impl_Tree_entries.j0 k t309 (([] : List (S84)) ++ [(⟨t309, a0_2⟩ : S84)]) l0_0 a0_1 a0_2 l0_3) else (none)) else (impl_Tree_entries.j0 k t309 ([] : List (S84)) l0_0 a0_1 a0_2 l0_3)) = some r := H; have A3 := Aside0.mk A30; clear A30; have HC4 := Aside0.mk H; clear H; go_enter Try.func65, Try.ntmps65
 go_upto_if 15 with (first | ((with_reducible refine gate_dst (N := 2) rfl ?_); refine bx_ 2 #[.slice A0_0 l0_0.length c0_0, .bool a0_1, .int .i64 a0_2, .slice A0_3 l0_3.length c0_3] 30 (h := ?_); intro gb308 hg w5 hbox hb; have BK308 := Aside0.mk (hbox); have GW308 := Aside0.mk ((by rw [hg]; exact (below_size bel) : w.heap.size ≤ gb308)); have GE308 := GW308; replace HB := bst hb; clear hb hbox hg; obtain ⟨C6_0, C6_1, C6_2, C6_3, -⟩ := cells_4 BK308.out trivial; obtain ⟨F6_0, F6_1, F6_2, F6_3, -⟩ := frz_4 BK308.out) | ((with_reducible refine gate_dst (N := 12) rfl ?_); refine virtual_concat2.c2_ 12 13 Try.func110 (.slice A1 l1.length c1) (.slice A0_0 l0_0.length c0_0) 22 (h := ?_); (with_reducible refine (virtual_concat2.calls k _ _ l1 _ _ l0_0 t309 _ ?side1 ?side2 ?side3 ?side4 A3.out).mono ?_); (case side1 => exact kcb); (case side2 => exact HC1.out); (case side3 => exact kcb); (case side4 => exact HC0_0.out); rintro e w7 ⟨v310, rfl, ho0, hb⟩; refine ⟨_, rfl, ?_⟩; have HO311 := Aside0.mk (Kd.R_lower (Kd.R_mono (ok' := fun k_ => (w.heap.size ≤ k_) ∧ k_ ≠ gb308) ho0 (fun k_ hk_ => ⟨(Nat.le_trans (below_size bel) hk_), (Kd.freshB (bkp BK308) k_ hk_)⟩)) (below_size bel)); replace BK308 := Aside0.mk (blb BK308 hb); replace HB := bst hb; (try clear hb); (try clear hb2); (try clear hk); (try clear hi); (try clear ho0); obtain ⟨C8_0, C8_1, C8_2, C8_3, -⟩ := cells_4 BK308.out trivial; obtain ⟨F8_0, F8_1, F8_2, F8_3, -⟩ := frz_4 BK308.out))
 (try simp only [Act.put, List.setIfInBounds_toArray, List.set_cons_zero, List.set_cons_succ])
 go_cut [6] (fun v6 wc => ∃ (kq : Nat) (x6_3 : List (S84)), Aside0 (impl_Tree_entries.j0 kq t309 x6_3 l0_0 a0_1 a0_2 l0_3 = some r) ∧ Aside0 (kq ≤ k) ∧ Aside0 (Kd.R (Kd.int .u8) 5 wc w.heap.size (fun k_ => (w.heap.size ≤ k_) ∧ some k_ ≠ (v6 : Value).ownBlock ∧ k_ ≠ gb308) v310 t309) ∧ Aside0 (Kd.R k84 84 wc w.heap.size (fun k_ => (w.heap.size ≤ k_) ∧ k_ ≠ gb308) v6 x6_3) ∧ Aside0 (wc.heap[gb308]? = some (.cells #[(.slice A0_0 l0_0.length c0_0), .bool a0_1, .int .i64 a0_2, (.slice A0_3 l0_3.length c0_3)] 30 (0, 0))) ∧ Aside0 (Below w.heap.size w wc))
 case first =>
  have H := HC4.out; clear HC4; by_cases c9 : a0_1 = true
  ·subst c9
   have H1 : (if ([] : List (S84)).length < 4398046511104 then (impl_Tree_entries.j0 k t309 (([] : List (S84)) ++ [(⟨t309, a0_2⟩ : S84)]) l0_0 true a0_2 l0_3) else (none)) = some r := by rw [if_pos rfl] at H; exact H
   clear H; have H := H1; clear H1; by_cases c10 : ([] : List (S84)).length < 4398046511104
   ·rw [if_pos c10] at H
    have LMc10 := Aside0.mk c10; clear c10; obtain ⟨y312, hy312⟩ : ∃ y_ : List (S84), y_ = (([] : List (S84)) ++ [(⟨t309, a0_2⟩ : S84)]) := ⟨_, rfl⟩; replace H : (impl_Tree_entries.j0 k t309 y312 l0_0 true a0_2 l0_3) = some r := by first | (rw [hy312]; with_reducible exact H) | (have H2_ := (Option.bind_some _ _).symm.trans H; rw [hy312]; with_reducible exact H2_) | (have H2_ := (Option.bind_some _ _).symm.trans H; with_reducible exact H2_) | with_reducible exact H | (rw [hy312]; exact H) | exact H
    have Ny312 := Aside0.mk hy312; clear hy312; have H' := Aside0.mk H; clear H; obtain ⟨C11_0, C11_1, C11_2, C11_3, -⟩ := cells_4 BK308.out trivial; obtain ⟨F11_0, F11_1, F11_2, F11_3, -⟩ := frz_4 BK308.out; obtain ⟨Ao12, co12, eo12⟩ := Kd.R_slice HO311.out; subst eo12
    go_wp2_with (first | ((with_reducible refine gate_builtin (b := .append) (xs := #[.tmp 16, .tmp 21]) rfl ?_); at_builtin; refine Kd.R_append k84 (w0 := w) w.heap.size rfl (.tmp 16) (.tmp 21) 80 84 (.agg #[(.slice none 0 0), (.int .i64 0)]) 32 rfl Try.underlying80 info84 rfl (by decide) (by omega) (.slice none 0 0) ([] : List (S84)) (⟨t309, a0_2⟩ : S84) [.slice Ao12 t309.length co12, .int .i64 a0_2] (fun k_ => (w.heap.size ≤ k_) ∧ k_ ≠ gb308) (fun k_ => ((fun k_ => (w.heap.size ≤ k_) ∧ k_ ≠ gb308)) k_ ∧ some k_ ≠ (.slice none 0 0 : Value).ownBlock) rfl rfl ?aP (fun _ hk => hk) ?aF ?aO ?aB ?aS ?aL ?_; (case aP => exact (k84_mkM _ _ _ (⟨t309, a0_2⟩ : S84) (Kd.R_mono (ok' := (fun k_ => ((fun k_ => (w.heap.size ≤ k_) ∧ k_ ≠ gb308)) k_ ∧ some k_ ≠ (.slice none 0 0 : Value).ownBlock)) (HO311.out) (fun k_ hk => ⟨⟨hk.1, hk.2⟩, (by simp [Value.ownBlock])⟩)))); (case aB => exact bel); (case aF => exact (fun k_ hk => ⟨(Nat.le_trans (below_size bel) hk), Kd.freshB (bkp BK308) k_ hk⟩)); (case aO => exact ((Kd.R_nil _ _ _ _ (fun k_ => (w.heap.size ≤ k_) ∧ k_ ≠ gb308)))); (case aS => exact (below_size bel)); (case aL => have := LMc10.out; omega); intro v313 w13 ho hb hg hat; rw [← Ny312.out] at ho; have HO314 := Aside0.mk (ho); replace BK308 := Aside0.mk (blk_grown (g := gb308) (o := .cells #[.slice A0_0 l0_0.length c0_0, .bool true, .int .i64 a0_2, .slice A0_3 l0_3.length c0_3] 30 (0, 0)) (bkp BK308) hg (by simp [Value.ownBlock])); replace HO311 := Aside0.mk (Kd.R_after (Kd.R_apart_nil (rkp HO311)) hg hat); replace HB := Aside0.mk (hb); clear ho hb hg hat))
    go_meet
    case rel => exact ⟨_, (y312), H', ⟨by first | omega | exact Nat.le_refl _⟩, ⟨Kd.R_mono (rkp HO311) (fun _ hk => ⟨hk.1.1, ⟨hk.2, hk.1.2⟩⟩)⟩, ⟨rkp HO314⟩, ⟨bkp BK308⟩, ⟨bel⟩⟩
   rw [if_neg c10] at H; exact absurd H (by simp)
  replace c9 := Bool.eq_false_iff.mpr c9; subst c9; have H1 : (impl_Tree_entries.j0 k t309 ([] : List (S84)) l0_0 false a0_2 l0_3) = some r := by rw [if_neg (show ¬ (false = true) by decide)] at H; exact H
  clear H; have H := H1; clear H1; have H' := Aside0.mk H; clear H; go_wp2; go_meet
  case rel => exact ⟨_, (([] : List (S84))), H', ⟨by first | omega | exact Nat.le_refl _⟩, ⟨Kd.R_mono (rkp HO311) (fun _ hk => ⟨hk.1, ⟨(by simp [Value.ownBlock]), hk.2⟩⟩)⟩, ⟨by first | exact Kd.S_nil _ _ _ _ _ | exact Kd.R_nil _ _ _ _ _ | exact Kd.R_nil _ _ _ _ _ | exact Kd.Q_nil _ _ _ _ _ | exact Kd.R_nil _ _ _ _ _⟩, ⟨bkp BK308⟩, ⟨bel⟩⟩
 case rest =>
  clear HC4; try clear c1; try clear p2; try clear c6; try clear c9; try clear c10; try clear C11_0 C11_1 C11_2 C11_3; try clear C6_0 C6_1 C6_2 C6_3; try clear C8_0 C8_1 C8_2 C8_3; try clear F11_0 F11_1 F11_2 F11_3; try clear F6_0 F6_1 F6_2 F6_3; try clear F8_0 F8_1 F8_2 F8_3
  obtain ⟨kq, x6_3, HA, HJ3, HO_5, HO_6, BK308, HB⟩ := hcut; cases kq with
  | zero => exact absurd HA.out (by simp [impl_Tree_entries.j0])
  | succ kj3 =>
   have H := HA.out; clear HA; simp only [impl_Tree_entries.j0] at H; have H' := Aside0.mk H; clear H; obtain ⟨C14_0, C14_1, C14_2, C14_3, -⟩ := cells_4 BK308.out trivial; obtain ⟨F14_0, F14_1, F14_2, F14_3, -⟩ := frz_4 BK308.out; go_wp2
   go_loopg [6, 26] kj3 (fun kq v6 v26 w' => ∃ (x6_2 : List (S84)) (x26_2 : Int), v26 = .int .i64 x26_2 ∧ Aside0 (impl_Tree_entries.l0 kq t309 x6_2 l0_3 (l0_3.length : Int) x26_2 = some r) ∧ Aside0 (kq ≤ kj3) ∧ Aside0 (Kd.R (Kd.int .u8) 5 w' w.heap.size (fun k_ => (w.heap.size ≤ k_) ∧ some k_ ≠ (v6 : Value).ownBlock ∧ k_ ≠ gb308) v310 t309) ∧ Aside0 (Kd.R k84 84 w' w.heap.size (fun k_ => (w.heap.size ≤ k_) ∧ k_ ≠ gb308) v6 x6_2) ∧ Aside0 (w'.heap[gb308]? = some (.cells #[(.slice A0_0 l0_0.length c0_0), .bool a0_1, .int .i64 a0_2, (.slice A0_3 l0_3.length c0_3)] 30 (0, 0))) ∧ Aside0 (Below w.heap.size w w'))
   case atStart => exact ⟨(x6_3), (0), rs_, H', ⟨Nat.le_refl _⟩, ⟨rkp HO_5⟩, ⟨rkp HO_6⟩, ⟨bkp BK308⟩, ⟨bel⟩⟩
   case round =>
    clear H'; try clear c1; try clear p2; try clear c6; try clear c9; try clear c10; try clear C11_0 C11_1 C11_2 C11_3; try clear C14_0 C14_1 C14_2 C14_3; try clear C6_0 C6_1 C6_2 C6_3; try clear C8_0 C8_1 C8_2 C8_3; try clear F11_0 F11_1 F11_2 F11_3; try clear F14_0 F14_1 F14_2 F14_3; try clear F6_0 F6_1 F6_2 F6_3; try clear F8_0 F8_1 F8_2 F8_3; try clear p2
    obtain ⟨x6_2, x26_2, rfl, HA, HK2, HO_5, HO_6, BK308, HB⟩ := hrel; cases gk with
    | zero => exact absurd HA.out (by simp [impl_Tree_entries.l0])
    | succ k2 =>
     have H := HA.out; clear HA; simp only [impl_Tree_entries.l0] at H; by_cases c15 : x26_2 < (l0_3.length : Int)
     ·rw [if_pos c15] at H
      have c15b0 : decide (x26_2 < (l0_3.length : Int)) = true := decide_eq_true c15; clear c15; by_cases c16 : 0 ≤ x26_2
      ·rw [if_pos c16] at H
       have c16b0 : decide (0 ≤ x26_2) = true := decide_eq_true c16; clear c16; by_cases c17 : x26_2 < (l0_3.length : Int)
       ·rw [if_pos c17] at H
        have c17b0 : decide (x26_2 < (l0_3.length : Int)) = true := decide_eq_true c17; clear c17; replace H := Option.bind_eq_some_iff.mp H; obtain ⟨t317, A180, H⟩ := H; replace H : (if x6_2.length + t317.length < 4398046511104 then (impl_Tree_entries.l0 k2 t309 (x6_2 ++ t317) l0_3 (l0_3.length : Int) (wrap64 (x26_2 + 1))) else (none)) = some r := H; have A18 := Aside0.mk A180; clear A180; by_cases c19 : x6_2.length + t317.length < 4398046511104
        ·rw [if_pos c19] at H
         have LMc19 := Aside0.mk c19; clear c19; obtain ⟨y320, hy320⟩ : ∃ y_ : List (S84), y_ = (x6_2 ++ t317) := ⟨_, rfl⟩; replace H : (impl_Tree_entries.l0 k2 t309 y320 l0_3 (l0_3.length : Int) (wrap64 (x26_2 + 1))) = some r := by first | (rw [hy320]; with_reducible exact H) | (have H2_ := (Option.bind_some _ _).symm.trans H; rw [hy320]; with_reducible exact H2_) | (have H2_ := (Option.bind_some _ _).symm.trans H; with_reducible exact H2_) | with_reducible exact H | (rw [hy320]; exact H) | exact H
         have Ny320 := Aside0.mk hy320; clear hy320; have H' := Aside0.mk H; clear H; have p315 : 0 ≤ (x26_2 : Int) := od; have q315 : x26_2 < (l0_3.length : Int) := od; obtain ⟨ad315, A315_0, c315_0, A315_3, c315_3, e315, hx315_0, hx315_1, hx315_2, hx315_3, hl315_0, hi315_0, hl315_3, hi315_3⟩ := at_T30 HR0_3.out x26_2 p315 q315; cases e315; replace hx315_0 := hxb HB hx315_0; replace hx315_1 := hxb HB hx315_1; replace hx315_2 := hxb HB hx315_2; replace hx315_3 := hxb HB hx315_3; have HR315_0 := Aside0.mk hi315_0; have HC315_0 := Aside0.mk hl315_0; clear hi315_0 hl315_0
         have HR315_3 := Aside0.mk hi315_3; have HC315_3 := Aside0.mk hl315_3; clear hi315_3 hl315_3; replace p315 := eq_true p315; replace q315 := eq_true q315
         go_wp2_with (first | ((with_reducible refine gate_dst (N := 8) rfl ?_); refine bx_ 8 #[.slice none 0 0, .bool false, .int .i64 0, .slice none 0 0] 30 (h := ?_); intro gb316 hg w20 hbox hb; have BK316 := Aside0.mk (hbox); have GW316 := Aside0.mk ((by rw [hg]; exact (below_size bel) : w.heap.size ≤ gb316)); have GE316 := GW316; have NB308_316 := Aside0.mk ((by rw [hg]; exact Nat.ne_of_lt (blt BK308) : gb308 ≠ gb316)); have NB316_308 := Aside0.mk NB308_316.out.symm; replace HO_5 := Aside0.mk (Kd.R_below (Kd.R_elderB (rkp HO_5) gb316 (Nat.le_of_eq hg.symm)) hb); replace HO_6 := Aside0.mk (Kd.R_below (Kd.R_elderB (rkp HO_6) gb316 (Nat.le_of_eq hg.symm)) hb); replace BK308 := Aside0.mk (blb BK308 hb); replace HB := bst hb; clear hb hbox hg; have hnb21 := NB316_308.out; have hnc21 := NB308_316.out; obtain ⟨C22_0, C22_1, C22_2, C22_3, -⟩ := cells_4 BK316.out trivial; obtain ⟨F22_0, F22_1, F22_2, F22_3, -⟩ := frz_4 BK316.out; obtain ⟨Ao23, co23, eo23⟩ := Kd.R_slice HO_5.out; subst eo23) | ((with_reducible refine gate_callee (f := 65) rfl ?_); refine gl_ (some 33) Try.func65 #[.agg #[.slice A315_0 ((rd_T30 l0_3 x26_2).f0).length c315_0, .bool ((rd_T30 l0_3 x26_2).f1), .int .i64 ((rd_T30 l0_3 x26_2).f2), .slice A315_3 ((rd_T30 l0_3 x26_2).f3).length c315_3], .slice Ao23 t309.length co23] (h := ?_); (with_reducible refine (ih k2 (by have := HJ3.out; have := HK2.out; omega) _ _ ((rd_T30 l0_3 x26_2).f0) ((rd_T30 l0_3 x26_2).f1) ((rd_T30 l0_3 x26_2).f2) _ _ ((rd_T30 l0_3 x26_2).f3) _ _ t309 t317 _ ?side1 ?side2 ?side3 ?side4 ?side5 ?side6 A18.out).mono ?_); (case side1 => exact Kd.C_below HR315_0.out bel); (case side2 => exact HC315_0.out); (case side3 => exact Kd.C_below HR315_3.out bel); (case side4 => exact HC315_3.out); (case side5 => refine (Kd.R_reads' (e := 5) (base := w.heap.size) (ok := fun k_ => (((w.heap.size ≤ k_) ∧ (some k_ ≠ (u6 : Value).ownBlock ∧ k_ ≠ gb308)) ∧ k_ ≠ gb316)) (n := t309.length) (c := co23) ?_).2.2; exact (by (with_reducible repeat (first | apply Kd.R_alloc | apply Kd.R_drewN | apply Kd.R_drew)); exact (Kd.R_mono (Kd.R_far4 (q := gb316) (Kd.R_mono HO_5.out (fun k_ hk => (⟨hk, hk.2⟩ : _ ∧ k_ ≠ gb316))) (fun _ hk => hk.2)) (fun _ h_ => h_.1)))); (case side6 => exact (Kd.R_reads' HO_5.out).2.1); rintro e w24 ⟨v318, rfl, ho0, hb⟩; refine ⟨_, rfl, ?_⟩; have HO319 := Aside0.mk (Kd.R_lower (Kd.R_mono (ok' := fun k_ => (w.heap.size ≤ k_) ∧ some k_ ≠ (u6 : Value).ownBlock ∧ k_ ≠ gb308 ∧ k_ ≠ gb316) ho0 (fun k_ hk_ => ⟨(Nat.le_trans (below_size bel) hk_), (Kd.fresh' (Kd.R_lt (by (with_reducible repeat (first | apply Kd.R_alloc | apply Kd.R_drewN | apply Kd.R_drew)); exact (Kd.R_mono (Kd.R_far4 (q := gb316) (Kd.R_mono HO_6.out (fun k_ hk => (⟨hk, hk.2⟩ : _ ∧ k_ ≠ gb316))) (fun _ hk => hk.2)) (fun _ h_ => h_.1)))) k_ hk_), (Kd.freshB (g := gb308) (o := .cells #[.slice A0_0 l0_0.length c0_0, .bool a0_1, .int .i64 a0_2, .slice (some ad315) l0_3.length c0_3] 30 (0, 0)) (by (with_reducible repeat (first | refine blk_drewN ?_ _ | refine blk_drew ?_ | refine blk_alloc ?_ _)); refine blk_far4 ?_ NB308_316.out; (with_reducible repeat (first | refine blk_drewN ?_ _ | refine blk_drew ?_ | refine blk_alloc ?_ _)); exact BK308.out) k_ hk_), (Kd.freshB (g := gb316) (o := .cells #[.slice A315_0 ((rd_T30 l0_3 x26_2).f0).length c315_0, .bool ((rd_T30 l0_3 x26_2).f1), .int .i64 ((rd_T30 l0_3 x26_2).f2), .slice A315_3 ((rd_T30 l0_3 x26_2).f3).length c315_3] 30 (0, 0)) (by (with_reducible repeat (first | refine blk_drewN ?_ _ | refine blk_drew ?_ | refine blk_alloc ?_ _)); apply blk_put4; (with_reducible repeat (first | refine blk_drewN ?_ _ | refine blk_drew ?_ | refine blk_alloc ?_ _)); exact BK316.out) k_ hk_)⟩)) (below_size bel)); replace HO_5 := Aside0.mk (Kd.R_elder' (by (with_reducible repeat (first | apply Kd.R_alloc | apply Kd.R_drewN | apply Kd.R_drew)); exact (Kd.R_mono (Kd.R_far4 (q := gb316) (Kd.R_mono HO_5.out (fun k_ hk => (⟨hk, hk.2⟩ : _ ∧ k_ ≠ gb316))) (fun _ hk => hk.2)) (fun _ h_ => h_.1))) (Kd.R_base ho0) hb); replace HO_6 := Aside0.mk (Kd.R_elder' (by (with_reducible repeat (first | apply Kd.R_alloc | apply Kd.R_drewN | apply Kd.R_drew)); exact (Kd.R_mono (Kd.R_far4 (q := gb316) (Kd.R_mono HO_6.out (fun k_ hk => (⟨hk, hk.2⟩ : _ ∧ k_ ≠ gb316))) (fun _ hk => hk.2)) (fun _ h_ => h_.1))) (Kd.R_base ho0) hb); replace BK308 := Aside0.mk (blk_below (g := gb308) (o := .cells #[.slice A0_0 l0_0.length c0_0, .bool a0_1, .int .i64 a0_2, .slice (some ad315) l0_3.length c0_3] 30 (0, 0)) (by (with_reducible repeat (first | refine blk_drewN ?_ _ | refine blk_drew ?_ | refine blk_alloc ?_ _)); refine blk_far4 ?_ NB308_316.out; (with_reducible repeat (first | refine blk_drewN ?_ _ | refine blk_drew ?_ | refine blk_alloc ?_ _)); exact BK308.out) hb); replace BK316 := Aside0.mk (blk_below (g := gb316) (o := .cells #[.slice A315_0 ((rd_T30 l0_3 x26_2).f0).length c315_0, .bool ((rd_T30 l0_3 x26_2).f1), .int .i64 ((rd_T30 l0_3 x26_2).f2), .slice A315_3 ((rd_T30 l0_3 x26_2).f3).length c315_3] 30 (0, 0)) (by (with_reducible repeat (first | refine blk_drewN ?_ _ | refine blk_drew ?_ | refine blk_alloc ?_ _)); apply blk_put4; (with_reducible repeat (first | refine blk_drewN ?_ _ | refine blk_drew ?_ | refine blk_alloc ?_ _)); exact BK316.out) hb); replace HB := bst hb; (try clear hb); (try clear hb2); (try clear hk); (try clear hi); (try clear ho0); obtain ⟨Ao26, co26, eo26⟩ := Kd.R_slice HO319.out; subst eo26) | ((with_reducible refine gate_builtin (b := .append) (xs := #[.tmp 30, .tmp 33]) rfl ?_); at_builtin; refine Kd.R_append_rowsO k84 (w0 := w) w.heap.size rfl (.tmp 30) (.tmp 33) 80 84 (.agg #[(.slice none 0 0), (.int .i64 0)]) 32 rfl Try.underlying80 info84 rfl (by decide) (by omega) u6 x6_2 t317 _ _ _ (fun k_ => (w.heap.size ≤ k_) ∧ k_ ≠ gb308 ∧ k_ ≠ gb316) (fun k_ => ((fun k_ => (w.heap.size ≤ k_) ∧ k_ ≠ gb308 ∧ k_ ≠ gb316)) k_ ∧ some k_ ≠ (u6 : Value).ownBlock) rfl rfl ?aO ?aR (fun _ hk => hk) ?aF ?aB ?aS ?aL ?_; (case aR => exact (by skip; exact Kd.R_F (Kd.R_mono (ok' := (fun k_ => ((fun k_ => (w.heap.size ≤ k_) ∧ k_ ≠ gb308 ∧ k_ ≠ gb316)) k_ ∧ some k_ ≠ (u6 : Value).ownBlock)) (HO319.out) (fun k_ hk => ⟨⟨hk.1, ⟨hk.2.2.1, hk.2.2.2⟩⟩, hk.2.1⟩)))); (case aB => exact bel); (case aF => exact (fun k_ hk => ⟨(Nat.le_trans (below_size bel) hk), Kd.freshB (bkp BK308) k_ hk, Kd.freshB (bkp BK316) k_ hk⟩)); (case aO => exact (Kd.R_mono (rkp HO_6) (fun _ hk => ⟨hk.1.1.1, ⟨hk.1.1.2, hk.1.2⟩⟩))); (case aS => exact (below_size bel)); (case aL => have := LMc19.out; omega); intro v321 w25 ho hb hg hat; rw [← Ny320.out] at ho; have n0_ := Aside0.mk (Kd.R_after (ok := (fun k_ => (w.heap.size ≤ k_) ∧ some k_ ≠ (.slice Ao26 t317.length co26 : Value).ownBlock ∧ k_ ≠ gb308 ∧ k_ ≠ gb316)) (Kd.R_mono (rkp HO_5) (fun _ hk => ⟨⟨hk.1.1.1, ⟨hk.2, ⟨hk.1.1.2.2, hk.1.2⟩⟩⟩, hk.1.1.2.1⟩)) hg hat); have n1_ := Aside0.mk (blk_grown (g := gb308) (o := .cells #[.slice A0_0 l0_0.length c0_0, .bool a0_1, .int .i64 a0_2, .slice (some ad315) l0_3.length c0_3] 30 (0, 0)) (bkp BK308) hg (Kd.R_ne HO_6.out BK308.out (by decide))); have n2_ := Aside0.mk (blk_grown (g := gb316) (o := .cells #[.slice A315_0 ((rd_T30 l0_3 x26_2).f0).length c315_0, .bool ((rd_T30 l0_3 x26_2).f1), .int .i64 ((rd_T30 l0_3 x26_2).f2), .slice A315_3 ((rd_T30 l0_3 x26_2).f3).length c315_3] 30 (0, 0)) (bkp BK316) hg (Kd.R_ne HO_6.out BK316.out (by decide))); have n3_ := Aside0.mk (Kd.R_after (ok := (fun k_ => (w.heap.size ≤ k_) ∧ k_ ≠ gb308 ∧ k_ ≠ gb316)) (Kd.R_mono (rkp HO319) (fun _ hk => ⟨⟨hk.1, ⟨hk.2.2.1, hk.2.2.2⟩⟩, hk.2.1⟩)) hg hat); have n4_ := Aside0.mk (hb); have n5_ := Aside0.mk (ho); clear HO_5; clear BK308; clear BK316; clear HO319; clear HB; clear HO_6; have HO_5 := n0_; have BK308 := n1_; have BK316 := n2_; have HO319 := n3_; have HB := n4_; have HO322 := n5_; clear n0_ n1_ n2_ n3_ n4_ n5_; clear ho hb hg hat))
         go_roundg k2
         case measure => have := HJ3.out; have := HK2.out; omega
         case rel => exact ⟨(y320), (wrap64 (x26_2 + 1)), rs_, H', ⟨by have := HJ3.out; have := HK2.out; omega⟩, ⟨Kd.R_mono (rkp HO_5) (fun _ hk => ⟨hk.1.1, ⟨hk.2, hk.1.2.2.1⟩⟩)⟩, ⟨Kd.R_mono (rkp HO322) (fun _ hk => ⟨hk.1, hk.2.1⟩)⟩, ⟨bkp BK308⟩, ⟨bel⟩⟩
        rw [if_neg c19] at H; exact absurd H (by simp)
       rw [if_neg c17] at H; exact absurd H (by simp)
      rw [if_neg c16] at H; exact absurd H (by simp)
     rw [if_neg c15] at H; have c15b0 : decide (x26_2 < (l0_3.length : Int)) = false := decide_eq_false c15; clear c15; obtain rfl := Option.some.inj H; go_wp2; go_ret; exact ⟨_, rz_, by (with_reducible repeat (first | apply Kd.R_alloc | apply Kd.R_drewN | apply Kd.R_drew)); exact Kd.R_mono HO_6.out (fun _ hk => hk.1), bel⟩

/-! ### bytes_Compare: function 71 -/
def bytes_Compare.u8of (l : List Int) : List UInt8 := l.map fun x => x.toNat.toUInt8
def bytes_Compare.cmp : List Int → List Int → Int
 | [], [] => 0
 | [], _ :: _ => -1
 | _ :: _, [] => 1
 | x :: xs, y :: ys => if x < y then -1 else if y < x then 1 else bytes_Compare.cmp xs ys
def bytes_Compare.f (l0 : List Int) (l1 : List Int) : Option Int := if (∀ x ∈ l0, 0 ≤ x ∧ x ≤ 255) ∧ (∀ x ∈ l1, 0 ≤ x ∧ x ≤ 255) then some (bytes_Compare.cmp l0 l1) else none
theorem bytes_Compare.run_loadBytes {P : Program} (w : World) (n : Nat) : ∀ (a : Addr) (l : List Int) (acc : ByteArray), l.length = n → (∀ i, i < n → w.cell? (a.add i) = some (.int .u8 (l.getD i 0))) →
  (Extern.Bytes.loadBytes a n acc).run P w = .ok (⟨acc.data ++ (bytes_Compare.u8of l).toArray⟩) w := by
 induction n with
 | zero =>
  intro a l acc hl _; obtain rfl := List.eq_nil_of_length_eq_zero hl; simp [Extern.Bytes.loadBytes, bytes_Compare.u8of]
 | succ n ih =>
  intro a l acc hl hc; cases l with
  | nil => simp at hl
  | cons x xs =>
   have h0 := hc 0 (by omega); rw [Addr.add_zero'] at h0
   have h := ih (a.add 1) xs (acc.push x.toNat.toUInt8) (by simpa using hl) (fun i hi => by
    have h2 := hc (i + 1) (by omega)
    have e : (a.add 1).add i = a.add (i + 1) := by
     have e2 : (a.add 1).add i = a.add (1 + i) := by first | exact Go.RowKit.add_add _ _ _ | exact Addr.add_add _ _ _ | (unfold Addr.add; split <;> simp_all <;> omega)
     rw [e2, Nat.add_comm]
    rw [e]; simpa using h2)
   simp only [Extern.Bytes.loadBytes, Sem.run_bind, run_load]; simp [h0] at *; rw [h]; simp [bytes_Compare.u8of]
theorem bytes_Compare.run_bytesOf {P : Program} {w : World} {A : Option Addr} {c : Nat} {l : List Int} (h : Kd.C (Kd.int .u8) w A l.length l) : (Extern.Bytes.bytesOf (.slice A l.length c)).run P w = .ok ⟨(bytes_Compare.u8of l).toArray⟩ w := by
 cases A with
 | none =>
  have hz : l.length = 0 := by
   rcases Nat.eq_zero_or_pos l.length with h2 | h2
   ·exact h2
   ·obtain ⟨ad, e, _⟩ := h.2.2 h2
    cases e
  obtain rfl := List.eq_nil_of_length_eq_zero hz; simp [Extern.Bytes.bytesOf, bytes_Compare.u8of, ByteArray.empty, ByteArray.emptyWithCapacity]; rfl
 | some ad =>
  have hl := bytes_Compare.run_loadBytes (P := P) w l.length ad l .empty rfl (fun i hi => by
   obtain ⟨ad', e, hx⟩ := Kd.at_int h (i : Int) (by omega) (by omega); cases e; rw [Int.toNat_natCast] at hx; rw [hx]; unfold rd; rw [Int.toNat_natCast])
  simp only [Extern.Bytes.bytesOf]; rw [hl]; simp [ByteArray.empty, ByteArray.emptyWithCapacity]; rfl
theorem bytes_Compare.cmp_eq : ∀ l0 l1 : List Int, (∀ x ∈ l0, 0 ≤ x ∧ x ≤ 255) → (∀ x ∈ l1, 0 ≤ x ∧ x ≤ 255) → Lib.compareBytes (bytes_Compare.u8of l0) (bytes_Compare.u8of l1) = bytes_Compare.cmp l0 l1
 | [], [], _, _ => rfl
 | [], _ :: _, _, _ => rfl
 | _ :: _, [], _, _ => rfl
 | x :: xs, y :: ys, h0, h1 => by
  have ih := bytes_Compare.cmp_eq xs ys (fun z hz => h0 z (List.mem_cons_of_mem _ hz)) (fun z hz => h1 z (List.mem_cons_of_mem _ hz))
  have a := h0 x (List.mem_cons_self ..)
  have b := h1 y (List.mem_cons_self ..)
  have ea : x.toNat.toUInt8.toNat = x.toNat := by
   rw [Nat.toUInt8, UInt8.toNat_ofNat']; omega
  have eb : y.toNat.toUInt8.toNat = y.toNat := by
   rw [Nat.toUInt8, UInt8.toNat_ofNat']; omega
  show (if x.toNat.toUInt8 < y.toNat.toUInt8 then (-1 : Int) else if y.toNat.toUInt8 < x.toNat.toUInt8 then 1 else Lib.compareBytes (bytes_Compare.u8of xs) (bytes_Compare.u8of ys)) = if x < y then -1 else if y < x then 1 else bytes_Compare.cmp xs ys
  have e1 : x.toNat.toUInt8 < y.toNat.toUInt8 ↔ x < y := by
   rw [UInt8.lt_iff_toNat_lt, ea, eb]; omega
  have e2 : y.toNat.toUInt8 < x.toNat.toUInt8 ↔ y < x := by
   rw [UInt8.lt_iff_toNat_lt, ea, eb]; omega
  simp only [e1, e2, ih]
set_option maxHeartbeats 8000000 in
set_option maxRecDepth 100000 in
theorem bytes_Compare.calls (A0 : Option Addr) (c0 : Nat) (l0 : List Int) (A1 : Option Addr) (c1 : Nat) (l1 : List Int) (r : Int) (w : World) (hr0 : Kd.C (Kd.int .u8) w A0 l0.length l0) (hc0 : l0.length ≤ c0) (hr1 : Kd.C (Kd.int .u8) w A1 l1.length l1) (hc1 : l1.length ≤ c1) (h : bytes_Compare.f l0 l1 = some r) :
  Calls Try.prog 71 #[.slice A0 l0.length c0, .slice A1 l1.length c1] w fun e w' => e = .returned (.int .i64 r) ∧ Drawn0 w w' := by
 clear hc0 hc1; unfold bytes_Compare.f at h; by_cases hb : (∀ x ∈ l0, 0 ≤ x ∧ x ≤ 255) ∧ (∀ x ∈ l1, 0 ≤ x ∧ x ≤ 255)
 case neg =>
  rw [if_neg hb] at h; exact absurd h (by simp)
 rw [if_pos hb] at h; obtain rfl := Option.some.inj h; clear h
 have hx : (callFunc 118 #[.slice A0 l0.length c0, .slice A1 l1.length c1]).run Try.prog w = .ok (.value (.int .i64 (bytes_Compare.cmp l0 l1))) w := by
  rw [run_callFunc_extern (e := Extern.BytealgCompare.compare) Try.func118 (by kernel_rfl) (by rfl) (by kernel_rfl) (by rfl)]
  have hr : (Extern.BytealgCompare.compare #[.slice A0 l0.length c0, .slice A1 l1.length c1]).run Try.prog w = .ok (.int .i64 (bytes_Compare.cmp l0 l1)) w := by
   change Sem.run _ (do pure (goInt (Extern.BytealgCompare.cmp (← Extern.Bytes.bytesOf (.slice A0 l0.length c0)) (← Extern.Bytes.bytesOf (.slice A1 l1.length c1))))) w = _; simp only [Sem.run_bind, bytes_Compare.run_bytesOf hr0, bytes_Compare.run_bytesOf hr1, Result.andThen, Sem.run_pure, Lib.cmp_eq, bytes_Compare.cmp_eq l0 l1 hb.1 hb.2]; rfl
  rw [hr]; rfl
 clear hr0 hr1 hb; generalize bytes_Compare.cmp l0 l1 = q at hx ⊢; go_enter Try.func71, Try.ntmps71; go_wp2; go_ret; exact ⟨rfl, Drawn0.refl _⟩

/-! ### impl_find_1: function 112 -/
def impl_find_1.f (l0_0 : List Int) (a0_1 : Int) (l1 : List Int) : Option (Int) := (bytes_Compare.f l0_0 l1).bind fun t324 => (some t324)
set_option maxHeartbeats 8000000 in
set_option maxRecDepth 100000 in
theorem impl_find_1.calls (A0_0 : Option Addr) (c0_0 : Nat) (l0_0 : List Int) (a0_1 : Int) (A1 : Option Addr) (c1 : Nat) (l1 : List Int) (r : Int) (w : World) (hr0_0 : Kd.C (Kd.int .u8) w A0_0 l0_0.length l0_0) (hc0_0 : l0_0.length ≤ c0_0) (hr1 : Kd.C (Kd.int .u8) w A1 l1.length l1) (hc1 : l1.length ≤ c1) (h : impl_find_1.f l0_0 a0_1 l1 = some r) :
  Calls Try.prog 112 #[.agg #[.slice A0_0 l0_0.length c0_0, .int .i64 a0_1], .slice A1 l1.length c1] w fun e w' => e = .returned (.int .i64 r) ∧ Below w.heap.size w w' := by
 have hu84 := Try.underlying84; have HR0_0 := Aside0.mk hr0_0; have HC0_0 := Aside0.mk hc0_0; clear hr0_0 hc0_0; have HR1 := Aside0.mk hr1; have HC1 := Aside0.mk hc1; clear hr1 hc1; have HB := Aside0.mk (Below.refl w.heap.size w); have H : ((bytes_Compare.f l0_0 l1).bind fun t324 => (some t324)) = some r := h; clear h; replace H := Option.bind_eq_some_iff.mp H; obtain ⟨t324, A30, H⟩ := H; replace H : (some t324) = some r := H; have A3 := Aside0.mk A30; clear A30; obtain rfl := Option.some.inj H; go_enter Try.func112, Try.ntmps112
 go_wp2_with (first | ((with_reducible refine gate_dst (N := 2) rfl ?_); refine bx_ 2 #[.slice A0_0 l0_0.length c0_0, .int .i64 a0_1] 84 (h := ?_); intro gb323 hg w4 hbox hb; have BK323 := Aside0.mk (hbox); have GW323 := Aside0.mk ((by rw [hg]; exact (below_size bel) : w.heap.size ≤ gb323)); have GE323 := GW323; replace HB := bst hb; clear hb hbox hg; obtain ⟨C5_0, C5_1, -⟩ := cells_2 BK323.out trivial; obtain ⟨F5_0, F5_1, -⟩ := frz_2 BK323.out) | ((with_reducible refine gate_callee (f := 71) rfl ?_); refine gl_ (some 8) Try.func71 #[.slice A0_0 l0_0.length c0_0, .slice A1 l1.length c1] (h := ?_); (with_reducible refine (bytes_Compare.calls _ _ l0_0 _ _ l1 t324 _ ?side1 ?side2 ?side3 ?side4 A3.out).mono ?_); (case side1 => exact kcb); (case side2 => exact HC0_0.out); (case side3 => exact kcb); (case side4 => exact HC1.out); rintro e w' ⟨rfl, ⟨nd, rfl⟩⟩; refine ⟨_, rfl, ?_⟩))
 go_ret; exact ⟨rz_, bel⟩

/-! ### impl_entry_byte: function 111 -/
def impl_entry_byte.l0 : Nat → List (S84) → List Int → Int → Int → Int → Option (Int × Bool)
 | 0, _, _, _, _, _ => none
 | k + 1, x0, x1, x8, x9, x10 => if x9 < x10 then (if 0 ≤ (wrap64 ((IntKind.u64.wrap (wrap64 (x9 + x10))) / 2)) then (if (wrap64 ((IntKind.u64.wrap (wrap64 (x9 + x10))) / 2)) < (x0.length : Int) then ((impl_find_1.f ((rd_T84 x0 (wrap64 ((IntKind.u64.wrap (wrap64 (x9 + x10))) / 2))).f0) ((rd_T84 x0 (wrap64 ((IntKind.u64.wrap (wrap64 (x9 + x10))) / 2))).f1) x1).bind fun t326 => (if t326 < 0 then (impl_entry_byte.l0 k x0 x1 x8 (wrap64 ((wrap64 ((IntKind.u64.wrap (wrap64 (x9 + x10))) / 2)) + 1)) x10) else (impl_entry_byte.l0 k x0 x1 x8 x9 (wrap64 ((IntKind.u64.wrap (wrap64 (x9 + x10))) / 2))))) else (none)) else (none)) else (if x9 < x8 then (if 0 ≤ x9 then (if x9 < (x0.length : Int) then ((impl_find_1.f ((rd_T84 x0 x9).f0) ((rd_T84 x0 x9).f1) x1).bind fun t328 => (some (x9, (t328 == 0)))) else (none)) else (none)) else (some (x9, false)))
def impl_entry_byte.f (k : Nat) (l0 : List (S84)) (l1 : List Int) (a2 : Unit) : Option (Int × Bool) := impl_entry_byte.l0 k l0 l1 (l0.length : Int) 0 (l0.length : Int)
set_option maxHeartbeats 8000000 in
set_option maxRecDepth 100000 in
theorem impl_entry_byte.calls (k : Nat) (A0 : Option Addr) (c0 : Nat) (l0 : List (S84)) (A1 : Option Addr) (c1 : Nat) (l1 : List Int) (a2 : Unit) (r1 : Int) (r2 : Bool) (w : World) (hr0 : Kd.C k84 w A0 l0.length l0) (hc0 : l0.length ≤ c0) (hr1 : Kd.C (Kd.int .u8) w A1 l1.length l1) (hc1 : l1.length ≤ c1) (h : impl_entry_byte.f k l0 l1 a2 = some (r1, r2)) :
  Calls Try.prog 111 #[.slice A0 l0.length c0, .slice A1 l1.length c1, .func (.func 112) #[] #[]] w fun e w' => e = .returned (.tuple #[.int .i64 r1, .bool r2]) ∧ Below w.heap.size w w' := by
 have hu84 := Try.underlying84; have HR0 := Aside0.mk hr0; have HC0 := Aside0.mk hc0; clear hr0 hc0; have HR1 := Aside0.mk hr1; have HC1 := Aside0.mk hc1; clear hr1 hc1; have HB := Aside0.mk (Below.refl w.heap.size w); have H : (impl_entry_byte.l0 k l0 l1 (l0.length : Int) 0 (l0.length : Int)) = some (r1, r2) := h; clear h; have H' := Aside0.mk H; clear H; go_enter Try.func111, Try.ntmps111; go_wp2
 go_loopg [9, 10] k (fun kq v9 v10 w' => ∃ (x9_1 : Int) (x10_1 : Int), v9 = .int .i64 x9_1 ∧ v10 = .int .i64 x10_1 ∧ Aside0 (impl_entry_byte.l0 kq l0 l1 (l0.length : Int) x9_1 x10_1 = some (r1, r2)) ∧ Aside0 (kq ≤ k) ∧ Aside0 (Below w.heap.size w w'))
 case atStart => exact ⟨(0), ((l0.length : Int)), rs_, rs_, H', ⟨Nat.le_refl _⟩, ⟨bel⟩⟩
 case round =>
  clear H'; try clear c1; try clear p2
  obtain ⟨x9_1, x10_1, rfl, rfl, HA, HK1, HB⟩ := hrel; cases gk with
  | zero => exact absurd HA.out (by simp [impl_entry_byte.l0])
  | succ k1 =>
   have H := HA.out; clear HA; simp only [impl_entry_byte.l0] at H; by_cases c4 : x9_1 < x10_1
   ·rw [if_pos c4] at H
    have c4b0 : decide (x9_1 < x10_1) = true := decide_eq_true c4; clear c4; obtain ⟨ji5, hji5⟩ : ∃ j_ : Int, (wrap64 ((IntKind.u64.wrap (wrap64 (x9_1 + x10_1))) / 2)) = j_ := ⟨_, rfl⟩
    replace H : (if 0 ≤ (ji5) then (if (ji5) < (l0.length : Int) then ((impl_find_1.f ((rd_T84 l0 (ji5)).f0) ((rd_T84 l0 (ji5)).f1) l1).bind fun t326 => (if t326 < 0 then (impl_entry_byte.l0 k1 l0 l1 (l0.length : Int) (wrap64 ((ji5) + 1)) x10_1) else (impl_entry_byte.l0 k1 l0 l1 (l0.length : Int) x9_1 ji5))) else (none)) else (none)) = some (r1, r2) := by first | (rw [hji5] at H; exact H) | (simp only [hji5] at H ⊢; exact H)
    have hji5w : (IntKind.i64.wrap ((IntKind.u64.wrap (wrap64 (x9_1 + x10_1))) / 2)) = ji5 := (i64_w _).trans hji5; by_cases c6 : 0 ≤ (ji5)
    ·rw [if_pos c6] at H
     have c6b0 : decide (0 ≤ (ji5)) = true := decide_eq_true c6; clear c6; by_cases c7 : (ji5) < (l0.length : Int)
     ·rw [if_pos c7] at H
      have c7b0 : decide ((ji5) < (l0.length : Int)) = true := decide_eq_true c7; clear c7; replace H := Option.bind_eq_some_iff.mp H; obtain ⟨t326, A80, H⟩ := H; replace H : (if t326 < 0 then (impl_entry_byte.l0 k1 l0 l1 (l0.length : Int) (wrap64 ((ji5) + 1)) x10_1) else (impl_entry_byte.l0 k1 l0 l1 (l0.length : Int) x9_1 ji5)) = some (r1, r2) := H; have A8 := Aside0.mk A80; clear A80; by_cases c9 : t326 < 0
      ·rw [if_pos c9] at H
       have c9b0 : decide (t326 < 0) = true := decide_eq_true c9; clear c9; have H' := Aside0.mk H; clear H; have p325 : 0 ≤ ((ji5) : Int) := od; have q325 : (ji5) < (l0.length : Int) := od; obtain ⟨ad325, A325_0, c325_0, e325, hx325_0, hx325_1, hl325_0, hi325_0⟩ := at_T84 HR0.out (ji5) p325 q325; cases e325; replace hx325_0 := hxb HB hx325_0; replace hx325_1 := hxb HB hx325_1; have HR325_0 := Aside0.mk hi325_0; have HC325_0 := Aside0.mk hl325_0; clear hi325_0 hl325_0; replace p325 := eq_true p325; replace q325 := eq_true q325
       go_wp2_with (first | ((with_reducible refine gate_dst (N := 30) rfl ?_); refine glv_ (some 30) Try.func112 #[.agg #[.slice A325_0 ((rd_T84 l0 (ji5)).f0).length c325_0, .int .i64 ((rd_T84 l0 (ji5)).f1)], .slice A1 l1.length c1] (hargs := (by (try simp only [List.map_toArray, List.map_cons, List.map_nil]); first | done | (simp only [hji5]; rfl) | rfl | (simp only [List.length_drop, List.length_take]; rfl))) (h := ?_); (with_reducible refine (impl_find_1.calls _ _ ((rd_T84 l0 (ji5)).f0) ((rd_T84 l0 (ji5)).f1) _ _ l1 t326 _ ?side1 ?side2 ?side3 ?side4 A8.out).mono ?_); (case side1 => exact kcb); (case side2 => exact HC325_0.out); (case side3 => exact kcb); (case side4 => exact HC1.out); rintro e w10 ⟨rfl, hb⟩; refine ⟨_, rfl, ?_⟩; replace HB := bst hb; (try clear hb); (try clear hb2); (try clear hk); (try clear hi)))
       go_roundg k1
       case measure => have := HK1.out; omega
       case rel => exact ⟨(wrap64 ((ji5) + 1)), (x10_1), (by first | rfl | (simp; done) | (simp only [← hji5] <;> (first | rfl | simp)) | (simp [*]; done)), rs_, H', ⟨by have := HK1.out; omega⟩, ⟨bel⟩⟩
      rw [if_neg c9] at H; have c9b0 : decide (t326 < 0) = false := decide_eq_false c9; clear c9; have H' := Aside0.mk H; clear H; have p325 : 0 ≤ ((ji5) : Int) := od; have q325 : (ji5) < (l0.length : Int) := od; obtain ⟨ad325, A325_0, c325_0, e325, hx325_0, hx325_1, hl325_0, hi325_0⟩ := at_T84 HR0.out (ji5) p325 q325; cases e325; replace hx325_0 := hxb HB hx325_0; replace hx325_1 := hxb HB hx325_1; have HR325_0 := Aside0.mk hi325_0; have HC325_0 := Aside0.mk hl325_0; clear hi325_0 hl325_0; replace p325 := eq_true p325; replace q325 := eq_true q325
      go_wp2_with (first | ((with_reducible refine gate_dst (N := 30) rfl ?_); refine glv_ (some 30) Try.func112 #[.agg #[.slice A325_0 ((rd_T84 l0 (ji5)).f0).length c325_0, .int .i64 ((rd_T84 l0 (ji5)).f1)], .slice A1 l1.length c1] (hargs := (by (try simp only [List.map_toArray, List.map_cons, List.map_nil]); first | done | (simp only [hji5]; rfl) | rfl | (simp only [List.length_drop, List.length_take]; rfl))) (h := ?_); (with_reducible refine (impl_find_1.calls _ _ ((rd_T84 l0 (ji5)).f0) ((rd_T84 l0 (ji5)).f1) _ _ l1 t326 _ ?side1 ?side2 ?side3 ?side4 A8.out).mono ?_); (case side1 => exact kcb); (case side2 => exact HC325_0.out); (case side3 => exact kcb); (case side4 => exact HC1.out); rintro e w11 ⟨rfl, hb⟩; refine ⟨_, rfl, ?_⟩; replace HB := bst hb; (try clear hb); (try clear hb2); (try clear hk); (try clear hi)))
      go_roundg k1
      case measure => have := HK1.out; omega
      case rel => exact ⟨(x9_1), (ji5), rs_, (by first | rfl | (simp; done) | (simp only [← hji5] <;> (first | rfl | simp)) | (simp [*]; done)), H', ⟨by have := HK1.out; omega⟩, ⟨bel⟩⟩
     rw [if_neg c7] at H; exact absurd H (by simp)
    rw [if_neg c6] at H; exact absurd H (by simp)
   rw [if_neg c4] at H; have c4b0 : decide (x9_1 < x10_1) = false := decide_eq_false c4; clear c4; by_cases c12 : x9_1 < (l0.length : Int)
   ·rw [if_pos c12] at H
    have c12b0 : decide (x9_1 < (l0.length : Int)) = true := decide_eq_true c12; clear c12; by_cases c13 : 0 ≤ x9_1
    ·rw [if_pos c13] at H
     have c13b0 : decide (0 ≤ x9_1) = true := decide_eq_true c13; clear c13; by_cases c14 : x9_1 < (l0.length : Int)
     ·rw [if_pos c14] at H
      have c14b0 : decide (x9_1 < (l0.length : Int)) = true := decide_eq_true c14; clear c14; replace H := Option.bind_eq_some_iff.mp H; obtain ⟨t328, A150, H⟩ := H; replace H : (some (x9_1, (t328 == 0))) = some (r1, r2) := H; have A15 := Aside0.mk A150; clear A150; simp only [Option.some.injEq, Prod.mk.injEq] at H; obtain ⟨rfl, rfl⟩ := H; have p327 : 0 ≤ (x9_1 : Int) := od; have q327 : x9_1 < (l0.length : Int) := od; obtain ⟨ad327, A327_0, c327_0, e327, hx327_0, hx327_1, hl327_0, hi327_0⟩ := at_T84 HR0.out x9_1 p327 q327; cases e327; replace hx327_0 := hxb HB hx327_0
      replace hx327_1 := hxb HB hx327_1; have HR327_0 := Aside0.mk hi327_0; have HC327_0 := Aside0.mk hl327_0; clear hi327_0 hl327_0; replace p327 := eq_true p327; replace q327 := eq_true q327
      go_wp2_with (first | (go_at_call 112; (with_reducible refine (impl_find_1.calls _ _ ((rd_T84 l0 x9_1).f0) ((rd_T84 l0 x9_1).f1) _ _ l1 t328 _ ?side1 ?side2 ?side3 ?side4 A15.out).mono ?_); (case side1 => exact kcb); (case side2 => exact HC327_0.out); (case side3 => exact kcb); (case side4 => exact HC1.out); rintro e w16 ⟨rfl, hb⟩; replace HB := bst hb; (try clear hb); (try clear hb2); (try clear hk); (try clear hi)))
      go_ret2; exact ⟨rz_, bel⟩
     rw [if_neg c14] at H; exact absurd H (by simp)
    rw [if_neg c13] at H; exact absurd H (by simp)
   rw [if_neg c12] at H; have c12b0 : decide (x9_1 < (l0.length : Int)) = false := decide_eq_false c12; clear c12; simp only [Option.some.injEq, Prod.mk.injEq] at H; obtain ⟨rfl, rfl⟩ := H; go_wp2; go_ret2; exact ⟨rz_, bel⟩

/-! ### impl_find: function 67 -/
def impl_find.f (k : Nat) (l0 : List (S84)) (l1 : List Int) : Option (Int × Bool) := (impl_entry_byte.f k l0 l1 ()).bind fun bt329 => (some (bt329.1, bt329.2))
set_option maxHeartbeats 8000000 in
set_option maxRecDepth 100000 in
theorem impl_find.calls (k : Nat) (A0 : Option Addr) (c0 : Nat) (l0 : List (S84)) (A1 : Option Addr) (c1 : Nat) (l1 : List Int) (r1 : Int) (r2 : Bool) (w : World) (hr0 : Kd.C k84 w A0 l0.length l0) (hc0 : l0.length ≤ c0) (hr1 : Kd.C (Kd.int .u8) w A1 l1.length l1) (hc1 : l1.length ≤ c1) (h : impl_find.f k l0 l1 = some (r1, r2)) :
  Calls Try.prog 67 #[.slice A0 l0.length c0, .slice A1 l1.length c1] w fun e w' => e = .returned (.tuple #[.int .i64 r1, .bool r2]) ∧ Below w.heap.size w w' := by
 have HR0 := Aside0.mk hr0; have HC0 := Aside0.mk hc0; clear hr0 hc0; have HR1 := Aside0.mk hr1; have HC1 := Aside0.mk hc1; clear hr1 hc1; have HB := Aside0.mk (Below.refl w.heap.size w); have H : ((impl_entry_byte.f k l0 l1 ()).bind fun bt329 => (some (bt329.1, bt329.2))) = some (r1, r2) := h; clear h; replace H := Option.bind_eq_some_iff.mp H; obtain ⟨⟨t329, t330⟩, A30, H⟩ := H; replace H : (some (t329, t330)) = some (r1, r2) := H; have A3 := Aside0.mk A30; clear A30; simp only [Option.some.injEq, Prod.mk.injEq] at H; obtain ⟨rfl, rfl⟩ := H; go_enter Try.func67, Try.ntmps67
 go_wp2_with (first | ((with_reducible refine gate_callee (f := 111) rfl ?_); refine gl_ (some 8) Try.func111 #[.slice A0 l0.length c0, .slice A1 l1.length c1, .func (.func 112) #[] #[]] (h := ?_); (with_reducible refine (impl_entry_byte.calls k _ _ l0 _ _ l1 () t329 t330 _ ?side1 ?side2 ?side3 ?side4 A3.out).mono ?_); (case side1 => repeat (first | exact HR0.out | (with_reducible refine Kd.C_alloc ?_ _) | (with_reducible refine Kd.C_drewN ?_ _) | (with_reducible refine Kd.C_drew ?_))); (case side2 => exact HC0.out); (case side3 => repeat (first | exact HR1.out | (with_reducible refine Kd.C_alloc ?_ _) | (with_reducible refine Kd.C_drewN ?_ _) | (with_reducible refine Kd.C_drew ?_))); (case side4 => exact HC1.out); rintro e w4 ⟨rfl, hb⟩; refine ⟨_, rfl, ?_⟩; replace HB := bst hb; (try clear hb); (try clear hb2); (try clear hk); (try clear hi)))
 go_ret2; exact ⟨rz_, bel⟩

end Go.Proofs.Ytoaddpfoecggpaa.PV
