-- Written for this claim by the session's program pp.py, out of the kit's print and the seat's translation.
import Derived.Test.YtdgegnakiljfjaaPKx0
import Derived.Test.YtdgegnakiljfjaaPKx2
import Derived.Test.YtdgegnakiljfjaaPKx4
namespace Go.Proofs.Ytdgegnakiljfjaa.PK
open Go.RowKit Go.Proofs.YtdgegnakiljfjaaW.PrintWords Go.Proofs.YtdgegnakiljfjaaW.PrintLast Go.Proofs.YtdgegnakiljfjaaW.PrintMore
attribute [local go_sem] max2_int min2_int max_two min_two max_three min_three max_four min_four   -- for this text's walks alone
set_option linter.unusedVariables false
set_option linter.unusedSimpArgs false

/-! ### laws_eqView: function 61 -/
def laws_eqView.f (k : Nat) (a0_0 : Int) (a0_1 : Bool) (l0_2 : List Int) (a1_0 : Int) (a1_1 : Bool) (l1_2 : List Int) : Option (Bool) := if a0_0 = a1_0 then (if (a0_1 != a1_1) = true then (some false) else ((laws_eqByteS.f k l0_2 l1_2).bind fun t291 => (if t291 = true then (some true) else (some false)))) else (some false)
set_option maxHeartbeats 8000000 in
set_option maxRecDepth 100000 in
theorem laws_eqView.calls (k : Nat) (a0_0 : Int) (a0_1 : Bool) (A0_2 : Option Addr) (c0_2 : Nat) (l0_2 : List Int) (a1_0 : Int) (a1_1 : Bool) (A1_2 : Option Addr) (c1_2 : Nat) (l1_2 : List Int) (r : Bool) (w : World) (hr0_2 : Kd.C (Kd.int .u8) w A0_2 l0_2.length l0_2) (hc0_2 : l0_2.length ≤ c0_2) (hr1_2 : Kd.C (Kd.int .u8) w A1_2 l1_2.length l1_2) (hc1_2 : l1_2.length ≤ c1_2) (h : laws_eqView.f k a0_0 a0_1 l0_2 a1_0 a1_1 l1_2 = some r) :
  Calls Try.prog 61 #[.agg #[.int .i64 a0_0, .bool a0_1, .slice A0_2 l0_2.length c0_2], .agg #[.int .i64 a1_0, .bool a1_1, .slice A1_2 l1_2.length c1_2]] w fun e w' => e = .returned (.bool r) ∧ Below w.heap.size w w' := by
 have hu89 := Try.underlying89
 have HR0_2 := Aside0.mk hr0_2
 have HC0_2 := Aside0.mk hc0_2
 clear hr0_2 hc0_2
 have HR1_2 := Aside0.mk hr1_2
 have HC1_2 := Aside0.mk hc1_2
 clear hr1_2 hc1_2
 have HB := Aside0.mk (Below.refl w.heap.size w)
 have H : (if a0_0 = a1_0 then (if (a0_1 != a1_1) = true then (some false) else ((laws_eqByteS.f k l0_2 l1_2).bind fun t291 => (if t291 = true then (some true) else (some false)))) else (some false)) = some r := h
 clear h
 by_cases c3 : a0_0 = a1_0
 ·rw [if_pos c3] at H
  have c3b0 : (a0_0 == a1_0) = true := beq_iff_eq.mpr c3
  have c3b1 : (a0_0 != a1_0) = false := bne_eq_false_iff_eq.mpr c3
  clear c3
  by_cases c4 : (a0_1 != a1_1) = true
  ·rw [if_pos c4] at H
   have c4b0 : (a0_1 != a1_1) = true := c4
   (try (have c4b1 : decide (a0_1 = a1_1) = false := by simpa using c4))
   (try (have c4b2 : (a0_1 == a1_1) = false := by simpa using c4))
   (try (have c4b3 : ¬ (a0_1 = a1_1) := by simpa using c4))
   clear c4
   obtain rfl := Option.some.inj H
   go_enter Try.func61, Try.ntmps61
   go_wp2_with (first | ((with_reducible refine gate_dst (N := 2) rfl ?_); refine bx_ 2 #[.int .i64 a0_0, .bool a0_1, .slice A0_2 l0_2.length c0_2] 89 (h := ?_); intro gb289 hg w5 hbox hb; have BK289 := Aside0.mk (hbox); have GW289 := Aside0.mk ((by rw [hg]; exact (below_size bel) : w.heap.size ≤ gb289)); have GE289 := GW289; replace HB := bst hb; clear hb hbox hg) | ((with_reducible refine gate_dst (N := 3) rfl ?_); refine bx_ 3 #[.int .i64 a1_0, .bool a1_1, .slice A1_2 l1_2.length c1_2] 89 (h := ?_); intro gb290 hg w6 hbox hb; have BK290 := Aside0.mk (hbox); have GW290 := Aside0.mk ((by rw [hg]; exact (below_size bel) : w.heap.size ≤ gb290)); have GE290 := GW290; have NB289_290 := Aside0.mk ((by rw [hg]; exact Nat.ne_of_lt (blt BK289) : gb289 ≠ gb290)); have NB290_289 := Aside0.mk NB289_290.out.symm; replace BK289 := Aside0.mk (blb BK289 hb); replace HB := bst hb; clear hb hbox hg; have hnb7 := NB289_290.out; have hnc7 := NB290_289.out; obtain ⟨C8_0, C8_1, C8_2, -⟩ := cells_3 BK289.out trivial; obtain ⟨F8_0, F8_1, F8_2, -⟩ := frz_3 BK289.out; obtain ⟨C9_0, C9_1, C9_2, -⟩ := cells_3 BK290.out trivial; obtain ⟨F9_0, F9_1, F9_2, -⟩ := frz_3 BK290.out))
   go_ret
   exact ⟨rz_, bel⟩
  rw [if_neg c4] at H
  have c4b0 : (a0_1 != a1_1) = false := by simpa using c4
  (try (have c4b1 : decide (a0_1 = a1_1) = true := by simpa using c4))
  (try (have c4b2 : (a0_1 == a1_1) = true := by simpa using c4))
  clear c4
  replace H := Option.bind_eq_some_iff.mp H
  obtain ⟨t291, A100, H⟩ := H
  replace H : (if t291 = true then (some true) else (some false)) = some r := H
  have A10 := Aside0.mk A100
  clear A100
  by_cases c11 : t291 = true
  ·subst c11
   have H1 : (some true) = some r := by rw [if_pos rfl] at H; exact H
   clear H
   have H := H1
   clear H1
   obtain rfl := Option.some.inj H
   go_enter Try.func61, Try.ntmps61
   go_wp2_with (first | ((with_reducible refine gate_dst (N := 2) rfl ?_); refine bx_ 2 #[.int .i64 a0_0, .bool a0_1, .slice A0_2 l0_2.length c0_2] 89 (h := ?_); intro gb289 hg w12 hbox hb; have BK289 := Aside0.mk (hbox); have GW289 := Aside0.mk ((by rw [hg]; exact (below_size bel) : w.heap.size ≤ gb289)); have GE289 := GW289; replace HB := bst hb; clear hb hbox hg) | ((with_reducible refine gate_dst (N := 3) rfl ?_); refine bx_ 3 #[.int .i64 a1_0, .bool a1_1, .slice A1_2 l1_2.length c1_2] 89 (h := ?_); intro gb290 hg w13 hbox hb; have BK290 := Aside0.mk (hbox); have GW290 := Aside0.mk ((by rw [hg]; exact (below_size bel) : w.heap.size ≤ gb290)); have GE290 := GW290; have NB289_290 := Aside0.mk ((by rw [hg]; exact Nat.ne_of_lt (blt BK289) : gb289 ≠ gb290)); have NB290_289 := Aside0.mk NB289_290.out.symm; replace BK289 := Aside0.mk (blb BK289 hb); replace HB := bst hb; clear hb hbox hg; have hnb14 := NB289_290.out; have hnc14 := NB290_289.out; obtain ⟨C15_0, C15_1, C15_2, -⟩ := cells_3 BK289.out trivial; obtain ⟨F15_0, F15_1, F15_2, -⟩ := frz_3 BK289.out; obtain ⟨C16_0, C16_1, C16_2, -⟩ := cells_3 BK290.out trivial; obtain ⟨F16_0, F16_1, F16_2, -⟩ := frz_3 BK290.out) | ((with_reducible refine gate_callee (f := 35) rfl ?_); refine gl_ (some 19) Try.func35 #[.slice A0_2 l0_2.length c0_2, .slice A1_2 l1_2.length c1_2] (h := ?_); (with_reducible refine (laws_eqByteS.calls k _ _ l0_2 _ _ l1_2 true _ ?side1 ?side2 ?side3 ?side4 A10.out).mono ?_); (case side1 => exact kcb); (case side2 => exact HC0_2.out); (case side3 => exact kcb); (case side4 => exact HC1_2.out); rintro e w' ⟨rfl, ⟨nd, rfl⟩⟩; refine ⟨_, rfl, ?_⟩))
   go_ret
   exact ⟨rz_, bel⟩
  replace c11 := Bool.eq_false_iff.mpr c11
  subst c11
  have H1 : (some false) = some r := by rw [if_neg (show ¬ (false = true) by decide)] at H; exact H
  clear H
  have H := H1
  clear H1
  obtain rfl := Option.some.inj H
  go_enter Try.func61, Try.ntmps61
  go_wp2_with (first | ((with_reducible refine gate_dst (N := 2) rfl ?_); refine bx_ 2 #[.int .i64 a0_0, .bool a0_1, .slice A0_2 l0_2.length c0_2] 89 (h := ?_); intro gb289 hg w17 hbox hb; have BK289 := Aside0.mk (hbox); have GW289 := Aside0.mk ((by rw [hg]; exact (below_size bel) : w.heap.size ≤ gb289)); have GE289 := GW289; replace HB := bst hb; clear hb hbox hg) | ((with_reducible refine gate_dst (N := 3) rfl ?_); refine bx_ 3 #[.int .i64 a1_0, .bool a1_1, .slice A1_2 l1_2.length c1_2] 89 (h := ?_); intro gb290 hg w18 hbox hb; have BK290 := Aside0.mk (hbox); have GW290 := Aside0.mk ((by rw [hg]; exact (below_size bel) : w.heap.size ≤ gb290)); have GE290 := GW290; have NB289_290 := Aside0.mk ((by rw [hg]; exact Nat.ne_of_lt (blt BK289) : gb289 ≠ gb290)); have NB290_289 := Aside0.mk NB289_290.out.symm; replace BK289 := Aside0.mk (blb BK289 hb); replace HB := bst hb; clear hb hbox hg; have hnb19 := NB289_290.out; have hnc19 := NB290_289.out; obtain ⟨C20_0, C20_1, C20_2, -⟩ := cells_3 BK289.out trivial; obtain ⟨F20_0, F20_1, F20_2, -⟩ := frz_3 BK289.out; obtain ⟨C21_0, C21_1, C21_2, -⟩ := cells_3 BK290.out trivial; obtain ⟨F21_0, F21_1, F21_2, -⟩ := frz_3 BK290.out) | ((with_reducible refine gate_callee (f := 35) rfl ?_); refine gl_ (some 19) Try.func35 #[.slice A0_2 l0_2.length c0_2, .slice A1_2 l1_2.length c1_2] (h := ?_); (with_reducible refine (laws_eqByteS.calls k _ _ l0_2 _ _ l1_2 false _ ?side1 ?side2 ?side3 ?side4 A10.out).mono ?_); (case side1 => exact kcb); (case side2 => exact HC0_2.out); (case side3 => exact kcb); (case side4 => exact HC1_2.out); rintro e w' ⟨rfl, ⟨nd, rfl⟩⟩; refine ⟨_, rfl, ?_⟩))
  go_ret
  exact ⟨rz_, bel⟩
 rw [if_neg c3] at H
 have c3b0 : (a0_0 == a1_0) = false := beq_eq_false_iff_ne.mpr c3
 have c3b1 : (a0_0 != a1_0) = true := bne_iff_ne.mpr c3
 obtain rfl := Option.some.inj H
 go_enter Try.func61, Try.ntmps61
 go_wp2_with (first | ((with_reducible refine gate_dst (N := 2) rfl ?_); refine bx_ 2 #[.int .i64 a0_0, .bool a0_1, .slice A0_2 l0_2.length c0_2] 89 (h := ?_); intro gb289 hg w22 hbox hb; have BK289 := Aside0.mk (hbox); have GW289 := Aside0.mk ((by rw [hg]; exact (below_size bel) : w.heap.size ≤ gb289)); have GE289 := GW289; replace HB := bst hb; clear hb hbox hg) | ((with_reducible refine gate_dst (N := 3) rfl ?_); refine bx_ 3 #[.int .i64 a1_0, .bool a1_1, .slice A1_2 l1_2.length c1_2] 89 (h := ?_); intro gb290 hg w23 hbox hb; have BK290 := Aside0.mk (hbox); have GW290 := Aside0.mk ((by rw [hg]; exact (below_size bel) : w.heap.size ≤ gb290)); have GE290 := GW290; have NB289_290 := Aside0.mk ((by rw [hg]; exact Nat.ne_of_lt (blt BK289) : gb289 ≠ gb290)); have NB290_289 := Aside0.mk NB289_290.out.symm; replace BK289 := Aside0.mk (blb BK289 hb); replace HB := bst hb; clear hb hbox hg; have hnb24 := NB289_290.out; have hnc24 := NB290_289.out; obtain ⟨C25_0, C25_1, C25_2, -⟩ := cells_3 BK289.out trivial; obtain ⟨F25_0, F25_1, F25_2, -⟩ := frz_3 BK289.out; obtain ⟨C26_0, C26_1, C26_2, -⟩ := cells_3 BK290.out trivial; obtain ⟨F26_0, F26_1, F26_2, -⟩ := frz_3 BK290.out))
 go_ret
 exact ⟨rz_, bel⟩

/-! ### laws_markView: function 62 -/
def laws_markView.f (k : Nat) (a0_0 : Int) (a0_1 : Bool) (l0_2 : List Int) (a1 : Int) : Option (Int × List Int) := (laws_markByteS.f k l0_2 a1).bind fun bt293 => (some (bt293.1, bt293.2))
set_option maxHeartbeats 8000000 in
set_option maxRecDepth 100000 in
theorem laws_markView.calls (k : Nat) (a0_0 : Int) (a0_1 : Bool) (P0_2_ : Nat → Prop) (u9000_ : Value) (l0_2 : List Int) (a1 : Int) (r1 : Int) (r2 : List Int) (w0 w : World) (hB : Below w0.heap.size w0 w) (ho0_2 : Kd.R (Kd.int .u8) 5 w w0.heap.size P0_2_ u9000_ l0_2) (h : laws_markView.f k a0_0 a0_1 l0_2 a1 = some (r1, r2)) :
  Calls Try.prog 62 #[.agg #[.int .i64 a0_0, .bool a0_1, u9000_], .int .i64 a1] w fun e w' => e = .returned (.int .i64 r1) ∧ Kd.R (Kd.int .u8) 5 w' w0.heap.size (fun k_ => (P0_2_ k_ ∨ w.heap.size ≤ k_)) u9000_ r2 ∧ Below w0.heap.size w0 w' ∧ Kept w w' (fun k_ => P0_2_ k_) := by
 have hu89 := Try.underlying89
 have HO0_2 := Aside0.mk (show Kd.R (Kd.int .u8) 5 w w0.heap.size (fun k_ => (P0_2_ k_ ∨ w.heap.size ≤ k_)) u9000_ l0_2 from Kd.R_mono ho0_2 (fun k_ hk => (.inl hk)))
 have HK := Aside0.mk (Kept.refl w (fun k_ => P0_2_ k_))
 have HW0 := Aside0.mk hB.size
 have HB := Aside0.mk hB
 clear hB
 have H : ((laws_markByteS.f k l0_2 a1).bind fun bt293 => (some (bt293.1, bt293.2))) = some (r1, r2) := h
 clear h
 replace H := Option.bind_eq_some_iff.mp H
 obtain ⟨⟨t293, t294⟩, A30, H⟩ := H
 replace H : (some (t293, t294)) = some (r1, r2) := H
 have A3 := Aside0.mk A30
 clear A30
 simp only [Option.some.injEq, Prod.mk.injEq] at H
 obtain ⟨rfl, rfl⟩ := H
 obtain ⟨Ao4, co4, eo4⟩ := Kd.R_slice HO0_2.out
 subst eo4
 go_enter Try.func62, Try.ntmps62
 go_wp2_with (first | ((with_reducible refine gate_dst (N := 2) rfl ?_); refine bx_ 2 #[.int .i64 a0_0, .bool a0_1, .slice Ao4 l0_2.length co4] 89 (h := ?_); intro gb292 hg w5 hbox hb; have BK292 := Aside0.mk (hbox); have GW292 := Aside0.mk ((by rw [hg]; exact (by first | exact HK.out.1 | exact (show Kept w _ (fun k_ => P0_2_ k_) from by repeat (first | (with_reducible first | exact HK.out | apply Kept.alloc | apply Kept.drewN | apply Kept.drew) | exact HK.out)).1) : w.heap.size ≤ gb292)); have GE292 := Aside0.mk ((by rw [hg]; exact (below_size bel) : w0.heap.size ≤ gb292)); replace HO0_2 := Aside0.mk (rbl HO0_2 hb); replace HK := Aside0.mk (Kept.below (S := (fun k_ => P0_2_ k_)) (by repeat (first | (with_reducible first | exact HK.out | apply Kept.alloc | apply Kept.drewN | apply Kept.drew) | exact HK.out)) hb); replace HB := bst hb; clear hb hbox hg; obtain ⟨C6_0, C6_1, C6_2, -⟩ := cells_3 BK292.out trivial; obtain ⟨F6_0, F6_1, F6_2, -⟩ := frz_3 BK292.out) | ((with_reducible refine gate_callee (f := 38) rfl ?_); refine gl_ (some 8) Try.func38 #[.slice Ao4 l0_2.length co4, .int .i64 a1] (h := ?_); (with_reducible refine (laws_markByteS.calls k (fun k_ => some k_ = (.slice Ao4 l0_2.length co4 : Value).ownBlock) (.slice Ao4 l0_2.length co4) l0_2 a1 t293 t294 w0 _ ?side1 ?side2 A3.out).mono ?_); (case side1 => repeat (first | (with_reducible first | exact HB.out | apply below_alloc | apply pw_below_drewN | apply below_drew1 | refine below_set ?_ GE292.out) | exact HB.out)); (case side2 => exact Kd.R_tight rfl HO0_2.out); rintro e w7 ⟨rfl, hy0, hb, hkp⟩; refine ⟨_, rfl, ?_⟩; replace BK292 := Aside0.mk (blk_kept (bkp BK292) hkp (fun hs_ => (fun e_ => (Kd.R_ne HO0_2.out BK292.out (by decide)) e_) hs_)); replace HK := Aside0.mk (Kept.then_ (S := (fun k_ => P0_2_ k_)) (by repeat (first | (with_reducible first | exact HK.out | apply Kept.alloc | apply Kept.drewN | apply Kept.drew | refine Kept.setCell ?_ (.inr GW292.out) _) | exact HK.out)) hkp (fun k_ hs_ => (fun e_ => (HO0_2.out.1 k_ e_.symm)) hs_)); replace HO0_2 := Aside0.mk (Kd.R_reok rfl hy0 (fun k_ e_ => HO0_2.out.1 k_ e_)); replace HB := Aside0.mk (hb); (try clear hb); (try clear hkp); (try clear hy0)))
 go_ret
 exact ⟨rz_, by (with_reducible repeat (first | apply Kd.R_alloc | apply Kd.R_drewN | apply Kd.R_drew)); exact HO0_2.out, by repeat (first | (with_reducible first | exact HB.out | apply below_alloc | apply pw_below_drewN | apply below_drew1 | refine below_set ?_ GE292.out) | exact HB.out), by repeat (first | (with_reducible first | exact HK.out | apply Kept.alloc | apply Kept.drewN | apply Kept.drew | refine Kept.setCell ?_ (.inr GW292.out) _) | exact HK.out)⟩

/-! ### laws_heldByteS: function 39 -/
def laws_heldByteS.l0 : Nat → List Int → Int → Int → Option (Int)
 | 0, _, _, _ => none
 | k + 1, x0, x1, x5 => if x5 < (x0.length : Int) then (if 0 ≤ x5 then (if (rd x0 x5) = ((x1) % 256) then (laws_heldByteS.l0 k x0 (wrap64 (x1 + 1)) (wrap64 (x5 + 1))) else (some (-1))) else (none)) else (some x1)
def laws_heldByteS.f (k : Nat) (l0 : List Int) (a1 : Int) : Option (Int) := laws_heldByteS.l0 k l0 a1 0
set_option maxHeartbeats 8000000 in
set_option maxRecDepth 100000 in
theorem laws_heldByteS.calls (k : Nat) (A0 : Option Addr) (c0 : Nat) (l0 : List Int) (a1 : Int) (r : Int) (w : World) (hr0 : Kd.C (Kd.int .u8) w A0 l0.length l0) (hc0 : l0.length ≤ c0) (h : laws_heldByteS.f k l0 a1 = some r) :
  Calls Try.prog 39 #[.slice A0 l0.length c0, .int .i64 a1] w fun e w' => e = .returned (.int .i64 r) ∧ Drawn0 w w' := by
 have HR0 := Aside0.mk hr0
 have HC0 := Aside0.mk hc0
 clear hr0 hc0
 have H : (laws_heldByteS.l0 k l0 a1 0) = some r := h
 clear h
 have H' := Aside0.mk H
 clear H
 go_enter Try.func39, Try.ntmps39
 go_wp2
 go_loopg [1, 5] k (fun kq v1 v5 w' => ∃ (x1_1 : Int) (x5_1 : Int), v1 = .int .i64 x1_1 ∧ v5 = .int .i64 x5_1 ∧ Aside0 (laws_heldByteS.l0 kq l0 x1_1 x5_1 = some r) ∧ Aside0 (kq ≤ k) ∧ Drawn0 w w')
 case atStart => exact ⟨(a1), (0), rs_, rs_, H', ⟨Nat.le_refl _⟩, by repeat (first | exact Drawn0.refl _ | apply Drawn0.step)⟩
 case round =>
  clear H'
  try clear p2
  obtain ⟨x1_1, x5_1, rfl, rfl, HA, HK1, ⟨m1, rfl⟩⟩ := hrel
  cases gk with
  | zero => exact absurd HA.out (by simp [laws_heldByteS.l0])
  | succ k1 =>
   have H := HA.out
   clear HA
   simp only [laws_heldByteS.l0] at H
   by_cases c3 : x5_1 < (l0.length : Int)
   ·rw [if_pos c3] at H
    have c3b0 : decide (x5_1 < (l0.length : Int)) = true := decide_eq_true c3
    clear c3
    by_cases c4 : 0 ≤ x5_1
    ·rw [if_pos c4] at H
     have c4b0 : decide (0 ≤ x5_1) = true := decide_eq_true c4
     clear c4
     by_cases c5 : (rd l0 x5_1) = ((x1_1) % 256)
     ·rw [if_pos c5] at H
      have c5b0 : ((rd l0 x5_1) == ((x1_1) % 256)) = true := beq_iff_eq.mpr c5
      have c5b1 : ((rd l0 x5_1) != ((x1_1) % 256)) = false := bne_eq_false_iff_eq.mpr c5
      clear c5
      have H' := Aside0.mk H
      clear H
      have p295 : 0 ≤ (x5_1 : Int) := od
      have q295 : x5_1 < (l0.length : Int) := od
      obtain ⟨ad295, e295, hx295_0⟩ := Kd.at_int HR0.out x5_1 p295 q295
      cases e295
      replace p295 := eq_true p295
      replace q295 := eq_true q295
      go_wp2
      go_roundg k1
      case measure => have := HK1.out; omega
      case rel => exact ⟨(wrap64 (x1_1 + 1)), (wrap64 (x5_1 + 1)), rs_, rs_, H', ⟨by have := HK1.out; omega⟩, by repeat (first | exact Drawn0.refl _ | apply Drawn0.step)⟩
     rw [if_neg c5] at H
     have c5b0 : ((rd l0 x5_1) == ((x1_1) % 256)) = false := beq_eq_false_iff_ne.mpr c5
     have c5b1 : ((rd l0 x5_1) != ((x1_1) % 256)) = true := bne_iff_ne.mpr c5
     obtain rfl := Option.some.inj H
     have p295 : 0 ≤ (x5_1 : Int) := od
     have q295 : x5_1 < (l0.length : Int) := od
     obtain ⟨ad295, e295, hx295_0⟩ := Kd.at_int HR0.out x5_1 p295 q295
     cases e295
     replace p295 := eq_true p295
     replace q295 := eq_true q295
     go_wp2
     go_ret
     exact ⟨by first | rfl | (simp; done) | (simp [*]; done), by repeat (first | exact Drawn0.refl _ | apply Drawn0.step)⟩
    rw [if_neg c4] at H
    exact absurd H (by simp)
   rw [if_neg c3] at H
   have c3b0 : decide (x5_1 < (l0.length : Int)) = false := decide_eq_false c3
   clear c3
   obtain rfl := Option.some.inj H
   go_wp2
   go_ret
   exact ⟨by first | rfl | (simp; done) | (simp [*]; done), by repeat (first | exact Drawn0.refl _ | apply Drawn0.step)⟩

/-! ### laws_heldView: function 63 -/
def laws_heldView.f (k : Nat) (a0_0 : Int) (a0_1 : Bool) (l0_2 : List Int) (a1 : Int) : Option (Int) := (laws_heldByteS.f k l0_2 a1).bind fun t297 => (if t297 < 0 then (some (-1)) else (some t297))
set_option maxHeartbeats 8000000 in
set_option maxRecDepth 100000 in
theorem laws_heldView.calls (k : Nat) (a0_0 : Int) (a0_1 : Bool) (A0_2 : Option Addr) (c0_2 : Nat) (l0_2 : List Int) (a1 : Int) (r : Int) (w : World) (hr0_2 : Kd.C (Kd.int .u8) w A0_2 l0_2.length l0_2) (hc0_2 : l0_2.length ≤ c0_2) (h : laws_heldView.f k a0_0 a0_1 l0_2 a1 = some r) :
  Calls Try.prog 63 #[.agg #[.int .i64 a0_0, .bool a0_1, .slice A0_2 l0_2.length c0_2], .int .i64 a1] w fun e w' => e = .returned (.int .i64 r) ∧ Below w.heap.size w w' := by
 have hu89 := Try.underlying89
 have HR0_2 := Aside0.mk hr0_2
 have HC0_2 := Aside0.mk hc0_2
 clear hr0_2 hc0_2
 have HB := Aside0.mk (Below.refl w.heap.size w)
 have H : ((laws_heldByteS.f k l0_2 a1).bind fun t297 => (if t297 < 0 then (some (-1)) else (some t297))) = some r := h
 clear h
 replace H := Option.bind_eq_some_iff.mp H
 obtain ⟨t297, A30, H⟩ := H
 replace H : (if t297 < 0 then (some (-1)) else (some t297)) = some r := H
 have A3 := Aside0.mk A30
 clear A30
 by_cases c4 : t297 < 0
 ·rw [if_pos c4] at H
  have c4b0 : decide (t297 < 0) = true := decide_eq_true c4
  clear c4
  obtain rfl := Option.some.inj H
  go_enter Try.func63, Try.ntmps63
  go_wp2_with (first | ((with_reducible refine gate_dst (N := 2) rfl ?_); refine bx_ 2 #[.int .i64 a0_0, .bool a0_1, .slice A0_2 l0_2.length c0_2] 89 (h := ?_); intro gb296 hg w5 hbox hb; have BK296 := Aside0.mk (hbox); have GW296 := Aside0.mk ((by rw [hg]; exact (below_size bel) : w.heap.size ≤ gb296)); have GE296 := GW296; replace HB := bst hb; clear hb hbox hg; obtain ⟨C6_0, C6_1, C6_2, -⟩ := cells_3 BK296.out trivial; obtain ⟨F6_0, F6_1, F6_2, -⟩ := frz_3 BK296.out) | ((with_reducible refine gate_callee (f := 39) rfl ?_); refine gl_ (some 8) Try.func39 #[.slice A0_2 l0_2.length c0_2, .int .i64 a1] (h := ?_); (with_reducible refine (laws_heldByteS.calls k _ _ l0_2 a1 t297 _ ?side1 ?side2 A3.out).mono ?_); (case side1 => exact kcb); (case side2 => exact HC0_2.out); rintro e w' ⟨rfl, ⟨nd, rfl⟩⟩; refine ⟨_, rfl, ?_⟩))
  go_ret
  exact ⟨rz_, bel⟩
 rw [if_neg c4] at H
 have c4b0 : decide (t297 < 0) = false := decide_eq_false c4
 clear c4
 obtain rfl := Option.some.inj H
 go_enter Try.func63, Try.ntmps63
 go_wp2_with (first | ((with_reducible refine gate_dst (N := 2) rfl ?_); refine bx_ 2 #[.int .i64 a0_0, .bool a0_1, .slice A0_2 l0_2.length c0_2] 89 (h := ?_); intro gb296 hg w7 hbox hb; have BK296 := Aside0.mk (hbox); have GW296 := Aside0.mk ((by rw [hg]; exact (below_size bel) : w.heap.size ≤ gb296)); have GE296 := GW296; replace HB := bst hb; clear hb hbox hg; obtain ⟨C8_0, C8_1, C8_2, -⟩ := cells_3 BK296.out trivial; obtain ⟨F8_0, F8_1, F8_2, -⟩ := frz_3 BK296.out) | ((with_reducible refine gate_callee (f := 39) rfl ?_); refine gl_ (some 8) Try.func39 #[.slice A0_2 l0_2.length c0_2, .int .i64 a1] (h := ?_); (with_reducible refine (laws_heldByteS.calls k _ _ l0_2 a1 t297 _ ?side1 ?side2 A3.out).mono ?_); (case side1 => exact kcb); (case side2 => exact HC0_2.out); rintro e w' ⟨rfl, ⟨nd, rfl⟩⟩; refine ⟨_, rfl, ?_⟩))
 go_ret
 exact ⟨rz_, bel⟩

/-! ### spec_l2index: function 71 -/
def spec_l2index.f (a0 : Int) : Option (Bool) := if a0 ≥ 0 then (some (decide (a0 ≤ 1000000))) else (some false)
set_option maxHeartbeats 8000000 in
set_option maxRecDepth 100000 in
theorem spec_l2index.calls (a0 : Int) (r : Bool) (w : World) (h : spec_l2index.f a0 = some r) :
  Calls Try.prog 71 #[.int .i64 a0] w fun e w' => e = .returned (.bool r) ∧ Drawn0 w w' := by
 have H : (if a0 ≥ 0 then (some (decide (a0 ≤ 1000000))) else (some false)) = some r := h
 clear h
 by_cases c2 : a0 ≥ 0
 ·rw [if_pos c2] at H
  have c2b0 : decide (0 ≤ a0) = true := decide_eq_true c2
  clear c2
  obtain rfl := Option.some.inj H
  go_enter Try.func71, Try.ntmps71
  go_wp2
  go_ret
  exact ⟨by first | rfl | (simp; done) | (simp [*]; done), by repeat (first | exact Drawn0.refl _ | apply Drawn0.step)⟩
 rw [if_neg c2] at H
 have c2b0 : decide (0 ≤ a0) = false := decide_eq_false c2
 clear c2
 obtain rfl := Option.some.inj H
 go_enter Try.func71, Try.ntmps71
 go_wp2
 go_ret
 exact ⟨by first | rfl | (simp; done) | (simp [*]; done), by repeat (first | exact Drawn0.refl _ | apply Drawn0.step)⟩

/-! ### spec_l2key: function 72 -/
mutual
def spec_l2key.j0 : Nat → List Int → Bool → Option (Bool)
 | 0, _, _ => none
 | k + 1, x0, x11 => if x11 = true then (some false) else (spec_l2key.l0 k x0 0)
def spec_l2key.l0 : Nat → List Int → Int → Option (Bool)
 | 0, _, _ => none
 | k + 1, x0, x3 => if x3 < (x0.length : Int) then (if 0 ≤ x3 then (if (rd x0 x3) < 97 then (if (rd x0 x3) = 47 then (spec_l2key.l0 k x0 (wrap64 (x3 + 1))) else (some false)) else (if (rd x0 x3) > 122 then (if (rd x0 x3) = 47 then (spec_l2key.l0 k x0 (wrap64 (x3 + 1))) else (some false)) else (spec_l2key.l0 k x0 (wrap64 (x3 + 1))))) else (none)) else (some true)
end
def spec_l2key.f (k : Nat) (l0 : List Int) : Option (Bool) := if (l0.length : Int) < 1 then (spec_l2key.j0 k l0 true) else (spec_l2key.j0 k l0 (decide ((l0.length : Int) > 20)))
set_option maxHeartbeats 8000000 in
set_option maxRecDepth 100000 in
theorem spec_l2key.calls (k : Nat) (A0 : Option Addr) (c0 : Nat) (l0 : List Int) (r : Bool) (w : World) (hr0 : Kd.C (Kd.int .u8) w A0 l0.length l0) (hc0 : l0.length ≤ c0) (h : spec_l2key.f k l0 = some r) :
  Calls Try.prog 72 #[.slice A0 l0.length c0] w fun e w' => e = .returned (.bool r) ∧ Drawn0 w w' := by
 have HR0 := Aside0.mk hr0
 have HC0 := Aside0.mk hc0
 clear hr0 hc0
 have H : (if (l0.length : Int) < 1 then (spec_l2key.j0 k l0 true) else (spec_l2key.j0 k l0 (decide ((l0.length : Int) > 20)))) = some r := h
 clear h
 have HC2 := Aside0.mk H
 clear H
 go_enter Try.func72, Try.ntmps72
 go_upto_region 1 with (fail)
 go_cut [11] (fun v11 wc => ∃ (kq : Nat) (x11_1 : Bool), v11 = .bool x11_1 ∧ Aside0 (spec_l2key.j0 kq l0 x11_1 = some r) ∧ Aside0 (kq ≤ k) ∧ Drawn0 w wc)
 case first =>
  have H := HC2.out
  clear HC2
  by_cases c3 : (l0.length : Int) < 1
  ·rw [if_pos c3] at H
   have c3b0 : decide ((l0.length : Int) < 1) = true := decide_eq_true c3
   have c3b1 : decide (l0.length < 1) = true := decide_eq_true (by omega)
   clear c3
   (first | rw [c3b0] | (simp only [i64_w, i32_w]; rw [c3b0]) | skip)
   have H' := Aside0.mk H
   clear H
   go_wp2
   go_meet
   case rel => exact ⟨_, (true), rs_, H', ⟨by first | omega | exact Nat.le_refl _⟩, by repeat (first | exact Drawn0.refl _ | apply Drawn0.step)⟩
  rw [if_neg c3] at H
  have c3b0 : decide ((l0.length : Int) < 1) = false := decide_eq_false c3
  have c3b1 : decide (l0.length < 1) = false := decide_eq_false (by omega)
  clear c3
  (first | rw [c3b0] | (simp only [i64_w, i32_w]; rw [c3b0]) | skip)
  have H' := Aside0.mk H
  clear H
  go_wp2
  go_meet
  case rel => exact ⟨_, (decide ((l0.length : Int) > 20)), rs_, H', ⟨by first | omega | exact Nat.le_refl _⟩, by repeat (first | exact Drawn0.refl _ | apply Drawn0.step)⟩
 case rest =>
  clear HC2
  try clear p2; try clear c3; try clear c3b0; try clear c3b1
  obtain ⟨kq, x11_1, rfl, HA, HJ1, ⟨mc1, rfl⟩⟩ := hcut
  cases kq with
  | zero => exact absurd HA.out (by simp [spec_l2key.j0])
  | succ kj1 =>
   have H := HA.out
   clear HA
   simp only [spec_l2key.j0] at H
   by_cases c4 : x11_1 = true
   ·subst c4
    have H1 : (some false) = some r := by rw [if_pos rfl] at H; exact H
    clear H
    have H := H1
    clear H1
    obtain rfl := Option.some.inj H
    go_wp2
    go_ret
    exact ⟨by first | rfl | (simp; done) | (simp [*]; done), by repeat (first | exact Drawn0.refl _ | apply Drawn0.step)⟩
   replace c4 := Bool.eq_false_iff.mpr c4
   subst c4
   have H1 : (spec_l2key.l0 kj1 l0 0) = some r := by rw [if_neg (show ¬ (false = true) by decide)] at H; exact H
   clear H
   have H := H1
   clear H1
   have H' := Aside0.mk H
   clear H
   go_wp2
   go_loopg [3] kj1 (fun kq v3 w' => ∃ (x3_2 : Int), v3 = .int .i64 x3_2 ∧ Aside0 (spec_l2key.l0 kq l0 x3_2 = some r) ∧ Aside0 (kq ≤ kj1) ∧ Drawn0 w w')
   case atStart => exact ⟨(0), rs_, H', ⟨Nat.le_refl _⟩, by repeat (first | exact Drawn0.refl _ | apply Drawn0.step)⟩
   case round =>
    clear H'
    try clear c1; try clear p2; try clear c3; try clear c3b0; try clear c3b1; try clear c4; try clear p2
    obtain ⟨x3_2, rfl, HA, HK2, ⟨m2, rfl⟩⟩ := hrel
    cases gk with
    | zero => exact absurd HA.out (by simp [spec_l2key.l0])
    | succ k2 =>
     have H := HA.out
     clear HA
     simp only [spec_l2key.l0] at H
     by_cases c5 : x3_2 < (l0.length : Int)
     ·rw [if_pos c5] at H
      have c5b0 : decide (x3_2 < (l0.length : Int)) = true := decide_eq_true c5
      clear c5
      by_cases c6 : 0 ≤ x3_2
      ·rw [if_pos c6] at H
       have c6b0 : decide (0 ≤ x3_2) = true := decide_eq_true c6
       clear c6
       by_cases c7 : (rd l0 x3_2) < 97
       ·rw [if_pos c7] at H
        have c7b0 : decide ((rd l0 x3_2) < 97) = true := decide_eq_true c7
        clear c7
        by_cases c8 : (rd l0 x3_2) = 47
        ·rw [if_pos c8] at H
         have c8b0 : ((rd l0 x3_2) == 47) = true := beq_iff_eq.mpr c8
         have c8b1 : ((rd l0 x3_2) != 47) = false := bne_eq_false_iff_eq.mpr c8
         clear c8
         have H' := Aside0.mk H
         clear H
         have p298 : 0 ≤ (x3_2 : Int) := od
         have q298 : x3_2 < (l0.length : Int) := od
         obtain ⟨ad298, e298, hx298_0⟩ := Kd.at_int HR0.out x3_2 p298 q298
         cases e298
         replace p298 := eq_true p298
         replace q298 := eq_true q298
         have p299 : 0 ≤ (x3_2 : Int) := od
         have q299 : x3_2 < (l0.length : Int) := od
         obtain ⟨ad299, e299, hx299_0⟩ := Kd.at_int HR0.out x3_2 p299 q299
         obtain rfl : ad298 = ad299 := (by injection e299)
         replace p299 := eq_true p299
         replace q299 := eq_true q299
         go_wp2
         go_roundg k2
         case measure => have := HJ1.out; have := HK2.out; omega
         case rel => exact ⟨(wrap64 (x3_2 + 1)), rs_, H', ⟨by have := HJ1.out; have := HK2.out; omega⟩, by repeat (first | exact Drawn0.refl _ | apply Drawn0.step)⟩
        rw [if_neg c8] at H
        have c8b0 : ((rd l0 x3_2) == 47) = false := beq_eq_false_iff_ne.mpr c8
        have c8b1 : ((rd l0 x3_2) != 47) = true := bne_iff_ne.mpr c8
        obtain rfl := Option.some.inj H
        have p298 : 0 ≤ (x3_2 : Int) := od
        have q298 : x3_2 < (l0.length : Int) := od
        obtain ⟨ad298, e298, hx298_0⟩ := Kd.at_int HR0.out x3_2 p298 q298
        cases e298
        replace p298 := eq_true p298
        replace q298 := eq_true q298
        have p299 : 0 ≤ (x3_2 : Int) := od
        have q299 : x3_2 < (l0.length : Int) := od
        obtain ⟨ad299, e299, hx299_0⟩ := Kd.at_int HR0.out x3_2 p299 q299
        obtain rfl : ad298 = ad299 := (by injection e299)
        replace p299 := eq_true p299
        replace q299 := eq_true q299
        go_wp2
        go_ret
        exact ⟨by first | rfl | (simp; done) | (simp [*]; done), by repeat (first | exact Drawn0.refl _ | apply Drawn0.step)⟩
       rw [if_neg c7] at H
       have c7b0 : decide ((rd l0 x3_2) < 97) = false := decide_eq_false c7
       clear c7
       by_cases c9 : (rd l0 x3_2) > 122
       ·rw [if_pos c9] at H
        have c9b0 : decide (122 < (rd l0 x3_2)) = true := decide_eq_true c9
        clear c9
        by_cases c10 : (rd l0 x3_2) = 47
        ·rw [if_pos c10] at H
         have c10b0 : ((rd l0 x3_2) == 47) = true := beq_iff_eq.mpr c10
         have c10b1 : ((rd l0 x3_2) != 47) = false := bne_eq_false_iff_eq.mpr c10
         clear c10
         have H' := Aside0.mk H
         clear H
         have p298 : 0 ≤ (x3_2 : Int) := od
         have q298 : x3_2 < (l0.length : Int) := od
         obtain ⟨ad298, e298, hx298_0⟩ := Kd.at_int HR0.out x3_2 p298 q298
         cases e298
         replace p298 := eq_true p298
         replace q298 := eq_true q298
         have p300 : 0 ≤ (x3_2 : Int) := od
         have q300 : x3_2 < (l0.length : Int) := od
         obtain ⟨ad300, e300, hx300_0⟩ := Kd.at_int HR0.out x3_2 p300 q300
         obtain rfl : ad298 = ad300 := (by injection e300)
         replace p300 := eq_true p300
         replace q300 := eq_true q300
         have p301 : 0 ≤ (x3_2 : Int) := od
         have q301 : x3_2 < (l0.length : Int) := od
         obtain ⟨ad301, e301, hx301_0⟩ := Kd.at_int HR0.out x3_2 p301 q301
         obtain rfl : ad298 = ad301 := (by injection e301)
         replace p301 := eq_true p301
         replace q301 := eq_true q301
         go_wp2
         go_roundg k2
         case measure => have := HJ1.out; have := HK2.out; omega
         case rel => exact ⟨(wrap64 (x3_2 + 1)), rs_, H', ⟨by have := HJ1.out; have := HK2.out; omega⟩, by repeat (first | exact Drawn0.refl _ | apply Drawn0.step)⟩
        rw [if_neg c10] at H
        have c10b0 : ((rd l0 x3_2) == 47) = false := beq_eq_false_iff_ne.mpr c10
        have c10b1 : ((rd l0 x3_2) != 47) = true := bne_iff_ne.mpr c10
        obtain rfl := Option.some.inj H
        have p298 : 0 ≤ (x3_2 : Int) := od
        have q298 : x3_2 < (l0.length : Int) := od
        obtain ⟨ad298, e298, hx298_0⟩ := Kd.at_int HR0.out x3_2 p298 q298
        cases e298
        replace p298 := eq_true p298
        replace q298 := eq_true q298
        have p300 : 0 ≤ (x3_2 : Int) := od
        have q300 : x3_2 < (l0.length : Int) := od
        obtain ⟨ad300, e300, hx300_0⟩ := Kd.at_int HR0.out x3_2 p300 q300
        obtain rfl : ad298 = ad300 := (by injection e300)
        replace p300 := eq_true p300
        replace q300 := eq_true q300
        have p301 : 0 ≤ (x3_2 : Int) := od
        have q301 : x3_2 < (l0.length : Int) := od
        obtain ⟨ad301, e301, hx301_0⟩ := Kd.at_int HR0.out x3_2 p301 q301
        obtain rfl : ad298 = ad301 := (by injection e301)
        replace p301 := eq_true p301
        replace q301 := eq_true q301
        go_wp2
        go_ret
        exact ⟨by first | rfl | (simp; done) | (simp [*]; done), by repeat (first | exact Drawn0.refl _ | apply Drawn0.step)⟩
       rw [if_neg c9] at H
       have c9b0 : decide (122 < (rd l0 x3_2)) = false := decide_eq_false c9
       clear c9
       have H' := Aside0.mk H
       clear H
       have p298 : 0 ≤ (x3_2 : Int) := od
       have q298 : x3_2 < (l0.length : Int) := od
       obtain ⟨ad298, e298, hx298_0⟩ := Kd.at_int HR0.out x3_2 p298 q298
       cases e298
       replace p298 := eq_true p298
       replace q298 := eq_true q298
       have p300 : 0 ≤ (x3_2 : Int) := od
       have q300 : x3_2 < (l0.length : Int) := od
       obtain ⟨ad300, e300, hx300_0⟩ := Kd.at_int HR0.out x3_2 p300 q300
       obtain rfl : ad298 = ad300 := (by injection e300)
       replace p300 := eq_true p300
       replace q300 := eq_true q300
       go_wp2
       go_roundg k2
       case measure => have := HJ1.out; have := HK2.out; omega
       case rel => exact ⟨(wrap64 (x3_2 + 1)), rs_, H', ⟨by have := HJ1.out; have := HK2.out; omega⟩, by repeat (first | exact Drawn0.refl _ | apply Drawn0.step)⟩
      rw [if_neg c6] at H
      exact absurd H (by simp)
     rw [if_neg c5] at H
     have c5b0 : decide (x3_2 < (l0.length : Int)) = false := decide_eq_false c5
     clear c5
     obtain rfl := Option.some.inj H
     go_wp2
     go_ret
     exact ⟨by first | rfl | (simp; done) | (simp [*]; done), by repeat (first | exact Drawn0.refl _ | apply Drawn0.step)⟩

/-! ### spec_l2val: function 73 -/
def spec_l2val.f (l0 : List Int) : Option (Bool) := some (decide ((l0.length : Int) ≤ 20))
set_option maxHeartbeats 8000000 in
set_option maxRecDepth 100000 in
theorem spec_l2val.calls (A0 : Option Addr) (c0 : Nat) (l0 : List Int) (r : Bool) (w : World) (hr0 : Kd.C (Kd.int .u8) w A0 l0.length l0) (hc0 : l0.length ≤ c0) (h : spec_l2val.f l0 = some r) :
  Calls Try.prog 73 #[.slice A0 l0.length c0] w fun e w' => e = .returned (.bool r) ∧ Drawn0 w w' := by
 have HR0 := Aside0.mk hr0
 have HC0 := Aside0.mk hc0
 clear hr0 hc0
 have H : (some (decide ((l0.length : Int) ≤ 20))) = some r := h
 clear h
 obtain rfl := Option.some.inj H
 go_enter Try.func73, Try.ntmps73
 go_wp2
 go_ret
 exact ⟨by first | rfl | (simp; done) | (simp [*]; done), by repeat (first | exact Drawn0.refl _ | apply Drawn0.step)⟩

/-! ### spec_l2sess: function 74 -/
def spec_l2sess.l0 : Nat → Int → Int → Int → List (S92) → List (S94) → Int → List (S109) → List (S75) → Option (Int)
 | 0, _, _, _, _, _, _, _, _ => none
 | k + 1, x1, x5, x303000, x303001, x303002, x303003, x303004, x303005 => if x5 < (x303004.length : Int) then (if 0 ≤ x5 then (if ((rd_T109 x303004 x5).f0) = x1 then (some x5) else (spec_l2sess.l0 k x1 (wrap64 (x5 + 1)) x303000 x303001 x303002 x303003 x303004 x303005)) else (none)) else (some (-1))
def spec_l2sess.f (k : Nat) (a0_0 : Int) (l0_1 : List (S92)) (l0_2 : List (S94)) (a0_3 : Int) (l0_4 : List (S109)) (l0_5 : List (S75)) (a1 : Int) : Option (Int) := spec_l2sess.l0 k a1 0 a0_0 l0_1 l0_2 a0_3 l0_4 l0_5
set_option maxHeartbeats 8000000 in
set_option maxRecDepth 100000 in
theorem spec_l2sess.calls (k : Nat) (a0_0 : Int) (A0_1 : Option Addr) (c0_1 : Nat) (l0_1 : List (S92)) (A0_2 : Option Addr) (c0_2 : Nat) (l0_2 : List (S94)) (a0_3 : Int) (A0_4 : Option Addr) (c0_4 : Nat) (l0_4 : List (S109)) (A0_5 : Option Addr) (c0_5 : Nat) (l0_5 : List (S75)) (a1 : Int) (r : Int) (w : World) (hr0_1 : Kd.C k92 w A0_1 l0_1.length l0_1) (hc0_1 : l0_1.length ≤ c0_1) (hr0_2 : Kd.C k94 w A0_2 l0_2.length l0_2) (hc0_2 : l0_2.length ≤ c0_2) (hr0_4 : Kd.C k109 w A0_4 l0_4.length l0_4) (hc0_4 : l0_4.length ≤ c0_4) (hr0_5 : Kd.C k75 w A0_5 l0_5.length l0_5) (hc0_5 : l0_5.length ≤ c0_5) (h : spec_l2sess.f k a0_0 l0_1 l0_2 a0_3 l0_4 l0_5 a1 = some r) :
  Calls Try.prog 74 #[.agg #[.int .i64 a0_0, .slice A0_1 l0_1.length c0_1, .slice A0_2 l0_2.length c0_2, .int .i64 a0_3, .slice A0_4 l0_4.length c0_4, .slice A0_5 l0_5.length c0_5], .int .i64 a1] w fun e w' => e = .returned (.int .i64 r) ∧ Below w.heap.size w w' := by
 have hu35 := Try.underlying35
 have HR0_1 := Aside0.mk hr0_1
 have HC0_1 := Aside0.mk hc0_1
 clear hr0_1 hc0_1
 have HR0_2 := Aside0.mk hr0_2
 have HC0_2 := Aside0.mk hc0_2
 clear hr0_2 hc0_2
 have HR0_4 := Aside0.mk hr0_4
 have HC0_4 := Aside0.mk hc0_4
 clear hr0_4 hc0_4
 have HR0_5 := Aside0.mk hr0_5
 have HC0_5 := Aside0.mk hc0_5
 clear hr0_5 hc0_5
 have HB := Aside0.mk (Below.refl w.heap.size w)
 have H : (spec_l2sess.l0 k a1 0 a0_0 l0_1 l0_2 a0_3 l0_4 l0_5) = some r := h
 clear h
 have H' := Aside0.mk H
 clear H
 go_enter Try.func74, Try.ntmps74
 go_wp2_with (first | ((with_reducible refine gate_dst (N := 2) rfl ?_); refine bx_ 2 #[.int .i64 a0_0, .slice A0_1 l0_1.length c0_1, .slice A0_2 l0_2.length c0_2, .int .i64 a0_3, .slice A0_4 l0_4.length c0_4, .slice A0_5 l0_5.length c0_5] 35 (h := ?_); intro gb302 hg w3 hbox hb; have BK302 := Aside0.mk (hbox); have GW302 := Aside0.mk ((by rw [hg]; exact (below_size bel) : w.heap.size ≤ gb302)); have GE302 := GW302; replace HB := bst hb; clear hb hbox hg))
 go_loopg [5] k (fun kq v5 w' => ∃ (x5_1 : Int), v5 = .int .i64 x5_1 ∧ Aside0 (spec_l2sess.l0 kq a1 x5_1 a0_0 l0_1 l0_2 a0_3 l0_4 l0_5 = some r) ∧ Aside0 (kq ≤ k) ∧ Aside0 (w'.heap[gb302]? = some (.cells #[.int .i64 a0_0, (.slice A0_1 l0_1.length c0_1), (.slice A0_2 l0_2.length c0_2), .int .i64 a0_3, (.slice A0_4 l0_4.length c0_4), (.slice A0_5 l0_5.length c0_5)] 35 (0, 0))) ∧ Aside0 (Below w.heap.size w w'))
 case atStart => exact ⟨(0), rs_, H', ⟨Nat.le_refl _⟩, ⟨bkp BK302⟩, ⟨bel⟩⟩
 case round =>
  clear H'
  try clear p2
  obtain ⟨x5_1, rfl, HA, HK1, BK302, HB⟩ := hrel
  cases gk with
  | zero => exact absurd HA.out (by simp [spec_l2sess.l0])
  | succ k1 =>
   have H := HA.out
   clear HA
   simp only [spec_l2sess.l0] at H
   by_cases c4 : x5_1 < (l0_4.length : Int)
   ·rw [if_pos c4] at H
    have c4b0 : decide (x5_1 < (l0_4.length : Int)) = true := decide_eq_true c4
    clear c4
    by_cases c5 : 0 ≤ x5_1
    ·rw [if_pos c5] at H
     have c5b0 : decide (0 ≤ x5_1) = true := decide_eq_true c5
     clear c5
     by_cases c6 : ((rd_T109 l0_4 x5_1).f0) = a1
     ·rw [if_pos c6] at H
      have c6b0 : (((rd_T109 l0_4 x5_1).f0) == a1) = true := beq_iff_eq.mpr c6
      have c6b1 : (((rd_T109 l0_4 x5_1).f0) != a1) = false := bne_eq_false_iff_eq.mpr c6
      clear c6
      obtain rfl := Option.some.inj H
      obtain ⟨C7_0, C7_1, C7_2, C7_3, C7_4, C7_5, -⟩ := cells_6 BK302.out trivial
      obtain ⟨F7_0, F7_1, F7_2, F7_3, F7_4, F7_5, -⟩ := frz_6 BK302.out
      have p303 : 0 ≤ (x5_1 : Int) := od
      have q303 : x5_1 < (l0_4.length : Int) := od
      obtain ⟨ad303, e303, hx303_0, hx303_1⟩ := at_T109 HR0_4.out x5_1 p303 q303
      cases e303
      replace hx303_0 := hxb HB hx303_0
      replace hx303_1 := hxb HB hx303_1
      replace p303 := eq_true p303
      replace q303 := eq_true q303
      go_wp2
      go_ret
      exact ⟨rz_, bel⟩
     rw [if_neg c6] at H
     have c6b0 : (((rd_T109 l0_4 x5_1).f0) == a1) = false := beq_eq_false_iff_ne.mpr c6
     have c6b1 : (((rd_T109 l0_4 x5_1).f0) != a1) = true := bne_iff_ne.mpr c6
     have H' := Aside0.mk H
     clear H
     obtain ⟨C8_0, C8_1, C8_2, C8_3, C8_4, C8_5, -⟩ := cells_6 BK302.out trivial
     obtain ⟨F8_0, F8_1, F8_2, F8_3, F8_4, F8_5, -⟩ := frz_6 BK302.out
     have p303 : 0 ≤ (x5_1 : Int) := od
     have q303 : x5_1 < (l0_4.length : Int) := od
     obtain ⟨ad303, e303, hx303_0, hx303_1⟩ := at_T109 HR0_4.out x5_1 p303 q303
     cases e303
     replace hx303_0 := hxb HB hx303_0
     replace hx303_1 := hxb HB hx303_1
     replace p303 := eq_true p303
     replace q303 := eq_true q303
     go_wp2
     go_roundg k1
     case measure => have := HK1.out; omega
     case rel => exact ⟨(wrap64 (x5_1 + 1)), rs_, H', ⟨by have := HK1.out; omega⟩, ⟨bkp BK302⟩, ⟨bel⟩⟩
    rw [if_neg c5] at H
    exact absurd H (by simp)
   rw [if_neg c4] at H
   have c4b0 : decide (x5_1 < (l0_4.length : Int)) = false := decide_eq_false c4
   clear c4
   obtain rfl := Option.some.inj H
   obtain ⟨C9_0, C9_1, C9_2, C9_3, C9_4, C9_5, -⟩ := cells_6 BK302.out trivial
   obtain ⟨F9_0, F9_1, F9_2, F9_3, F9_4, F9_5, -⟩ := frz_6 BK302.out
   go_wp2
   go_ret
   exact ⟨rz_, bel⟩

/-! ### spec_l2row: function 75 -/
def spec_l2row.l0 : Nat → List Int → Int → Int → List (S92) → List (S94) → Int → List (S109) → List (S75) → Option (Int)
 | 0, _, _, _, _, _, _, _, _ => none
 | k + 1, x1, x5, x305000, x305001, x305002, x305003, x305004, x305005 => if x5 < (x305001.length : Int) then (if 0 ≤ x5 then (if (strOfNums ((rd_T92 x305001 x5).f0)).toList = (strOfNums x1).toList then (some x5) else (spec_l2row.l0 k x1 (wrap64 (x5 + 1)) x305000 x305001 x305002 x305003 x305004 x305005)) else (none)) else (some (-1))
def spec_l2row.f (k : Nat) (a0_0 : Int) (l0_1 : List (S92)) (l0_2 : List (S94)) (a0_3 : Int) (l0_4 : List (S109)) (l0_5 : List (S75)) (l1 : List Int) : Option (Int) := spec_l2row.l0 k l1 0 a0_0 l0_1 l0_2 a0_3 l0_4 l0_5
set_option maxHeartbeats 8000000 in
set_option maxRecDepth 100000 in
theorem spec_l2row.calls (k : Nat) (a0_0 : Int) (A0_1 : Option Addr) (c0_1 : Nat) (l0_1 : List (S92)) (A0_2 : Option Addr) (c0_2 : Nat) (l0_2 : List (S94)) (a0_3 : Int) (A0_4 : Option Addr) (c0_4 : Nat) (l0_4 : List (S109)) (A0_5 : Option Addr) (c0_5 : Nat) (l0_5 : List (S75)) (A1 : Option Addr) (c1 : Nat) (l1 : List Int) (r : Int) (w : World) (hr0_1 : Kd.C k92 w A0_1 l0_1.length l0_1) (hc0_1 : l0_1.length ≤ c0_1) (hr0_2 : Kd.C k94 w A0_2 l0_2.length l0_2) (hc0_2 : l0_2.length ≤ c0_2) (hr0_4 : Kd.C k109 w A0_4 l0_4.length l0_4) (hc0_4 : l0_4.length ≤ c0_4) (hr0_5 : Kd.C k75 w A0_5 l0_5.length l0_5) (hc0_5 : l0_5.length ≤ c0_5) (hr1 : Kd.C (Kd.int .u8) w A1 l1.length l1) (hc1 : l1.length ≤ c1) (h : spec_l2row.f k a0_0 l0_1 l0_2 a0_3 l0_4 l0_5 l1 = some r) :
  Calls Try.prog 75 #[.agg #[.int .i64 a0_0, .slice A0_1 l0_1.length c0_1, .slice A0_2 l0_2.length c0_2, .int .i64 a0_3, .slice A0_4 l0_4.length c0_4, .slice A0_5 l0_5.length c0_5], .slice A1 l1.length c1] w fun e w' => e = .returned (.int .i64 r) ∧ Below w.heap.size w w' := by
 have hu35 := Try.underlying35
 have HR0_1 := Aside0.mk hr0_1
 have HC0_1 := Aside0.mk hc0_1
 clear hr0_1 hc0_1
 have HR0_2 := Aside0.mk hr0_2
 have HC0_2 := Aside0.mk hc0_2
 clear hr0_2 hc0_2
 have HR0_4 := Aside0.mk hr0_4
 have HC0_4 := Aside0.mk hc0_4
 clear hr0_4 hc0_4
 have HR0_5 := Aside0.mk hr0_5
 have HC0_5 := Aside0.mk hc0_5
 clear hr0_5 hc0_5
 have HR1 := Aside0.mk hr1
 have HC1 := Aside0.mk hc1
 clear hr1 hc1
 have HB := Aside0.mk (Below.refl w.heap.size w)
 have H : (spec_l2row.l0 k l1 0 a0_0 l0_1 l0_2 a0_3 l0_4 l0_5) = some r := h
 clear h
 have H' := Aside0.mk H
 clear H
 go_enter Try.func75, Try.ntmps75
 go_wp2_with (first | ((with_reducible refine gate_dst (N := 2) rfl ?_); refine bx_ 2 #[.int .i64 a0_0, .slice A0_1 l0_1.length c0_1, .slice A0_2 l0_2.length c0_2, .int .i64 a0_3, .slice A0_4 l0_4.length c0_4, .slice A0_5 l0_5.length c0_5] 35 (h := ?_); intro gb304 hg w3 hbox hb; have BK304 := Aside0.mk (hbox); have GW304 := Aside0.mk ((by rw [hg]; exact (below_size bel) : w.heap.size ≤ gb304)); have GE304 := GW304; replace HB := bst hb; clear hb hbox hg))
 repeat (go_quiet (first | ((with_reducible refine gate_dst (N := 2) rfl ?_); refine bx_ 2 #[.int .i64 a0_0, .slice A0_1 l0_1.length c0_1, .slice A0_2 l0_2.length c0_2, .int .i64 a0_3, .slice A0_4 l0_4.length c0_4, .slice A0_5 l0_5.length c0_5] 35 (h := ?_); intro gb304 hg w3 hbox hb; have BK304 := Aside0.mk (hbox); have GW304 := Aside0.mk ((by rw [hg]; exact (below_size bel) : w.heap.size ≤ gb304)); have GE304 := GW304; replace HB := bst hb; clear hb hbox hg)); try go_wp2_with (first | ((with_reducible refine gate_dst (N := 2) rfl ?_); refine bx_ 2 #[.int .i64 a0_0, .slice A0_1 l0_1.length c0_1, .slice A0_2 l0_2.length c0_2, .int .i64 a0_3, .slice A0_4 l0_4.length c0_4, .slice A0_5 l0_5.length c0_5] 35 (h := ?_); intro gb304 hg w3 hbox hb; have BK304 := Aside0.mk (hbox); have GW304 := Aside0.mk ((by rw [hg]; exact (below_size bel) : w.heap.size ≤ gb304)); have GE304 := GW304; replace HB := bst hb; clear hb hbox hg)))
 go_loopg [5] k (fun kq v5 w' => ∃ (x5_1 : Int), v5 = .int .i64 x5_1 ∧ Aside0 (spec_l2row.l0 kq l1 x5_1 a0_0 l0_1 l0_2 a0_3 l0_4 l0_5 = some r) ∧ Aside0 (kq ≤ k) ∧ Aside0 (w'.heap[gb304]? = some (.cells #[.int .i64 a0_0, (.slice A0_1 l0_1.length c0_1), (.slice A0_2 l0_2.length c0_2), .int .i64 a0_3, (.slice A0_4 l0_4.length c0_4), (.slice A0_5 l0_5.length c0_5)] 35 (0, 0))) ∧ Aside0 (Below w.heap.size w w'))
 case atStart => exact ⟨(0), rs_, H', ⟨Nat.le_refl _⟩, ⟨bkp BK304⟩, ⟨bel⟩⟩
 case round =>
  clear H'
  try clear c1; try clear p2
  obtain ⟨x5_1, rfl, HA, HK1, BK304, HB⟩ := hrel
  cases gk with
  | zero => exact absurd HA.out (by simp [spec_l2row.l0])
  | succ k1 =>
   have H := HA.out
   clear HA
   simp only [spec_l2row.l0] at H
   by_cases c4 : x5_1 < (l0_1.length : Int)
   ·rw [if_pos c4] at H
    have c4b0 : decide (x5_1 < (l0_1.length : Int)) = true := decide_eq_true c4
    clear c4
    by_cases c5 : 0 ≤ x5_1
    ·rw [if_pos c5] at H
     have c5b0 : decide (0 ≤ x5_1) = true := decide_eq_true c5
     clear c5
     by_cases c6 : (strOfNums ((rd_T92 l0_1 x5_1).f0)).toList = (strOfNums l1).toList
     ·rw [if_pos c6] at H
      have c6b0 : ((strOfNums ((rd_T92 l0_1 x5_1).f0)).toList == (strOfNums l1).toList) = true := beq_iff_eq.mpr c6
      have c6b1 : ((strOfNums ((rd_T92 l0_1 x5_1).f0)).toList != (strOfNums l1).toList) = false := bne_eq_false_iff_eq.mpr c6
      clear c6
      obtain rfl := Option.some.inj H
      obtain ⟨C7_0, C7_1, C7_2, C7_3, C7_4, C7_5, -⟩ := cells_6 BK304.out trivial
      obtain ⟨F7_0, F7_1, F7_2, F7_3, F7_4, F7_5, -⟩ := frz_6 BK304.out
      have p305 : 0 ≤ (x5_1 : Int) := od
      have q305 : x5_1 < (l0_1.length : Int) := od
      obtain ⟨ad305, A305_0, c305_0, A305_1, c305_1, e305, hx305_0, hx305_1, hx305_2, hx305_3, hl305_0, hi305_0, hl305_1, hi305_1⟩ := at_T92 HR0_1.out x5_1 p305 q305
      cases e305
      replace hx305_0 := hxb HB hx305_0
      replace hx305_1 := hxb HB hx305_1
      replace hx305_2 := hxb HB hx305_2
      replace hx305_3 := hxb HB hx305_3
      have HR305_0 := Aside0.mk hi305_0
      have HC305_0 := Aside0.mk hl305_0
      clear hi305_0 hl305_0
      have HR305_1 := Aside0.mk hi305_1
      have HC305_1 := Aside0.mk hl305_1
      clear hi305_1 hl305_1
      replace p305 := eq_true p305
      replace q305 := eq_true q305
      have hcv8 := Kd.C_string (P := Try.prog) (A := A305_0) (c := c305_0) Try.underlying52 Try.underlying5 Try.underlying9 (Kd.C_below HR305_0.out HB.out)
      have hcw8 := fun nq_ : Nat => Kd.C_string (P := Try.prog) (A := A305_0) (c := c305_0) Try.underlying52 Try.underlying5 Try.underlying9 (Kd.C_drewN (Kd.C_below HR305_0.out HB.out) nq_)
      have hcv9 := Kd.C_string (P := Try.prog) (A := A1) (c := c1) Try.underlying52 Try.underlying5 Try.underlying9 (Kd.C_below HR1.out HB.out)
      have hcw9 := fun nq_ : Nat => Kd.C_string (P := Try.prog) (A := A1) (c := c1) Try.underlying52 Try.underlying5 Try.underlying9 (Kd.C_drewN (Kd.C_below HR1.out HB.out) nq_)
      go_wp2
      repeat (go_quiet (fail); try go_wp2)
      go_ret
      exact ⟨rz_, bel⟩
     rw [if_neg c6] at H
     have c6b0 : ((strOfNums ((rd_T92 l0_1 x5_1).f0)).toList == (strOfNums l1).toList) = false := beq_eq_false_iff_ne.mpr c6
     have c6b1 : ((strOfNums ((rd_T92 l0_1 x5_1).f0)).toList != (strOfNums l1).toList) = true := bne_iff_ne.mpr c6
     have H' := Aside0.mk H
     clear H
     obtain ⟨C10_0, C10_1, C10_2, C10_3, C10_4, C10_5, -⟩ := cells_6 BK304.out trivial
     obtain ⟨F10_0, F10_1, F10_2, F10_3, F10_4, F10_5, -⟩ := frz_6 BK304.out
     have p305 : 0 ≤ (x5_1 : Int) := od
     have q305 : x5_1 < (l0_1.length : Int) := od
     obtain ⟨ad305, A305_0, c305_0, A305_1, c305_1, e305, hx305_0, hx305_1, hx305_2, hx305_3, hl305_0, hi305_0, hl305_1, hi305_1⟩ := at_T92 HR0_1.out x5_1 p305 q305
     cases e305
     replace hx305_0 := hxb HB hx305_0
     replace hx305_1 := hxb HB hx305_1
     replace hx305_2 := hxb HB hx305_2
     replace hx305_3 := hxb HB hx305_3
     have HR305_0 := Aside0.mk hi305_0
     have HC305_0 := Aside0.mk hl305_0
     clear hi305_0 hl305_0
     have HR305_1 := Aside0.mk hi305_1
     have HC305_1 := Aside0.mk hl305_1
     clear hi305_1 hl305_1
     replace p305 := eq_true p305
     replace q305 := eq_true q305
     have hcv11 := Kd.C_string (P := Try.prog) (A := A305_0) (c := c305_0) Try.underlying52 Try.underlying5 Try.underlying9 (Kd.C_below HR305_0.out HB.out)
     have hcw11 := fun nq_ : Nat => Kd.C_string (P := Try.prog) (A := A305_0) (c := c305_0) Try.underlying52 Try.underlying5 Try.underlying9 (Kd.C_drewN (Kd.C_below HR305_0.out HB.out) nq_)
     have hcv12 := Kd.C_string (P := Try.prog) (A := A1) (c := c1) Try.underlying52 Try.underlying5 Try.underlying9 (Kd.C_below HR1.out HB.out)
     have hcw12 := fun nq_ : Nat => Kd.C_string (P := Try.prog) (A := A1) (c := c1) Try.underlying52 Try.underlying5 Try.underlying9 (Kd.C_drewN (Kd.C_below HR1.out HB.out) nq_)
     go_wp2
     repeat (go_quiet (fail); try go_wp2)
     go_roundg k1
     case measure => have := HK1.out; omega
     case rel => exact ⟨(wrap64 (x5_1 + 1)), rs_, H', ⟨by have := HK1.out; omega⟩, ⟨bkp BK304⟩, ⟨bel⟩⟩
    rw [if_neg c5] at H
    exact absurd H (by simp)
   rw [if_neg c4] at H
   have c4b0 : decide (x5_1 < (l0_1.length : Int)) = false := decide_eq_false c4
   clear c4
   obtain rfl := Option.some.inj H
   obtain ⟨C13_0, C13_1, C13_2, C13_3, C13_4, C13_5, -⟩ := cells_6 BK304.out trivial
   obtain ⟨F13_0, F13_1, F13_2, F13_3, F13_4, F13_5, -⟩ := frz_6 BK304.out
   go_wp2
   repeat (go_quiet (fail); try go_wp2)
   go_ret
   exact ⟨rz_, bel⟩

end Go.Proofs.Ytdgegnakiljfjaa.PK
