-- Written for this claim by the session's program pp.py, out of the kit's print and the seat's translation.
import Derived.Test.YtoaddpfoecggpaaPSx0
import Derived.Test.YtoaddpfoecggpaaPSx1
namespace Go.Proofs.Ytoaddpfoecggpaa.PS
open Go.RowKit Go.Proofs.YtoaddpfoecggpaaW.PrintWords Go.Proofs.YtoaddpfoecggpaaW.PrintLast Go.Proofs.YtoaddpfoecggpaaW.PrintMore
attribute [local go_sem] max2_int min2_int max_two min_two max_three min_three max_four min_four   -- for this text's walks alone
set_option linter.unusedVariables false
set_option linter.unusedSimpArgs false

/-! ### laws_eqTree: function 19 -/
/-! ### laws_eqTreeS: function 63 -/
mutual
def laws_eqTree.f : Nat → List Int → Bool → Int → List (S30) → List Int → Bool → Int → List (S30) → Option (Bool)
 | 0, _, _, _, _, _, _, _, _ => none
 | k + 1, l0_0, a0_1, a0_2, l0_3, l1_0, a1_1, a1_2, l1_3 => (laws_eqByteS.f k l0_0 l1_0).bind fun t137 => (if t137 = true then (if (a0_1 != a1_1) = true then (some false) else (if a0_2 = a1_2 then ((laws_eqTreeS.f k l0_3 l1_3).bind fun t138 => (if t138 = true then (some true) else (some false))) else (some false))) else (some false))
def laws_eqTreeS.l0 : Nat → List (S30) → List (S30) → Int → Option (Bool)
 | 0, _, _, _ => none
 | k + 1, x0, x1, x5 => if x5 < (x0.length : Int) then (if 0 ≤ x5 then (if x5 < (x1.length : Int) then ((laws_eqTree.f k ((rd_T30 x0 x5).f0) ((rd_T30 x0 x5).f1) ((rd_T30 x0 x5).f2) ((rd_T30 x0 x5).f3) ((rd_T30 x1 x5).f0) ((rd_T30 x1 x5).f1) ((rd_T30 x1 x5).f2) ((rd_T30 x1 x5).f3)).bind fun t141 => (if t141 = true then (laws_eqTreeS.l0 k x0 x1 (wrap64 (x5 + 1))) else (some false))) else (none)) else (none)) else (some true)
def laws_eqTreeS.f : Nat → List (S30) → List (S30) → Option (Bool)
 | 0, _, _ => none
 | k + 1, l0, l1 => if (l0.length : Int) = (l1.length : Int) then (laws_eqTreeS.l0 k l0 l1 0) else (some false)
end
set_option maxHeartbeats 8000000 in
set_option maxRecDepth 100000 in
theorem laws_eqTree.calls_ (k : Nat) (ih : ∀ m_, m_ < k → ∀ (A0 : Option Addr) (c0 : Nat) (l0 : List (S30)) (A1 : Option Addr) (c1 : Nat) (l1 : List (S30)) (r : Bool) (w : World) (hr0 : Kd.C k30 w A0 l0.length l0) (hc0 : l0.length ≤ c0) (hr1 : Kd.C k30 w A1 l1.length l1) (hc1 : l1.length ≤ c1) (h : laws_eqTreeS.f m_ l0 l1 = some r),
  Calls Try.prog 63 #[.slice A0 l0.length c0, .slice A1 l1.length c1] w fun e w' => e = .returned (.bool r) ∧ Below w.heap.size w w') : ∀ (A0_0 : Option Addr) (c0_0 : Nat) (l0_0 : List Int) (a0_1 : Bool) (a0_2 : Int) (A0_3 : Option Addr) (c0_3 : Nat) (l0_3 : List (S30)) (A1_0 : Option Addr) (c1_0 : Nat) (l1_0 : List Int) (a1_1 : Bool) (a1_2 : Int) (A1_3 : Option Addr) (c1_3 : Nat) (l1_3 : List (S30)) (r : Bool) (w : World) (hr0_0 : Kd.C (Kd.int .u8) w A0_0 l0_0.length l0_0) (hc0_0 : l0_0.length ≤ c0_0) (hr0_3 : Kd.C k30 w A0_3 l0_3.length l0_3) (hc0_3 : l0_3.length ≤ c0_3) (hr1_0 : Kd.C (Kd.int .u8) w A1_0 l1_0.length l1_0) (hc1_0 : l1_0.length ≤ c1_0) (hr1_3 : Kd.C k30 w A1_3 l1_3.length l1_3) (hc1_3 : l1_3.length ≤ c1_3) (h : laws_eqTree.f k l0_0 a0_1 a0_2 l0_3 l1_0 a1_1 a1_2 l1_3 = some r),
  Calls Try.prog 19 #[.agg #[.slice A0_0 l0_0.length c0_0, .bool a0_1, .int .i64 a0_2, .slice A0_3 l0_3.length c0_3], .agg #[.slice A1_0 l1_0.length c1_0, .bool a1_1, .int .i64 a1_2, .slice A1_3 l1_3.length c1_3]] w fun e w' => e = .returned (.bool r) ∧ Below w.heap.size w w' := by
 intro A0_0 c0_0 l0_0 a0_1 a0_2 A0_3 c0_3 l0_3 A1_0 c1_0 l1_0 a1_1 a1_2 A1_3 c1_3 l1_3 r w hr0_0 hc0_0 hr0_3 hc0_3 hr1_0 hc1_0 hr1_3 hc1_3 h
 cases k with
 | zero => exact absurd h (by simp [laws_eqTree.f])
 | succ k =>
 simp only [laws_eqTree.f] at h
 have hu30 := Try.underlying30
 have HR0_0 := Aside0.mk hr0_0
 have HC0_0 := Aside0.mk hc0_0
 clear hr0_0 hc0_0
 have HR0_3 := Aside0.mk hr0_3
 have HC0_3 := Aside0.mk hc0_3
 clear hr0_3 hc0_3
 have HR1_0 := Aside0.mk hr1_0
 have HC1_0 := Aside0.mk hc1_0
 clear hr1_0 hc1_0
 have HR1_3 := Aside0.mk hr1_3
 have HC1_3 := Aside0.mk hc1_3
 clear hr1_3 hc1_3
 have HB := Aside0.mk (Below.refl w.heap.size w)
 have H : ((laws_eqByteS.f k l0_0 l1_0).bind fun t137 => (if t137 = true then (if (a0_1 != a1_1) = true then (some false) else (if a0_2 = a1_2 then ((laws_eqTreeS.f k l0_3 l1_3).bind fun t138 => (if t138 = true then (some true) else (some false))) else (some false))) else (some false))) = some r := h
 clear h
 replace H := Option.bind_eq_some_iff.mp H
 obtain ⟨t137, A30, H⟩ := H
 replace H : (if t137 = true then (if (a0_1 != a1_1) = true then (some false) else (if a0_2 = a1_2 then ((laws_eqTreeS.f k l0_3 l1_3).bind fun t138 => (if t138 = true then (some true) else (some false))) else (some false))) else (some false)) = some r := H
 have A3 := Aside0.mk A30
 clear A30
 by_cases c4 : t137 = true
 ·subst c4
  have H1 : (if (a0_1 != a1_1) = true then (some false) else (if a0_2 = a1_2 then ((laws_eqTreeS.f k l0_3 l1_3).bind fun t138 => (if t138 = true then (some true) else (some false))) else (some false))) = some r := by rw [if_pos rfl] at H; exact H
  clear H
  have H := H1
  clear H1
  by_cases c5 : (a0_1 != a1_1) = true
  ·rw [if_pos c5] at H
   have c5b0 : (a0_1 != a1_1) = true := c5
   (try (have c5b1 : decide (a0_1 = a1_1) = false := by simpa using c5))
   (try (have c5b2 : (a0_1 == a1_1) = false := by simpa using c5))
   (try (have c5b3 : ¬ (a0_1 = a1_1) := by simpa using c5))
   clear c5
   obtain rfl := Option.some.inj H
   go_enter Try.func19, Try.ntmps19
   go_wp2_with (first | ((with_reducible refine gate_dst (N := 2) rfl ?_); refine bx_ 2 #[.slice A0_0 l0_0.length c0_0, .bool a0_1, .int .i64 a0_2, .slice A0_3 l0_3.length c0_3] 30 (h := ?_); intro gb135 hg w6 hbox hb; have BK135 := Aside0.mk (hbox); have GW135 := Aside0.mk ((by rw [hg]; exact (below_size bel) : w.heap.size ≤ gb135)); have GE135 := GW135; replace HB := bst hb; clear hb hbox hg) | ((with_reducible refine gate_dst (N := 3) rfl ?_); refine bx_ 3 #[.slice A1_0 l1_0.length c1_0, .bool a1_1, .int .i64 a1_2, .slice A1_3 l1_3.length c1_3] 30 (h := ?_); intro gb136 hg w7 hbox hb; have BK136 := Aside0.mk (hbox); have GW136 := Aside0.mk ((by rw [hg]; exact (below_size bel) : w.heap.size ≤ gb136)); have GE136 := GW136; have NB135_136 := Aside0.mk ((by rw [hg]; exact Nat.ne_of_lt (blt BK135) : gb135 ≠ gb136)); have NB136_135 := Aside0.mk NB135_136.out.symm; replace BK135 := Aside0.mk (blb BK135 hb); replace HB := bst hb; clear hb hbox hg; have hnb8 := NB135_136.out; have hnc8 := NB136_135.out; obtain ⟨C9_0, C9_1, C9_2, C9_3, -⟩ := cells_4 BK135.out trivial; obtain ⟨F9_0, F9_1, F9_2, F9_3, -⟩ := frz_4 BK135.out; obtain ⟨C10_0, C10_1, C10_2, C10_3, -⟩ := cells_4 BK136.out trivial; obtain ⟨F10_0, F10_1, F10_2, F10_3, -⟩ := frz_4 BK136.out) | ((with_reducible refine gate_callee (f := 25) rfl ?_); refine gl_ (some 9) Try.func25 #[.slice A0_0 l0_0.length c0_0, .slice A1_0 l1_0.length c1_0] (h := ?_); (with_reducible refine (laws_eqByteS.calls k _ _ l0_0 _ _ l1_0 true _ ?side1 ?side2 ?side3 ?side4 A3.out).mono ?_); (case side1 => exact kcb); (case side2 => exact HC0_0.out); (case side3 => exact kcb); (case side4 => exact HC1_0.out); rintro e w' ⟨rfl, ⟨nd, rfl⟩⟩; refine ⟨_, rfl, ?_⟩))
   go_ret
   exact ⟨rz_, bel⟩
  rw [if_neg c5] at H
  have c5b0 : (a0_1 != a1_1) = false := by simpa using c5
  (try (have c5b1 : decide (a0_1 = a1_1) = true := by simpa using c5))
  (try (have c5b2 : (a0_1 == a1_1) = true := by simpa using c5))
  clear c5
  by_cases c11 : a0_2 = a1_2
  ·rw [if_pos c11] at H
   have c11b0 : (a0_2 == a1_2) = true := beq_iff_eq.mpr c11
   have c11b1 : (a0_2 != a1_2) = false := bne_eq_false_iff_eq.mpr c11
   clear c11
   replace H := Option.bind_eq_some_iff.mp H
   obtain ⟨t138, A120, H⟩ := H
   replace H : (if t138 = true then (some true) else (some false)) = some r := H
   have A12 := Aside0.mk A120
   clear A120
   by_cases c13 : t138 = true
   ·subst c13
    have H1 : (some true) = some r := by rw [if_pos rfl] at H; exact H
    clear H
    have H := H1
    clear H1
    obtain rfl := Option.some.inj H
    go_enter Try.func19, Try.ntmps19
    go_wp2_with (first | ((with_reducible refine gate_dst (N := 2) rfl ?_); refine bx_ 2 #[.slice A0_0 l0_0.length c0_0, .bool a0_1, .int .i64 a0_2, .slice A0_3 l0_3.length c0_3] 30 (h := ?_); intro gb135 hg w14 hbox hb; have BK135 := Aside0.mk (hbox); have GW135 := Aside0.mk ((by rw [hg]; exact (below_size bel) : w.heap.size ≤ gb135)); have GE135 := GW135; replace HB := bst hb; clear hb hbox hg) | ((with_reducible refine gate_dst (N := 3) rfl ?_); refine bx_ 3 #[.slice A1_0 l1_0.length c1_0, .bool a1_1, .int .i64 a1_2, .slice A1_3 l1_3.length c1_3] 30 (h := ?_); intro gb136 hg w15 hbox hb; have BK136 := Aside0.mk (hbox); have GW136 := Aside0.mk ((by rw [hg]; exact (below_size bel) : w.heap.size ≤ gb136)); have GE136 := GW136; have NB135_136 := Aside0.mk ((by rw [hg]; exact Nat.ne_of_lt (blt BK135) : gb135 ≠ gb136)); have NB136_135 := Aside0.mk NB135_136.out.symm; replace BK135 := Aside0.mk (blb BK135 hb); replace HB := bst hb; clear hb hbox hg; have hnb16 := NB135_136.out; have hnc16 := NB136_135.out; obtain ⟨C17_0, C17_1, C17_2, C17_3, -⟩ := cells_4 BK135.out trivial; obtain ⟨F17_0, F17_1, F17_2, F17_3, -⟩ := frz_4 BK135.out; obtain ⟨C18_0, C18_1, C18_2, C18_3, -⟩ := cells_4 BK136.out trivial; obtain ⟨F18_0, F18_1, F18_2, F18_3, -⟩ := frz_4 BK136.out) | ((with_reducible refine gate_callee (f := 25) rfl ?_); refine gl_ (some 9) Try.func25 #[.slice A0_0 l0_0.length c0_0, .slice A1_0 l1_0.length c1_0] (h := ?_); (with_reducible refine (laws_eqByteS.calls k _ _ l0_0 _ _ l1_0 true _ ?side1 ?side2 ?side3 ?side4 A3.out).mono ?_); (case side1 => exact kcb); (case side2 => exact HC0_0.out); (case side3 => exact kcb); (case side4 => exact HC1_0.out); rintro e w' ⟨rfl, ⟨nd, rfl⟩⟩; refine ⟨_, rfl, ?_⟩) | ((with_reducible refine gate_callee (f := 63) rfl ?_); refine gl_ (some 25) Try.func63 #[.slice A0_3 l0_3.length c0_3, .slice A1_3 l1_3.length c1_3] (h := ?_); (with_reducible refine (ih k (by omega) _ _ l0_3 _ _ l1_3 true _ ?side1 ?side2 ?side3 ?side4 A12.out).mono ?_); (case side1 => exact kcb); (case side2 => exact HC0_3.out); (case side3 => exact kcb); (case side4 => exact HC1_3.out); rintro e w19 ⟨rfl, hb⟩; refine ⟨_, rfl, ?_⟩; replace BK135 := Aside0.mk (blb BK135 hb); replace BK136 := Aside0.mk (blb BK136 hb); replace HB := bst hb; (try clear hb); (try clear hb2); (try clear hk); (try clear hi)))
    go_ret
    exact ⟨rz_, bel⟩
   replace c13 := Bool.eq_false_iff.mpr c13
   subst c13
   have H1 : (some false) = some r := by rw [if_neg (show ¬ (false = true) by decide)] at H; exact H
   clear H
   have H := H1
   clear H1
   obtain rfl := Option.some.inj H
   go_enter Try.func19, Try.ntmps19
   go_wp2_with (first | ((with_reducible refine gate_dst (N := 2) rfl ?_); refine bx_ 2 #[.slice A0_0 l0_0.length c0_0, .bool a0_1, .int .i64 a0_2, .slice A0_3 l0_3.length c0_3] 30 (h := ?_); intro gb135 hg w20 hbox hb; have BK135 := Aside0.mk (hbox); have GW135 := Aside0.mk ((by rw [hg]; exact (below_size bel) : w.heap.size ≤ gb135)); have GE135 := GW135; replace HB := bst hb; clear hb hbox hg) | ((with_reducible refine gate_dst (N := 3) rfl ?_); refine bx_ 3 #[.slice A1_0 l1_0.length c1_0, .bool a1_1, .int .i64 a1_2, .slice A1_3 l1_3.length c1_3] 30 (h := ?_); intro gb136 hg w21 hbox hb; have BK136 := Aside0.mk (hbox); have GW136 := Aside0.mk ((by rw [hg]; exact (below_size bel) : w.heap.size ≤ gb136)); have GE136 := GW136; have NB135_136 := Aside0.mk ((by rw [hg]; exact Nat.ne_of_lt (blt BK135) : gb135 ≠ gb136)); have NB136_135 := Aside0.mk NB135_136.out.symm; replace BK135 := Aside0.mk (blb BK135 hb); replace HB := bst hb; clear hb hbox hg; have hnb22 := NB135_136.out; have hnc22 := NB136_135.out; obtain ⟨C23_0, C23_1, C23_2, C23_3, -⟩ := cells_4 BK135.out trivial; obtain ⟨F23_0, F23_1, F23_2, F23_3, -⟩ := frz_4 BK135.out; obtain ⟨C24_0, C24_1, C24_2, C24_3, -⟩ := cells_4 BK136.out trivial; obtain ⟨F24_0, F24_1, F24_2, F24_3, -⟩ := frz_4 BK136.out) | ((with_reducible refine gate_callee (f := 25) rfl ?_); refine gl_ (some 9) Try.func25 #[.slice A0_0 l0_0.length c0_0, .slice A1_0 l1_0.length c1_0] (h := ?_); (with_reducible refine (laws_eqByteS.calls k _ _ l0_0 _ _ l1_0 true _ ?side1 ?side2 ?side3 ?side4 A3.out).mono ?_); (case side1 => exact kcb); (case side2 => exact HC0_0.out); (case side3 => exact kcb); (case side4 => exact HC1_0.out); rintro e w' ⟨rfl, ⟨nd, rfl⟩⟩; refine ⟨_, rfl, ?_⟩) | ((with_reducible refine gate_callee (f := 63) rfl ?_); refine gl_ (some 25) Try.func63 #[.slice A0_3 l0_3.length c0_3, .slice A1_3 l1_3.length c1_3] (h := ?_); (with_reducible refine (ih k (by omega) _ _ l0_3 _ _ l1_3 false _ ?side1 ?side2 ?side3 ?side4 A12.out).mono ?_); (case side1 => exact kcb); (case side2 => exact HC0_3.out); (case side3 => exact kcb); (case side4 => exact HC1_3.out); rintro e w25 ⟨rfl, hb⟩; refine ⟨_, rfl, ?_⟩; replace BK135 := Aside0.mk (blb BK135 hb); replace BK136 := Aside0.mk (blb BK136 hb); replace HB := bst hb; (try clear hb); (try clear hb2); (try clear hk); (try clear hi)))
   go_ret
   exact ⟨rz_, bel⟩
  rw [if_neg c11] at H
  have c11b0 : (a0_2 == a1_2) = false := beq_eq_false_iff_ne.mpr c11
  have c11b1 : (a0_2 != a1_2) = true := bne_iff_ne.mpr c11
  obtain rfl := Option.some.inj H
  go_enter Try.func19, Try.ntmps19
  go_wp2_with (first | ((with_reducible refine gate_dst (N := 2) rfl ?_); refine bx_ 2 #[.slice A0_0 l0_0.length c0_0, .bool a0_1, .int .i64 a0_2, .slice A0_3 l0_3.length c0_3] 30 (h := ?_); intro gb135 hg w26 hbox hb; have BK135 := Aside0.mk (hbox); have GW135 := Aside0.mk ((by rw [hg]; exact (below_size bel) : w.heap.size ≤ gb135)); have GE135 := GW135; replace HB := bst hb; clear hb hbox hg) | ((with_reducible refine gate_dst (N := 3) rfl ?_); refine bx_ 3 #[.slice A1_0 l1_0.length c1_0, .bool a1_1, .int .i64 a1_2, .slice A1_3 l1_3.length c1_3] 30 (h := ?_); intro gb136 hg w27 hbox hb; have BK136 := Aside0.mk (hbox); have GW136 := Aside0.mk ((by rw [hg]; exact (below_size bel) : w.heap.size ≤ gb136)); have GE136 := GW136; have NB135_136 := Aside0.mk ((by rw [hg]; exact Nat.ne_of_lt (blt BK135) : gb135 ≠ gb136)); have NB136_135 := Aside0.mk NB135_136.out.symm; replace BK135 := Aside0.mk (blb BK135 hb); replace HB := bst hb; clear hb hbox hg; have hnb28 := NB135_136.out; have hnc28 := NB136_135.out; obtain ⟨C29_0, C29_1, C29_2, C29_3, -⟩ := cells_4 BK135.out trivial; obtain ⟨F29_0, F29_1, F29_2, F29_3, -⟩ := frz_4 BK135.out; obtain ⟨C30_0, C30_1, C30_2, C30_3, -⟩ := cells_4 BK136.out trivial; obtain ⟨F30_0, F30_1, F30_2, F30_3, -⟩ := frz_4 BK136.out) | ((with_reducible refine gate_callee (f := 25) rfl ?_); refine gl_ (some 9) Try.func25 #[.slice A0_0 l0_0.length c0_0, .slice A1_0 l1_0.length c1_0] (h := ?_); (with_reducible refine (laws_eqByteS.calls k _ _ l0_0 _ _ l1_0 true _ ?side1 ?side2 ?side3 ?side4 A3.out).mono ?_); (case side1 => exact kcb); (case side2 => exact HC0_0.out); (case side3 => exact kcb); (case side4 => exact HC1_0.out); rintro e w' ⟨rfl, ⟨nd, rfl⟩⟩; refine ⟨_, rfl, ?_⟩))
  go_ret
  exact ⟨rz_, bel⟩
 replace c4 := Bool.eq_false_iff.mpr c4
 subst c4
 have H1 : (some false) = some r := by rw [if_neg (show ¬ (false = true) by decide)] at H; exact H
 clear H
 have H := H1
 clear H1
 obtain rfl := Option.some.inj H
 go_enter Try.func19, Try.ntmps19
 go_wp2_with (first | ((with_reducible refine gate_dst (N := 2) rfl ?_); refine bx_ 2 #[.slice A0_0 l0_0.length c0_0, .bool a0_1, .int .i64 a0_2, .slice A0_3 l0_3.length c0_3] 30 (h := ?_); intro gb135 hg w31 hbox hb; have BK135 := Aside0.mk (hbox); have GW135 := Aside0.mk ((by rw [hg]; exact (below_size bel) : w.heap.size ≤ gb135)); have GE135 := GW135; replace HB := bst hb; clear hb hbox hg) | ((with_reducible refine gate_dst (N := 3) rfl ?_); refine bx_ 3 #[.slice A1_0 l1_0.length c1_0, .bool a1_1, .int .i64 a1_2, .slice A1_3 l1_3.length c1_3] 30 (h := ?_); intro gb136 hg w32 hbox hb; have BK136 := Aside0.mk (hbox); have GW136 := Aside0.mk ((by rw [hg]; exact (below_size bel) : w.heap.size ≤ gb136)); have GE136 := GW136; have NB135_136 := Aside0.mk ((by rw [hg]; exact Nat.ne_of_lt (blt BK135) : gb135 ≠ gb136)); have NB136_135 := Aside0.mk NB135_136.out.symm; replace BK135 := Aside0.mk (blb BK135 hb); replace HB := bst hb; clear hb hbox hg; have hnb33 := NB135_136.out; have hnc33 := NB136_135.out; obtain ⟨C34_0, C34_1, C34_2, C34_3, -⟩ := cells_4 BK135.out trivial; obtain ⟨F34_0, F34_1, F34_2, F34_3, -⟩ := frz_4 BK135.out; obtain ⟨C35_0, C35_1, C35_2, C35_3, -⟩ := cells_4 BK136.out trivial; obtain ⟨F35_0, F35_1, F35_2, F35_3, -⟩ := frz_4 BK136.out) | ((with_reducible refine gate_callee (f := 25) rfl ?_); refine gl_ (some 9) Try.func25 #[.slice A0_0 l0_0.length c0_0, .slice A1_0 l1_0.length c1_0] (h := ?_); (with_reducible refine (laws_eqByteS.calls k _ _ l0_0 _ _ l1_0 false _ ?side1 ?side2 ?side3 ?side4 A3.out).mono ?_); (case side1 => exact kcb); (case side2 => exact HC0_0.out); (case side3 => exact kcb); (case side4 => exact HC1_0.out); rintro e w' ⟨rfl, ⟨nd, rfl⟩⟩; refine ⟨_, rfl, ?_⟩))
 go_ret
 exact ⟨rz_, bel⟩

def laws_eqTreeS.T6 : Bool × List (List Nat × List Nat) := (true, [([], []), ([], []), ([0, 1], [0, 1]), ([2], [2]), ([], []), ([], []), ([4, 5], [4, 5]), ([6], [6]), ([3, 7], [3, 7]), ([8], [8])])
def laws_eqTreeS.B6 : List Nat := [0, 0, 3, 7, 0, 0, 48, 112, 255, 511]
theorem laws_eqTreeS.tab6 : rtab .any (opsOf Try.f63 6) = laws_eqTreeS.T6 := by kernel_rfl
theorem laws_eqTreeS.bits6 : waitsOk laws_eqTreeS.T6.2 laws_eqTreeS.B6 = true := by kernel_rfl
set_option maxHeartbeats 8000000 in
set_option maxRecDepth 100000 in
theorem laws_eqTreeS.calls (k : Nat) : ∀ (A0 : Option Addr) (c0 : Nat) (l0 : List (S30)) (A1 : Option Addr) (c1 : Nat) (l1 : List (S30)) (r : Bool) (w : World) (hr0 : Kd.C k30 w A0 l0.length l0) (hc0 : l0.length ≤ c0) (hr1 : Kd.C k30 w A1 l1.length l1) (hc1 : l1.length ≤ c1) (h : laws_eqTreeS.f k l0 l1 = some r),
  Calls Try.prog 63 #[.slice A0 l0.length c0, .slice A1 l1.length c1] w fun e w' => e = .returned (.bool r) ∧ Below w.heap.size w w' := by
 induction k using Nat.strongRecOn with
 | _ k ih =>
 intro A0 c0 l0 A1 c1 l1 r w hr0 hc0 hr1 hc1 h
 cases k with
 | zero => exact absurd h (by simp [laws_eqTreeS.f])
 | succ k =>
 simp only [laws_eqTreeS.f] at h
 have hu30 := Try.underlying30
 have HR0 := Aside0.mk hr0
 have HC0 := Aside0.mk hc0
 clear hr0 hc0
 have HR1 := Aside0.mk hr1
 have HC1 := Aside0.mk hc1
 clear hr1 hc1
 have HB := Aside0.mk (Below.refl w.heap.size w)
 have H : (if (l0.length : Int) = (l1.length : Int) then (laws_eqTreeS.l0 k l0 l1 0) else (some false)) = some r := h
 clear h
 by_cases c3 : (l0.length : Int) = (l1.length : Int)
 ·rw [if_pos c3] at H
  have c3b0 : ((l0.length : Int) == (l1.length : Int)) = true := beq_iff_eq.mpr c3
  have c3b1 : ((l0.length : Int) != (l1.length : Int)) = false := bne_eq_false_iff_eq.mpr c3
  have c3b2 : (l0.length == l1.length) = true := by first | simpa using c3 | (simp at c3 ⊢; omega)
  clear c3
  have H' := Aside0.mk H
  clear H
  go_enter Try.func63, Try.ntmps63
  go_wp2
  go_loopg [5] k (fun kq v5 w' => ∃ (x5_1 : Int), v5 = .int .i64 x5_1 ∧ Aside0 (laws_eqTreeS.l0 kq l0 l1 x5_1 = some r) ∧ Aside0 (kq ≤ k) ∧ Aside0 (Below w.heap.size w w'))
  case atStart => exact ⟨(0), rs_, H', ⟨Nat.le_refl _⟩, ⟨bel⟩⟩
  case round =>
   clear H'
   try clear c1; try clear p2; try clear c3; try clear c3b0; try clear c3b1; try clear c3b2
   obtain ⟨x5_1, rfl, HA, HK1, HB⟩ := hrel
   cases gk with
   | zero => exact absurd HA.out (by simp [laws_eqTreeS.l0])
   | succ k1 =>
    have H := HA.out
    clear HA
    simp only [laws_eqTreeS.l0] at H
    by_cases c4 : x5_1 < (l0.length : Int)
    ·rw [if_pos c4] at H
     have c4b0 : decide (x5_1 < (l0.length : Int)) = true := decide_eq_true c4
     clear c4
     by_cases c5 : 0 ≤ x5_1
     ·rw [if_pos c5] at H
      have c5b0 : decide (0 ≤ x5_1) = true := decide_eq_true c5
      clear c5
      by_cases c6 : x5_1 < (l1.length : Int)
      ·rw [if_pos c6] at H
       have c6b0 : decide (x5_1 < (l1.length : Int)) = true := decide_eq_true c6
       clear c6
       replace H := Option.bind_eq_some_iff.mp H
       obtain ⟨t141, A70, H⟩ := H
       replace H : (if t141 = true then (laws_eqTreeS.l0 k1 l0 l1 (wrap64 (x5_1 + 1))) else (some false)) = some r := H
       have A7 := Aside0.mk A70
       clear A70
       by_cases c8 : t141 = true
       ·subst c8
        have H1 : (laws_eqTreeS.l0 k1 l0 l1 (wrap64 (x5_1 + 1))) = some r := by rw [if_pos rfl] at H; exact H
        clear H
        have H := H1
        clear H1
        have H' := Aside0.mk H
        clear H
        try go_wp2
        replace HB := Aside0.mk (below_drew1 HB.out)
        have p139 : 0 ≤ (x5_1 : Int) := od
        have q139 : x5_1 < (l0.length : Int) := od
        obtain ⟨ad139, A139_0, c139_0, A139_3, c139_3, e139, hx139_0, hx139_1, hx139_2, hx139_3, hl139_0, hi139_0, hl139_3, hi139_3⟩ := at_T30 HR0.out x5_1 p139 q139
        have hw139_3 := hx139_3
        have hw139_2 := hx139_2
        have hw139_1 := hx139_1
        have hw139_0 := hx139_0
        cases e139
        replace hx139_0 := hxb HB hx139_0
        replace hx139_1 := hxb HB hx139_1
        replace hx139_2 := hxb HB hx139_2
        replace hx139_3 := hxb HB hx139_3
        have HR139_0 := Aside0.mk hi139_0
        have HC139_0 := Aside0.mk hl139_0
        clear hi139_0 hl139_0
        have HR139_3 := Aside0.mk hi139_3
        have HC139_3 := Aside0.mk hl139_3
        clear hi139_3 hl139_3
        replace p139 := eq_true p139
        replace q139 := eq_true q139
        have p140 : 0 ≤ (x5_1 : Int) := od
        have q140 : x5_1 < (l1.length : Int) := od
        obtain ⟨ad140, A140_0, c140_0, A140_3, c140_3, e140, hx140_0, hx140_1, hx140_2, hx140_3, hl140_0, hi140_0, hl140_3, hi140_3⟩ := at_T30 HR1.out x5_1 p140 q140
        have hw140_3 := hx140_3
        have hw140_2 := hx140_2
        have hw140_1 := hx140_1
        have hw140_0 := hx140_0
        cases e140
        replace hx140_0 := hxb HB hx140_0
        replace hx140_1 := hxb HB hx140_1
        replace hx140_2 := hxb HB hx140_2
        replace hx140_3 := hxb HB hx140_3
        have HR140_0 := Aside0.mk hi140_0
        have HC140_0 := Aside0.mk hl140_0
        clear hi140_0 hl140_0
        have HR140_3 := Aside0.mk hi140_3
        have HC140_3 := Aside0.mk hl140_3
        clear hi140_3 hl140_3
        replace p140 := eq_true p140
        replace q140 := eq_true q140
        refine start_ (n := 10) (S := fun w' => w'.cell? (ad139.add ((x5_1).toNat * 4)) = some (.slice A139_0 ((rd_T30 l0 x5_1).f0).length c139_0) ∧ w'.cell? ⟨(ad139.add ((x5_1).toNat * 4)).block, (ad139.add ((x5_1).toNat * 4)).off + 1, none⟩ = some (.bool ((rd_T30 l0 x5_1).f1)) ∧ w'.cell? ⟨(ad139.add ((x5_1).toNat * 4)).block, (ad139.add ((x5_1).toNat * 4)).off + 2, none⟩ = some (.int .i64 ((rd_T30 l0 x5_1).f2)) ∧ w'.cell? ⟨(ad139.add ((x5_1).toNat * 4)).block, (ad139.add ((x5_1).toNat * 4)).off + 3, none⟩ = some (.slice A139_3 ((rd_T30 l0 x5_1).f3).length c139_3) ∧ w'.cell? (ad140.add ((x5_1).toNat * 4)) = some (.slice A140_0 ((rd_T30 l1 x5_1).f0).length c140_0) ∧ w'.cell? ⟨(ad140.add ((x5_1).toNat * 4)).block, (ad140.add ((x5_1).toNat * 4)).off + 1, none⟩ = some (.bool ((rd_T30 l1 x5_1).f1)) ∧ w'.cell? ⟨(ad140.add ((x5_1).toNat * 4)).block, (ad140.add ((x5_1).toNat * 4)).off + 2, none⟩ = some (.int .i64 ((rd_T30 l1 x5_1).f2)) ∧ w'.cell? ⟨(ad140.add ((x5_1).toNat * 4)).block, (ad140.add ((x5_1).toNat * 4)).off + 3, none⟩ = some (.slice A140_3 ((rd_T30 l1 x5_1).f3).length c140_3)) (ds := []) (tf 0 10) (by kernel_rfl) rfl rfl ⟨(hxb HB hw139_0 :), (hxb HB hw139_1 :), (hxb HB hw139_2 :), (hxb HB hw139_3 :), (hxb HB hw140_0 :), (hxb HB hw140_1 :), (hxb HB hw140_2 :), (hxb HB hw140_3 :)⟩ (fun hHeld => ?_); refine with_tabW laws_eqTreeS.tab6 laws_eqTreeS.bits6 (fun HT_ HW_ => ?_)
        generalize wr.drew = w9 at HB HR139_0 HR139_3 HR140_0 HR140_3 hx139_0 hx139_1 hx139_2 hx139_3 hx140_0 hx140_1 hx140_2 hx140_3 hHeld ⊢
        iterate 3 (refine pvn_ HT_ (h := ?_))
        refine pv_ HT_ 4 (some 21) (tb 10 23) (h := ?_)
        refine pv_ HT_ 5 (some 22) (tb 10 55) (h := ?_)
        refine pv_ HT_ 6 (some 23) (tb 10 119) (h := ?_)
        refine tv_ HT_ HW_ hHeld 3 (some 20) (tf 7 3) (h := ?_)
        refine tvn_ HT_ HW_ hHeld (h := ?_)
        refine one_ (i := 8) (N := some 25) (tf 9 1) rfl rfl (one_of HT_.out (by kernel_rfl)) (by decide) (fun K hK => ?_)
        refine gs_ Try.func19 #[.agg #[.slice A139_0 ((rd_T30 l0 x5_1).f0).length c139_0, .bool ((rd_T30 l0 x5_1).f1), .int .i64 ((rd_T30 l0 x5_1).f2), .slice A139_3 ((rd_T30 l0 x5_1).f3).length c139_3], .agg #[.slice A140_0 ((rd_T30 l1 x5_1).f0).length c140_0, .bool ((rd_T30 l1 x5_1).f1), .int .i64 ((rd_T30 l1 x5_1).f2), .slice A140_3 ((rd_T30 l1 x5_1).f3).length c140_3]] (h := ?_)
        with_reducible refine (laws_eqTree.calls_ k1 (fun m_ hm_ => ih m_ (by have := HK1.out; omega)) _ _ ((rd_T30 l0 x5_1).f0) ((rd_T30 l0 x5_1).f1) ((rd_T30 l0 x5_1).f2) _ _ ((rd_T30 l0 x5_1).f3) _ _ ((rd_T30 l1 x5_1).f0) ((rd_T30 l1 x5_1).f1) ((rd_T30 l1 x5_1).f2) _ _ ((rd_T30 l1 x5_1).f3) true _ ?side1 ?side2 ?side3 ?side4 ?side5 ?side6 ?side7 ?side8 A7.out).mono ?_
        (case side1 => exact kcb)
        (case side2 => exact HC139_0.out)
        (case side3 => exact kcb)
        (case side4 => exact HC139_3.out)
        (case side5 => exact kcb)
        (case side6 => exact HC140_0.out)
        (case side7 => exact kcb)
        (case side8 => exact HC140_3.out)
        rintro e w10 ⟨rfl, hb⟩
        refine ⟨_, rfl, ?_⟩
        replace HB := bst hb
        (try clear hb)
        (try clear hb2)
        (try clear hk)
        (try clear hi)
        refine hK.out _ _ ⟨(hxb HB hw139_0 :), (hxb HB hw139_1 :), (hxb HB hw139_2 :), (hxb HB hw139_3 :), (hxb HB hw140_0 :), (hxb HB hw140_1 :), (hxb HB hw140_2 :), (hxb HB hw140_3 :)⟩ (fun hHeld => ?_)
        clear hK K
        refine nrm_ (some 25) (h := ?_)
        refine pvn_ HT_ (h := ?_)
        refine done_ (done_of HT_.out (by kernel_rfl)) ?_
        try go_wp2
        go_roundg k1
        case measure => have := HK1.out; omega
        case rel => exact ⟨(wrap64 (x5_1 + 1)), rs_, H', ⟨by have := HK1.out; omega⟩, ⟨bel⟩⟩
       replace c8 := Bool.eq_false_iff.mpr c8
       subst c8
       have H1 : (some false) = some r := by rw [if_neg (show ¬ (false = true) by decide)] at H; exact H
       clear H
       have H := H1
       clear H1
       obtain rfl := Option.some.inj H
       try go_wp2
       replace HB := Aside0.mk (below_drew1 HB.out)
       have p139 : 0 ≤ (x5_1 : Int) := od
       have q139 : x5_1 < (l0.length : Int) := od
       obtain ⟨ad139, A139_0, c139_0, A139_3, c139_3, e139, hx139_0, hx139_1, hx139_2, hx139_3, hl139_0, hi139_0, hl139_3, hi139_3⟩ := at_T30 HR0.out x5_1 p139 q139
       have hw139_3 := hx139_3
       have hw139_2 := hx139_2
       have hw139_1 := hx139_1
       have hw139_0 := hx139_0
       cases e139
       replace hx139_0 := hxb HB hx139_0
       replace hx139_1 := hxb HB hx139_1
       replace hx139_2 := hxb HB hx139_2
       replace hx139_3 := hxb HB hx139_3
       have HR139_0 := Aside0.mk hi139_0
       have HC139_0 := Aside0.mk hl139_0
       clear hi139_0 hl139_0
       have HR139_3 := Aside0.mk hi139_3
       have HC139_3 := Aside0.mk hl139_3
       clear hi139_3 hl139_3
       replace p139 := eq_true p139
       replace q139 := eq_true q139
       have p140 : 0 ≤ (x5_1 : Int) := od
       have q140 : x5_1 < (l1.length : Int) := od
       obtain ⟨ad140, A140_0, c140_0, A140_3, c140_3, e140, hx140_0, hx140_1, hx140_2, hx140_3, hl140_0, hi140_0, hl140_3, hi140_3⟩ := at_T30 HR1.out x5_1 p140 q140
       have hw140_3 := hx140_3
       have hw140_2 := hx140_2
       have hw140_1 := hx140_1
       have hw140_0 := hx140_0
       cases e140
       replace hx140_0 := hxb HB hx140_0
       replace hx140_1 := hxb HB hx140_1
       replace hx140_2 := hxb HB hx140_2
       replace hx140_3 := hxb HB hx140_3
       have HR140_0 := Aside0.mk hi140_0
       have HC140_0 := Aside0.mk hl140_0
       clear hi140_0 hl140_0
       have HR140_3 := Aside0.mk hi140_3
       have HC140_3 := Aside0.mk hl140_3
       clear hi140_3 hl140_3
       replace p140 := eq_true p140
       replace q140 := eq_true q140
       refine start_ (n := 10) (S := fun w' => w'.cell? (ad139.add ((x5_1).toNat * 4)) = some (.slice A139_0 ((rd_T30 l0 x5_1).f0).length c139_0) ∧ w'.cell? ⟨(ad139.add ((x5_1).toNat * 4)).block, (ad139.add ((x5_1).toNat * 4)).off + 1, none⟩ = some (.bool ((rd_T30 l0 x5_1).f1)) ∧ w'.cell? ⟨(ad139.add ((x5_1).toNat * 4)).block, (ad139.add ((x5_1).toNat * 4)).off + 2, none⟩ = some (.int .i64 ((rd_T30 l0 x5_1).f2)) ∧ w'.cell? ⟨(ad139.add ((x5_1).toNat * 4)).block, (ad139.add ((x5_1).toNat * 4)).off + 3, none⟩ = some (.slice A139_3 ((rd_T30 l0 x5_1).f3).length c139_3) ∧ w'.cell? (ad140.add ((x5_1).toNat * 4)) = some (.slice A140_0 ((rd_T30 l1 x5_1).f0).length c140_0) ∧ w'.cell? ⟨(ad140.add ((x5_1).toNat * 4)).block, (ad140.add ((x5_1).toNat * 4)).off + 1, none⟩ = some (.bool ((rd_T30 l1 x5_1).f1)) ∧ w'.cell? ⟨(ad140.add ((x5_1).toNat * 4)).block, (ad140.add ((x5_1).toNat * 4)).off + 2, none⟩ = some (.int .i64 ((rd_T30 l1 x5_1).f2)) ∧ w'.cell? ⟨(ad140.add ((x5_1).toNat * 4)).block, (ad140.add ((x5_1).toNat * 4)).off + 3, none⟩ = some (.slice A140_3 ((rd_T30 l1 x5_1).f3).length c140_3)) (ds := []) (tf 0 10) (by kernel_rfl) rfl rfl ⟨(hxb HB hw139_0 :), (hxb HB hw139_1 :), (hxb HB hw139_2 :), (hxb HB hw139_3 :), (hxb HB hw140_0 :), (hxb HB hw140_1 :), (hxb HB hw140_2 :), (hxb HB hw140_3 :)⟩ (fun hHeld => ?_); refine with_tabW laws_eqTreeS.tab6 laws_eqTreeS.bits6 (fun HT_ HW_ => ?_)
       generalize wr.drew = w11 at HB HR139_0 HR139_3 HR140_0 HR140_3 hx139_0 hx139_1 hx139_2 hx139_3 hx140_0 hx140_1 hx140_2 hx140_3 hHeld ⊢
       iterate 3 (refine pvn_ HT_ (h := ?_))
       refine pv_ HT_ 4 (some 21) (tb 10 23) (h := ?_)
       refine pv_ HT_ 5 (some 22) (tb 10 55) (h := ?_)
       refine pv_ HT_ 6 (some 23) (tb 10 119) (h := ?_)
       refine tv_ HT_ HW_ hHeld 3 (some 20) (tf 7 3) (h := ?_)
       refine tvn_ HT_ HW_ hHeld (h := ?_)
       refine one_ (i := 8) (N := some 25) (tf 9 1) rfl rfl (one_of HT_.out (by kernel_rfl)) (by decide) (fun K hK => ?_)
       refine gs_ Try.func19 #[.agg #[.slice A139_0 ((rd_T30 l0 x5_1).f0).length c139_0, .bool ((rd_T30 l0 x5_1).f1), .int .i64 ((rd_T30 l0 x5_1).f2), .slice A139_3 ((rd_T30 l0 x5_1).f3).length c139_3], .agg #[.slice A140_0 ((rd_T30 l1 x5_1).f0).length c140_0, .bool ((rd_T30 l1 x5_1).f1), .int .i64 ((rd_T30 l1 x5_1).f2), .slice A140_3 ((rd_T30 l1 x5_1).f3).length c140_3]] (h := ?_)
       with_reducible refine (laws_eqTree.calls_ k1 (fun m_ hm_ => ih m_ (by have := HK1.out; omega)) _ _ ((rd_T30 l0 x5_1).f0) ((rd_T30 l0 x5_1).f1) ((rd_T30 l0 x5_1).f2) _ _ ((rd_T30 l0 x5_1).f3) _ _ ((rd_T30 l1 x5_1).f0) ((rd_T30 l1 x5_1).f1) ((rd_T30 l1 x5_1).f2) _ _ ((rd_T30 l1 x5_1).f3) false _ ?side1 ?side2 ?side3 ?side4 ?side5 ?side6 ?side7 ?side8 A7.out).mono ?_
       (case side1 => exact kcb)
       (case side2 => exact HC139_0.out)
       (case side3 => exact kcb)
       (case side4 => exact HC139_3.out)
       (case side5 => exact kcb)
       (case side6 => exact HC140_0.out)
       (case side7 => exact kcb)
       (case side8 => exact HC140_3.out)
       rintro e w12 ⟨rfl, hb⟩
       refine ⟨_, rfl, ?_⟩
       replace HB := bst hb
       (try clear hb)
       (try clear hb2)
       (try clear hk)
       (try clear hi)
       refine hK.out _ _ ⟨(hxb HB hw139_0 :), (hxb HB hw139_1 :), (hxb HB hw139_2 :), (hxb HB hw139_3 :), (hxb HB hw140_0 :), (hxb HB hw140_1 :), (hxb HB hw140_2 :), (hxb HB hw140_3 :)⟩ (fun hHeld => ?_)
       clear hK K
       refine nrm_ (some 25) (h := ?_)
       refine pvn_ HT_ (h := ?_)
       refine done_ (done_of HT_.out (by kernel_rfl)) ?_
       try go_wp2
       go_ret
       exact ⟨rz_, bel⟩
      rw [if_neg c6] at H
      exact absurd H (by simp)
     rw [if_neg c5] at H
     exact absurd H (by simp)
    rw [if_neg c4] at H
    have c4b0 : decide (x5_1 < (l0.length : Int)) = false := decide_eq_false c4
    clear c4
    obtain rfl := Option.some.inj H
    go_wp2
    go_ret
    exact ⟨rz_, bel⟩
 rw [if_neg c3] at H
 have c3b0 : ((l0.length : Int) == (l1.length : Int)) = false := beq_eq_false_iff_ne.mpr c3
 have c3b1 : ((l0.length : Int) != (l1.length : Int)) = true := bne_iff_ne.mpr c3
 have c3b2 : (l0.length == l1.length) = false := by first | simpa using c3 | (simp at c3 ⊢; omega)
 obtain rfl := Option.some.inj H
 go_enter Try.func63, Try.ntmps63
 go_wp2
 go_ret
 exact ⟨rz_, bel⟩
theorem laws_eqTree.calls (k : Nat) : ∀ (A0_0 : Option Addr) (c0_0 : Nat) (l0_0 : List Int) (a0_1 : Bool) (a0_2 : Int) (A0_3 : Option Addr) (c0_3 : Nat) (l0_3 : List (S30)) (A1_0 : Option Addr) (c1_0 : Nat) (l1_0 : List Int) (a1_1 : Bool) (a1_2 : Int) (A1_3 : Option Addr) (c1_3 : Nat) (l1_3 : List (S30)) (r : Bool) (w : World) (hr0_0 : Kd.C (Kd.int .u8) w A0_0 l0_0.length l0_0) (hc0_0 : l0_0.length ≤ c0_0) (hr0_3 : Kd.C k30 w A0_3 l0_3.length l0_3) (hc0_3 : l0_3.length ≤ c0_3) (hr1_0 : Kd.C (Kd.int .u8) w A1_0 l1_0.length l1_0) (hc1_0 : l1_0.length ≤ c1_0) (hr1_3 : Kd.C k30 w A1_3 l1_3.length l1_3) (hc1_3 : l1_3.length ≤ c1_3) (h : laws_eqTree.f k l0_0 a0_1 a0_2 l0_3 l1_0 a1_1 a1_2 l1_3 = some r),
  Calls Try.prog 19 #[.agg #[.slice A0_0 l0_0.length c0_0, .bool a0_1, .int .i64 a0_2, .slice A0_3 l0_3.length c0_3], .agg #[.slice A1_0 l1_0.length c1_0, .bool a1_1, .int .i64 a1_2, .slice A1_3 l1_3.length c1_3]] w fun e w' => e = .returned (.bool r) ∧ Below w.heap.size w w' := laws_eqTree.calls_ k (fun m_ _ => laws_eqTreeS.calls m_)

/-! ### impl_within: function 105 -/
def impl_within.f (a0 : Int) (a1 : Int) (a2 : Int) : Option (Bool) := if a1 ≤ a0 then (some (decide (a0 ≤ a2))) else (some false)
set_option maxHeartbeats 8000000 in
set_option maxRecDepth 100000 in
theorem impl_within.calls (a0 : Int) (a1 : Int) (a2 : Int) (r : Bool) (w : World) (h : impl_within.f a0 a1 a2 = some r) :
  Calls Try.prog 105 #[.int .i64 a0, .int .i64 a1, .int .i64 a2] w fun e w' => e = .returned (.bool r) ∧ Drawn0 w w' := by
 have H : (if a1 ≤ a0 then (some (decide (a0 ≤ a2))) else (some false)) = some r := h
 clear h
 by_cases c4 : a1 ≤ a0
 ·rw [if_pos c4] at H
  have c4b0 : decide (a1 ≤ a0) = true := decide_eq_true c4
  clear c4
  obtain rfl := Option.some.inj H
  go_enter Try.func105, Try.ntmps105
  go_wp2
  go_ret
  exact ⟨by first | rfl | (simp; done) | (simp [*]; done), by repeat (first | exact Drawn0.refl _ | apply Drawn0.step)⟩
 rw [if_neg c4] at H
 have c4b0 : decide (a1 ≤ a0) = false := decide_eq_false c4
 clear c4
 obtain rfl := Option.some.inj H
 go_enter Try.func105, Try.ntmps105
 go_wp2
 go_ret
 exact ⟨by first | rfl | (simp; done) | (simp [*]; done), by repeat (first | exact Drawn0.refl _ | apply Drawn0.step)⟩

end Go.Proofs.Ytoaddpfoecggpaa.PS
