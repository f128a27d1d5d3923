-- Written for this claim by the session's program pp.py, out of the kit's print and the seat's translation.
import Derived.Test.YtoaddpfoecggpaaPWx0
import Derived.Test.YtoaddpfoecggpaaPWx1
namespace Go.Proofs.Ytoaddpfoecggpaa.PW
open Go.RowKit Go.Proofs.YtoaddpfoecggpaaW.PrintWords Go.Proofs.YtoaddpfoecggpaaW.PrintLast Go.Proofs.YtoaddpfoecggpaaW.PrintMore
attribute [local go_sem] max2_int min2_int max_two min_two max_three min_three max_four min_four   -- for this text's walks alone
set_option linter.unusedVariables false
set_option linter.unusedSimpArgs false

/-! ### laws_eqTree: function 19 -/
/-! ### laws_eqTreeS: function 63 -/
mutual
def laws_eqTree.f : Nat → List Int → Bool → Int → List (S30) → List Int → Bool → Int → List (S30) → Option (Bool)
 | 0, _, _, _, _, _, _, _, _ => none
 | k + 1, l0_0, a0_1, a0_2, l0_3, l1_0, a1_1, a1_2, l1_3 => (laws_eqByteS.f k l0_0 l1_0).bind fun t137 => (if t137 = true then (if (a0_1 != a1_1) = true then (some false) else (if a0_2 = a1_2 then ((laws_eqTreeS.f k l0_3 l1_3).bind fun t138 => (if t138 = true then (some true) else (some false))) else (some false))) else (some false))
def laws_eqTreeS.l0 : Nat → List (S30) → List (S30) → Int → Option (Bool)
 | 0, _, _, _ => none
 | k + 1, x0, x1, x5 => if x5 < (x0.length : Int) then (if 0 ≤ x5 then (if x5 < (x1.length : Int) then ((laws_eqTree.f k ((rd_T30 x0 x5).f0) ((rd_T30 x0 x5).f1) ((rd_T30 x0 x5).f2) ((rd_T30 x0 x5).f3) ((rd_T30 x1 x5).f0) ((rd_T30 x1 x5).f1) ((rd_T30 x1 x5).f2) ((rd_T30 x1 x5).f3)).bind fun t141 => (if t141 = true then (laws_eqTreeS.l0 k x0 x1 (wrap64 (x5 + 1))) else (some false))) else (none)) else (none)) else (some true)
def laws_eqTreeS.f : Nat → List (S30) → List (S30) → Option (Bool)
 | 0, _, _ => none
 | k + 1, l0, l1 => if (l0.length : Int) = (l1.length : Int) then (laws_eqTreeS.l0 k l0 l1 0) else (some false)
end
set_option maxHeartbeats 8000000 in
set_option maxRecDepth 100000 in
theorem laws_eqTree.calls_ (k : Nat) (ih : ∀ m_, m_ < k → ∀ (A0 : Option Addr) (c0 : Nat) (l0 : List (S30)) (A1 : Option Addr) (c1 : Nat) (l1 : List (S30)) (r : Bool) (w : World) (hr0 : Kd.C k30 w A0 l0.length l0) (hc0 : l0.length ≤ c0) (hr1 : Kd.C k30 w A1 l1.length l1) (hc1 : l1.length ≤ c1) (h : laws_eqTreeS.f m_ l0 l1 = some r),
  Calls Try.prog 63 #[.slice A0 l0.length c0, .slice A1 l1.length c1] w fun e w' => e = .returned (.bool r) ∧ Below w.heap.size w w') : ∀ (A0_0 : Option Addr) (c0_0 : Nat) (l0_0 : List Int) (a0_1 : Bool) (a0_2 : Int) (A0_3 : Option Addr) (c0_3 : Nat) (l0_3 : List (S30)) (A1_0 : Option Addr) (c1_0 : Nat) (l1_0 : List Int) (a1_1 : Bool) (a1_2 : Int) (A1_3 : Option Addr) (c1_3 : Nat) (l1_3 : List (S30)) (r : Bool) (w : World) (hr0_0 : Kd.C (Kd.int .u8) w A0_0 l0_0.length l0_0) (hc0_0 : l0_0.length ≤ c0_0) (hr0_3 : Kd.C k30 w A0_3 l0_3.length l0_3) (hc0_3 : l0_3.length ≤ c0_3) (hr1_0 : Kd.C (Kd.int .u8) w A1_0 l1_0.length l1_0) (hc1_0 : l1_0.length ≤ c1_0) (hr1_3 : Kd.C k30 w A1_3 l1_3.length l1_3) (hc1_3 : l1_3.length ≤ c1_3) (h : laws_eqTree.f k l0_0 a0_1 a0_2 l0_3 l1_0 a1_1 a1_2 l1_3 = some r),
  Calls Try.prog 19 #[.agg #[.slice A0_0 l0_0.length c0_0, .bool a0_1, .int .i64 a0_2, .slice A0_3 l0_3.length c0_3], .agg #[.slice A1_0 l1_0.length c1_0, .bool a1_1, .int .i64 a1_2, .slice A1_3 l1_3.length c1_3]] w fun e w' => e = .returned (.bool r) ∧ Below w.heap.size w w' := by
 intro A0_0 c0_0 l0_0 a0_1 a0_2 A0_3 c0_3 l0_3 A1_0 c1_0 l1_0 a1_1 a1_2 A1_3 c1_3 l1_3 r w hr0_0 hc0_0 hr0_3 hc0_3 hr1_0 hc1_0 hr1_3 hc1_3 h; cases k with
 | zero => exact absurd h (by simp [laws_eqTree.f])
 | succ k =>
 simp only [laws_eqTree.f] at h; have hu30 := Try.underlying30; have HR0_0 := Aside0.mk hr0_0; have HC0_0 := Aside0.mk hc0_0; clear hr0_0 hc0_0; have HR0_3 := Aside0.mk hr0_3; have HC0_3 := Aside0.mk hc0_3; clear hr0_3 hc0_3; have HR1_0 := Aside0.mk hr1_0; have HC1_0 := Aside0.mk hc1_0; clear hr1_0 hc1_0; have HR1_3 := Aside0.mk hr1_3; have HC1_3 := Aside0.mk hc1_3; clear hr1_3 hc1_3; have HB := Aside0.mk (Below.refl w.heap.size w)
 have H : ((laws_eqByteS.f k l0_0 l1_0).bind fun t137 => (if t137 = true then (if (a0_1 != a1_1) = true then (some false) else (if a0_2 = a1_2 then ((laws_eqTreeS.f k l0_3 l1_3).bind fun t138 => (if t138 = true then (some true) else (some false))) else (some false))) else (some false))) = some r := h; clear h; replace H := Option.bind_eq_some_iff.mp H; obtain ⟨t137, A30, H⟩ := H
 replace H : (if t137 = true then (if (a0_1 != a1_1) = true then (some false) else (if a0_2 = a1_2 then ((laws_eqTreeS.f k l0_3 l1_3).bind fun t138 => (if t138 = true then (some true) else (some false))) else (some false))) else (some false)) = some r := H; have A3 := Aside0.mk A30; clear A30; by_cases c4 : t137 = true
 ·subst c4
  have H1 : (if (a0_1 != a1_1) = true then (some false) else (if a0_2 = a1_2 then ((laws_eqTreeS.f k l0_3 l1_3).bind fun t138 => (if t138 = true then (some true) else (some false))) else (some false))) = some r := by rw [if_pos rfl] at H; exact H
  clear H; have H := H1; clear H1; by_cases c5 : (a0_1 != a1_1) = true
  ·rw [if_pos c5] at H
   have c5b0 : (a0_1 != a1_1) = true := c5; (try (have c5b1 : decide (a0_1 = a1_1) = false := by simpa using c5)); (try (have c5b2 : (a0_1 == a1_1) = false := by simpa using c5)); (try (have c5b3 : ¬ (a0_1 = a1_1) := by simpa using c5)); clear c5; obtain rfl := Option.some.inj H; go_enter Try.func19, Try.ntmps19
   go_wp2_with (first | ((with_reducible refine gate_dst (N := 2) rfl ?_); refine bx_ 2 #[.slice A0_0 l0_0.length c0_0, .bool a0_1, .int .i64 a0_2, .slice A0_3 l0_3.length c0_3] 30 (h := ?_); intro gb135 hg w6 hbox hb; have BK135 := Aside0.mk (hbox); have GW135 := Aside0.mk ((by rw [hg]; exact (below_size bel) : w.heap.size ≤ gb135)); have GE135 := GW135; replace HB := bst hb; clear hb hbox hg) | ((with_reducible refine gate_dst (N := 3) rfl ?_); refine bx_ 3 #[.slice A1_0 l1_0.length c1_0, .bool a1_1, .int .i64 a1_2, .slice A1_3 l1_3.length c1_3] 30 (h := ?_); intro gb136 hg w7 hbox hb; have BK136 := Aside0.mk (hbox); have GW136 := Aside0.mk ((by rw [hg]; exact (below_size bel) : w.heap.size ≤ gb136)); have GE136 := GW136; have NB135_136 := Aside0.mk ((by rw [hg]; exact Nat.ne_of_lt (blt BK135) : gb135 ≠ gb136)); have NB136_135 := Aside0.mk NB135_136.out.symm; replace BK135 := Aside0.mk (blb BK135 hb); replace HB := bst hb; clear hb hbox hg; have hnb8 := NB135_136.out; have hnc8 := NB136_135.out; obtain ⟨C9_0, C9_1, C9_2, C9_3, -⟩ := cells_4 BK135.out trivial; obtain ⟨F9_0, F9_1, F9_2, F9_3, -⟩ := frz_4 BK135.out; obtain ⟨C10_0, C10_1, C10_2, C10_3, -⟩ := cells_4 BK136.out trivial; obtain ⟨F10_0, F10_1, F10_2, F10_3, -⟩ := frz_4 BK136.out) | ((with_reducible refine gate_callee (f := 25) rfl ?_); refine gl_ (some 9) Try.func25 #[.slice A0_0 l0_0.length c0_0, .slice A1_0 l1_0.length c1_0] (h := ?_); (with_reducible refine (laws_eqByteS.calls k _ _ l0_0 _ _ l1_0 true _ ?side1 ?side2 ?side3 ?side4 A3.out).mono ?_); (case side1 => exact kcb); (case side2 => exact HC0_0.out); (case side3 => exact kcb); (case side4 => exact HC1_0.out); rintro e w' ⟨rfl, ⟨nd, rfl⟩⟩; refine ⟨_, rfl, ?_⟩))
   go_ret; exact ⟨rz_, bel⟩
  rw [if_neg c5] at H; have c5b0 : (a0_1 != a1_1) = false := by simpa using c5
  (try (have c5b1 : decide (a0_1 = a1_1) = true := by simpa using c5)); (try (have c5b2 : (a0_1 == a1_1) = true := by simpa using c5)); clear c5; by_cases c11 : a0_2 = a1_2
  ·rw [if_pos c11] at H
   have c11b0 : (a0_2 == a1_2) = true := beq_iff_eq.mpr c11; have c11b1 : (a0_2 != a1_2) = false := bne_eq_false_iff_eq.mpr c11; clear c11; replace H := Option.bind_eq_some_iff.mp H; obtain ⟨t138, A120, H⟩ := H; replace H : (if t138 = true then (some true) else (some false)) = some r := H; have A12 := Aside0.mk A120; clear A120; by_cases c13 : t138 = true
   ·subst c13
    have H1 : (some true) = some r := by rw [if_pos rfl] at H; exact H
    clear H; have H := H1; clear H1; obtain rfl := Option.some.inj H; go_enter Try.func19, Try.ntmps19
    go_wp2_with (first | ((with_reducible refine gate_dst (N := 2) rfl ?_); refine bx_ 2 #[.slice A0_0 l0_0.length c0_0, .bool a0_1, .int .i64 a0_2, .slice A0_3 l0_3.length c0_3] 30 (h := ?_); intro gb135 hg w14 hbox hb; have BK135 := Aside0.mk (hbox); have GW135 := Aside0.mk ((by rw [hg]; exact (below_size bel) : w.heap.size ≤ gb135)); have GE135 := GW135; replace HB := bst hb; clear hb hbox hg) | ((with_reducible refine gate_dst (N := 3) rfl ?_); refine bx_ 3 #[.slice A1_0 l1_0.length c1_0, .bool a1_1, .int .i64 a1_2, .slice A1_3 l1_3.length c1_3] 30 (h := ?_); intro gb136 hg w15 hbox hb; have BK136 := Aside0.mk (hbox); have GW136 := Aside0.mk ((by rw [hg]; exact (below_size bel) : w.heap.size ≤ gb136)); have GE136 := GW136; have NB135_136 := Aside0.mk ((by rw [hg]; exact Nat.ne_of_lt (blt BK135) : gb135 ≠ gb136)); have NB136_135 := Aside0.mk NB135_136.out.symm; replace BK135 := Aside0.mk (blb BK135 hb); replace HB := bst hb; clear hb hbox hg; have hnb16 := NB135_136.out; have hnc16 := NB136_135.out; obtain ⟨C17_0, C17_1, C17_2, C17_3, -⟩ := cells_4 BK135.out trivial; obtain ⟨F17_0, F17_1, F17_2, F17_3, -⟩ := frz_4 BK135.out; obtain ⟨C18_0, C18_1, C18_2, C18_3, -⟩ := cells_4 BK136.out trivial; obtain ⟨F18_0, F18_1, F18_2, F18_3, -⟩ := frz_4 BK136.out) | ((with_reducible refine gate_callee (f := 25) rfl ?_); refine gl_ (some 9) Try.func25 #[.slice A0_0 l0_0.length c0_0, .slice A1_0 l1_0.length c1_0] (h := ?_); (with_reducible refine (laws_eqByteS.calls k _ _ l0_0 _ _ l1_0 true _ ?side1 ?side2 ?side3 ?side4 A3.out).mono ?_); (case side1 => exact kcb); (case side2 => exact HC0_0.out); (case side3 => exact kcb); (case side4 => exact HC1_0.out); rintro e w' ⟨rfl, ⟨nd, rfl⟩⟩; refine ⟨_, rfl, ?_⟩) | ((with_reducible refine gate_callee (f := 63) rfl ?_); refine gl_ (some 25) Try.func63 #[.slice A0_3 l0_3.length c0_3, .slice A1_3 l1_3.length c1_3] (h := ?_); (with_reducible refine (ih k (by omega) _ _ l0_3 _ _ l1_3 true _ ?side1 ?side2 ?side3 ?side4 A12.out).mono ?_); (case side1 => exact kcb); (case side2 => exact HC0_3.out); (case side3 => exact kcb); (case side4 => exact HC1_3.out); rintro e w19 ⟨rfl, hb⟩; refine ⟨_, rfl, ?_⟩; replace BK135 := Aside0.mk (blb BK135 hb); replace BK136 := Aside0.mk (blb BK136 hb); replace HB := bst hb; (try clear hb); (try clear hb2); (try clear hk); (try clear hi)))
    go_ret; exact ⟨rz_, bel⟩
   replace c13 := Bool.eq_false_iff.mpr c13; subst c13; have H1 : (some false) = some r := by rw [if_neg (show ¬ (false = true) by decide)] at H; exact H
   clear H; have H := H1; clear H1; obtain rfl := Option.some.inj H; go_enter Try.func19, Try.ntmps19
   go_wp2_with (first | ((with_reducible refine gate_dst (N := 2) rfl ?_); refine bx_ 2 #[.slice A0_0 l0_0.length c0_0, .bool a0_1, .int .i64 a0_2, .slice A0_3 l0_3.length c0_3] 30 (h := ?_); intro gb135 hg w20 hbox hb; have BK135 := Aside0.mk (hbox); have GW135 := Aside0.mk ((by rw [hg]; exact (below_size bel) : w.heap.size ≤ gb135)); have GE135 := GW135; replace HB := bst hb; clear hb hbox hg) | ((with_reducible refine gate_dst (N := 3) rfl ?_); refine bx_ 3 #[.slice A1_0 l1_0.length c1_0, .bool a1_1, .int .i64 a1_2, .slice A1_3 l1_3.length c1_3] 30 (h := ?_); intro gb136 hg w21 hbox hb; have BK136 := Aside0.mk (hbox); have GW136 := Aside0.mk ((by rw [hg]; exact (below_size bel) : w.heap.size ≤ gb136)); have GE136 := GW136; have NB135_136 := Aside0.mk ((by rw [hg]; exact Nat.ne_of_lt (blt BK135) : gb135 ≠ gb136)); have NB136_135 := Aside0.mk NB135_136.out.symm; replace BK135 := Aside0.mk (blb BK135 hb); replace HB := bst hb; clear hb hbox hg; have hnb22 := NB135_136.out; have hnc22 := NB136_135.out; obtain ⟨C23_0, C23_1, C23_2, C23_3, -⟩ := cells_4 BK135.out trivial; obtain ⟨F23_0, F23_1, F23_2, F23_3, -⟩ := frz_4 BK135.out; obtain ⟨C24_0, C24_1, C24_2, C24_3, -⟩ := cells_4 BK136.out trivial; obtain ⟨F24_0, F24_1, F24_2, F24_3, -⟩ := frz_4 BK136.out) | ((with_reducible refine gate_callee (f := 25) rfl ?_); refine gl_ (some 9) Try.func25 #[.slice A0_0 l0_0.length c0_0, .slice A1_0 l1_0.length c1_0] (h := ?_); (with_reducible refine (laws_eqByteS.calls k _ _ l0_0 _ _ l1_0 true _ ?side1 ?side2 ?side3 ?side4 A3.out).mono ?_); (case side1 => exact kcb); (case side2 => exact HC0_0.out); (case side3 => exact kcb); (case side4 => exact HC1_0.out); rintro e w' ⟨rfl, ⟨nd, rfl⟩⟩; refine ⟨_, rfl, ?_⟩) | ((with_reducible refine gate_callee (f := 63) rfl ?_); refine gl_ (some 25) Try.func63 #[.slice A0_3 l0_3.length c0_3, .slice A1_3 l1_3.length c1_3] (h := ?_); (with_reducible refine (ih k (by omega) _ _ l0_3 _ _ l1_3 false _ ?side1 ?side2 ?side3 ?side4 A12.out).mono ?_); (case side1 => exact kcb); (case side2 => exact HC0_3.out); (case side3 => exact kcb); (case side4 => exact HC1_3.out); rintro e w25 ⟨rfl, hb⟩; refine ⟨_, rfl, ?_⟩; replace BK135 := Aside0.mk (blb BK135 hb); replace BK136 := Aside0.mk (blb BK136 hb); replace HB := bst hb; (try clear hb); (try clear hb2); (try clear hk); (try clear hi)))
   go_ret; exact ⟨rz_, bel⟩
  rw [if_neg c11] at H; have c11b0 : (a0_2 == a1_2) = false := beq_eq_false_iff_ne.mpr c11; have c11b1 : (a0_2 != a1_2) = true := bne_iff_ne.mpr c11; obtain rfl := Option.some.inj H; go_enter Try.func19, Try.ntmps19
  go_wp2_with (first | ((with_reducible refine gate_dst (N := 2) rfl ?_); refine bx_ 2 #[.slice A0_0 l0_0.length c0_0, .bool a0_1, .int .i64 a0_2, .slice A0_3 l0_3.length c0_3] 30 (h := ?_); intro gb135 hg w26 hbox hb; have BK135 := Aside0.mk (hbox); have GW135 := Aside0.mk ((by rw [hg]; exact (below_size bel) : w.heap.size ≤ gb135)); have GE135 := GW135; replace HB := bst hb; clear hb hbox hg) | ((with_reducible refine gate_dst (N := 3) rfl ?_); refine bx_ 3 #[.slice A1_0 l1_0.length c1_0, .bool a1_1, .int .i64 a1_2, .slice A1_3 l1_3.length c1_3] 30 (h := ?_); intro gb136 hg w27 hbox hb; have BK136 := Aside0.mk (hbox); have GW136 := Aside0.mk ((by rw [hg]; exact (below_size bel) : w.heap.size ≤ gb136)); have GE136 := GW136; have NB135_136 := Aside0.mk ((by rw [hg]; exact Nat.ne_of_lt (blt BK135) : gb135 ≠ gb136)); have NB136_135 := Aside0.mk NB135_136.out.symm; replace BK135 := Aside0.mk (blb BK135 hb); replace HB := bst hb; clear hb hbox hg; have hnb28 := NB135_136.out; have hnc28 := NB136_135.out; obtain ⟨C29_0, C29_1, C29_2, C29_3, -⟩ := cells_4 BK135.out trivial; obtain ⟨F29_0, F29_1, F29_2, F29_3, -⟩ := frz_4 BK135.out; obtain ⟨C30_0, C30_1, C30_2, C30_3, -⟩ := cells_4 BK136.out trivial; obtain ⟨F30_0, F30_1, F30_2, F30_3, -⟩ := frz_4 BK136.out) | ((with_reducible refine gate_callee (f := 25) rfl ?_); refine gl_ (some 9) Try.func25 #[.slice A0_0 l0_0.length c0_0, .slice A1_0 l1_0.length c1_0] (h := ?_); (with_reducible refine (laws_eqByteS.calls k _ _ l0_0 _ _ l1_0 true _ ?side1 ?side2 ?side3 ?side4 A3.out).mono ?_); (case side1 => exact kcb); (case side2 => exact HC0_0.out); (case side3 => exact kcb); (case side4 => exact HC1_0.out); rintro e w' ⟨rfl, ⟨nd, rfl⟩⟩; refine ⟨_, rfl, ?_⟩))
  go_ret; exact ⟨rz_, bel⟩
 replace c4 := Bool.eq_false_iff.mpr c4; subst c4; have H1 : (some false) = some r := by rw [if_neg (show ¬ (false = true) by decide)] at H; exact H
 clear H; have H := H1; clear H1; obtain rfl := Option.some.inj H; go_enter Try.func19, Try.ntmps19
 go_wp2_with (first | ((with_reducible refine gate_dst (N := 2) rfl ?_); refine bx_ 2 #[.slice A0_0 l0_0.length c0_0, .bool a0_1, .int .i64 a0_2, .slice A0_3 l0_3.length c0_3] 30 (h := ?_); intro gb135 hg w31 hbox hb; have BK135 := Aside0.mk (hbox); have GW135 := Aside0.mk ((by rw [hg]; exact (below_size bel) : w.heap.size ≤ gb135)); have GE135 := GW135; replace HB := bst hb; clear hb hbox hg) | ((with_reducible refine gate_dst (N := 3) rfl ?_); refine bx_ 3 #[.slice A1_0 l1_0.length c1_0, .bool a1_1, .int .i64 a1_2, .slice A1_3 l1_3.length c1_3] 30 (h := ?_); intro gb136 hg w32 hbox hb; have BK136 := Aside0.mk (hbox); have GW136 := Aside0.mk ((by rw [hg]; exact (below_size bel) : w.heap.size ≤ gb136)); have GE136 := GW136; have NB135_136 := Aside0.mk ((by rw [hg]; exact Nat.ne_of_lt (blt BK135) : gb135 ≠ gb136)); have NB136_135 := Aside0.mk NB135_136.out.symm; replace BK135 := Aside0.mk (blb BK135 hb); replace HB := bst hb; clear hb hbox hg; have hnb33 := NB135_136.out; have hnc33 := NB136_135.out; obtain ⟨C34_0, C34_1, C34_2, C34_3, -⟩ := cells_4 BK135.out trivial; obtain ⟨F34_0, F34_1, F34_2, F34_3, -⟩ := frz_4 BK135.out; obtain ⟨C35_0, C35_1, C35_2, C35_3, -⟩ := cells_4 BK136.out trivial; obtain ⟨F35_0, F35_1, F35_2, F35_3, -⟩ := frz_4 BK136.out) | ((with_reducible refine gate_callee (f := 25) rfl ?_); refine gl_ (some 9) Try.func25 #[.slice A0_0 l0_0.length c0_0, .slice A1_0 l1_0.length c1_0] (h := ?_); (with_reducible refine (laws_eqByteS.calls k _ _ l0_0 _ _ l1_0 false _ ?side1 ?side2 ?side3 ?side4 A3.out).mono ?_); (case side1 => exact kcb); (case side2 => exact HC0_0.out); (case side3 => exact kcb); (case side4 => exact HC1_0.out); rintro e w' ⟨rfl, ⟨nd, rfl⟩⟩; refine ⟨_, rfl, ?_⟩))
 go_ret; exact ⟨rz_, bel⟩

def laws_eqTreeS.T6 : Bool × List (List Nat × List Nat) := (true, [([], []), ([], []), ([0, 1], [0, 1]), ([2], [2]), ([], []), ([], []), ([4, 5], [4, 5]), ([6], [6]), ([3, 7], [3, 7]), ([8], [8])])
def laws_eqTreeS.B6 : List Nat := [0, 0, 3, 7, 0, 0, 48, 112, 255, 511]
theorem laws_eqTreeS.tab6 : rtab .any (opsOf Try.f63 6) = laws_eqTreeS.T6 := by kernel_rfl
theorem laws_eqTreeS.bits6 : waitsOk laws_eqTreeS.T6.2 laws_eqTreeS.B6 = true := by kernel_rfl
set_option maxHeartbeats 8000000 in
set_option maxRecDepth 100000 in
theorem laws_eqTreeS.calls (k : Nat) : ∀ (A0 : Option Addr) (c0 : Nat) (l0 : List (S30)) (A1 : Option Addr) (c1 : Nat) (l1 : List (S30)) (r : Bool) (w : World) (hr0 : Kd.C k30 w A0 l0.length l0) (hc0 : l0.length ≤ c0) (hr1 : Kd.C k30 w A1 l1.length l1) (hc1 : l1.length ≤ c1) (h : laws_eqTreeS.f k l0 l1 = some r),
  Calls Try.prog 63 #[.slice A0 l0.length c0, .slice A1 l1.length c1] w fun e w' => e = .returned (.bool r) ∧ Below w.heap.size w w' := by
 induction k using Nat.strongRecOn with
 | _ k ih =>
 intro A0 c0 l0 A1 c1 l1 r w hr0 hc0 hr1 hc1 h; cases k with
 | zero => exact absurd h (by simp [laws_eqTreeS.f])
 | succ k =>
 simp only [laws_eqTreeS.f] at h; have hu30 := Try.underlying30; have HR0 := Aside0.mk hr0; have HC0 := Aside0.mk hc0; clear hr0 hc0; have HR1 := Aside0.mk hr1; have HC1 := Aside0.mk hc1; clear hr1 hc1; have HB := Aside0.mk (Below.refl w.heap.size w); have H : (if (l0.length : Int) = (l1.length : Int) then (laws_eqTreeS.l0 k l0 l1 0) else (some false)) = some r := h; clear h; by_cases c3 : (l0.length : Int) = (l1.length : Int)
 ·rw [if_pos c3] at H
  have c3b0 : ((l0.length : Int) == (l1.length : Int)) = true := beq_iff_eq.mpr c3; have c3b1 : ((l0.length : Int) != (l1.length : Int)) = false := bne_eq_false_iff_eq.mpr c3; have c3b2 : (l0.length == l1.length) = true := by first | simpa using c3 | (simp at c3 ⊢; omega)
  clear c3; have H' := Aside0.mk H; clear H; go_enter Try.func63, Try.ntmps63; go_wp2; go_loopg [5] k (fun kq v5 w' => ∃ (x5_1 : Int), v5 = .int .i64 x5_1 ∧ Aside0 (laws_eqTreeS.l0 kq l0 l1 x5_1 = some r) ∧ Aside0 (kq ≤ k) ∧ Aside0 (Below w.heap.size w w'))
  case atStart => exact ⟨(0), rs_, H', ⟨Nat.le_refl _⟩, ⟨bel⟩⟩
  case round =>
   clear H'; try clear c1; try clear p2; try clear c3; try clear c3b0; try clear c3b1; try clear c3b2
   obtain ⟨x5_1, rfl, HA, HK1, HB⟩ := hrel; cases gk with
   | zero => exact absurd HA.out (by simp [laws_eqTreeS.l0])
   | succ k1 =>
    have H := HA.out; clear HA; simp only [laws_eqTreeS.l0] at H; by_cases c4 : x5_1 < (l0.length : Int)
    ·rw [if_pos c4] at H
     have c4b0 : decide (x5_1 < (l0.length : Int)) = true := decide_eq_true c4; clear c4; by_cases c5 : 0 ≤ x5_1
     ·rw [if_pos c5] at H
      have c5b0 : decide (0 ≤ x5_1) = true := decide_eq_true c5; clear c5; by_cases c6 : x5_1 < (l1.length : Int)
      ·rw [if_pos c6] at H
       have c6b0 : decide (x5_1 < (l1.length : Int)) = true := decide_eq_true c6; clear c6; replace H := Option.bind_eq_some_iff.mp H; obtain ⟨t141, A70, H⟩ := H; replace H : (if t141 = true then (laws_eqTreeS.l0 k1 l0 l1 (wrap64 (x5_1 + 1))) else (some false)) = some r := H; have A7 := Aside0.mk A70; clear A70; by_cases c8 : t141 = true
       ·subst c8
        have H1 : (laws_eqTreeS.l0 k1 l0 l1 (wrap64 (x5_1 + 1))) = some r := by rw [if_pos rfl] at H; exact H
        clear H; have H := H1; clear H1; have H' := Aside0.mk H; clear H; try go_wp2
        replace HB := Aside0.mk (below_drew1 HB.out); have p139 : 0 ≤ (x5_1 : Int) := od; have q139 : x5_1 < (l0.length : Int) := od; obtain ⟨ad139, A139_0, c139_0, A139_3, c139_3, e139, hx139_0, hx139_1, hx139_2, hx139_3, hl139_0, hi139_0, hl139_3, hi139_3⟩ := at_T30 HR0.out x5_1 p139 q139; have hw139_3 := hx139_3; have hw139_2 := hx139_2; have hw139_1 := hx139_1; have hw139_0 := hx139_0; cases e139; replace hx139_0 := hxb HB hx139_0; replace hx139_1 := hxb HB hx139_1; replace hx139_2 := hxb HB hx139_2; replace hx139_3 := hxb HB hx139_3; have HR139_0 := Aside0.mk hi139_0
        have HC139_0 := Aside0.mk hl139_0; clear hi139_0 hl139_0; have HR139_3 := Aside0.mk hi139_3; have HC139_3 := Aside0.mk hl139_3; clear hi139_3 hl139_3; replace p139 := eq_true p139; replace q139 := eq_true q139; have p140 : 0 ≤ (x5_1 : Int) := od; have q140 : x5_1 < (l1.length : Int) := od; obtain ⟨ad140, A140_0, c140_0, A140_3, c140_3, e140, hx140_0, hx140_1, hx140_2, hx140_3, hl140_0, hi140_0, hl140_3, hi140_3⟩ := at_T30 HR1.out x5_1 p140 q140; have hw140_3 := hx140_3; have hw140_2 := hx140_2; have hw140_1 := hx140_1; have hw140_0 := hx140_0; cases e140
        replace hx140_0 := hxb HB hx140_0; replace hx140_1 := hxb HB hx140_1; replace hx140_2 := hxb HB hx140_2; replace hx140_3 := hxb HB hx140_3; have HR140_0 := Aside0.mk hi140_0; have HC140_0 := Aside0.mk hl140_0; clear hi140_0 hl140_0; have HR140_3 := Aside0.mk hi140_3; have HC140_3 := Aside0.mk hl140_3; clear hi140_3 hl140_3; replace p140 := eq_true p140; replace q140 := eq_true q140
        refine start_ (n := 10) (S := fun w' => w'.cell? (ad139.add ((x5_1).toNat * 4)) = some (.slice A139_0 ((rd_T30 l0 x5_1).f0).length c139_0) ∧ w'.cell? ⟨(ad139.add ((x5_1).toNat * 4)).block, (ad139.add ((x5_1).toNat * 4)).off + 1, none⟩ = some (.bool ((rd_T30 l0 x5_1).f1)) ∧ w'.cell? ⟨(ad139.add ((x5_1).toNat * 4)).block, (ad139.add ((x5_1).toNat * 4)).off + 2, none⟩ = some (.int .i64 ((rd_T30 l0 x5_1).f2)) ∧ w'.cell? ⟨(ad139.add ((x5_1).toNat * 4)).block, (ad139.add ((x5_1).toNat * 4)).off + 3, none⟩ = some (.slice A139_3 ((rd_T30 l0 x5_1).f3).length c139_3) ∧ w'.cell? (ad140.add ((x5_1).toNat * 4)) = some (.slice A140_0 ((rd_T30 l1 x5_1).f0).length c140_0) ∧ w'.cell? ⟨(ad140.add ((x5_1).toNat * 4)).block, (ad140.add ((x5_1).toNat * 4)).off + 1, none⟩ = some (.bool ((rd_T30 l1 x5_1).f1)) ∧ w'.cell? ⟨(ad140.add ((x5_1).toNat * 4)).block, (ad140.add ((x5_1).toNat * 4)).off + 2, none⟩ = some (.int .i64 ((rd_T30 l1 x5_1).f2)) ∧ w'.cell? ⟨(ad140.add ((x5_1).toNat * 4)).block, (ad140.add ((x5_1).toNat * 4)).off + 3, none⟩ = some (.slice A140_3 ((rd_T30 l1 x5_1).f3).length c140_3)) (ds := []) (tf 0 10) (by kernel_rfl) rfl rfl ⟨(hxb HB hw139_0 :), (hxb HB hw139_1 :), (hxb HB hw139_2 :), (hxb HB hw139_3 :), (hxb HB hw140_0 :), (hxb HB hw140_1 :), (hxb HB hw140_2 :), (hxb HB hw140_3 :)⟩ (fun hHeld => ?_); refine with_tabW laws_eqTreeS.tab6 laws_eqTreeS.bits6 (fun HT_ HW_ => ?_)
        generalize wr.drew = w9 at HB HR139_0 HR139_3 HR140_0 HR140_3 hx139_0 hx139_1 hx139_2 hx139_3 hx140_0 hx140_1 hx140_2 hx140_3 hHeld ⊢; iterate 3 (refine pvn_ HT_ (h := ?_))
        refine pv_ HT_ 4 (some 21) (tb 10 23) (h := ?_); refine pv_ HT_ 5 (some 22) (tb 10 55) (h := ?_); refine pv_ HT_ 6 (some 23) (tb 10 119) (h := ?_); refine tv_ HT_ HW_ hHeld 3 (some 20) (tf 7 3) (h := ?_); refine tvn_ HT_ HW_ hHeld (h := ?_); refine one_ (i := 8) (N := some 25) (tf 9 1) rfl rfl (one_of HT_.out (by kernel_rfl)) (by decide) (fun K hK => ?_)
        refine gs_ Try.func19 #[.agg #[.slice A139_0 ((rd_T30 l0 x5_1).f0).length c139_0, .bool ((rd_T30 l0 x5_1).f1), .int .i64 ((rd_T30 l0 x5_1).f2), .slice A139_3 ((rd_T30 l0 x5_1).f3).length c139_3], .agg #[.slice A140_0 ((rd_T30 l1 x5_1).f0).length c140_0, .bool ((rd_T30 l1 x5_1).f1), .int .i64 ((rd_T30 l1 x5_1).f2), .slice A140_3 ((rd_T30 l1 x5_1).f3).length c140_3]] (h := ?_)
        with_reducible refine (laws_eqTree.calls_ k1 (fun m_ hm_ => ih m_ (by have := HK1.out; omega)) _ _ ((rd_T30 l0 x5_1).f0) ((rd_T30 l0 x5_1).f1) ((rd_T30 l0 x5_1).f2) _ _ ((rd_T30 l0 x5_1).f3) _ _ ((rd_T30 l1 x5_1).f0) ((rd_T30 l1 x5_1).f1) ((rd_T30 l1 x5_1).f2) _ _ ((rd_T30 l1 x5_1).f3) true _ ?side1 ?side2 ?side3 ?side4 ?side5 ?side6 ?side7 ?side8 A7.out).mono ?_
        (case side1 => exact kcb); (case side2 => exact HC139_0.out); (case side3 => exact kcb); (case side4 => exact HC139_3.out); (case side5 => exact kcb); (case side6 => exact HC140_0.out); (case side7 => exact kcb); (case side8 => exact HC140_3.out); rintro e w10 ⟨rfl, hb⟩; refine ⟨_, rfl, ?_⟩; replace HB := bst hb; (try clear hb); (try clear hb2); (try clear hk); (try clear hi); refine hK.out _ _ ⟨(hxb HB hw139_0 :), (hxb HB hw139_1 :), (hxb HB hw139_2 :), (hxb HB hw139_3 :), (hxb HB hw140_0 :), (hxb HB hw140_1 :), (hxb HB hw140_2 :), (hxb HB hw140_3 :)⟩ (fun hHeld => ?_); clear hK K
        refine nrm_ (some 25) (h := ?_); refine pvn_ HT_ (h := ?_); refine done_ (done_of HT_.out (by kernel_rfl)) ?_; try go_wp2
        go_roundg k1
        case measure => have := HK1.out; omega
        case rel => exact ⟨(wrap64 (x5_1 + 1)), rs_, H', ⟨by have := HK1.out; omega⟩, ⟨bel⟩⟩
       replace c8 := Bool.eq_false_iff.mpr c8; subst c8; have H1 : (some false) = some r := by rw [if_neg (show ¬ (false = true) by decide)] at H; exact H
       clear H; have H := H1; clear H1; obtain rfl := Option.some.inj H; try go_wp2
       replace HB := Aside0.mk (below_drew1 HB.out); have p139 : 0 ≤ (x5_1 : Int) := od; have q139 : x5_1 < (l0.length : Int) := od; obtain ⟨ad139, A139_0, c139_0, A139_3, c139_3, e139, hx139_0, hx139_1, hx139_2, hx139_3, hl139_0, hi139_0, hl139_3, hi139_3⟩ := at_T30 HR0.out x5_1 p139 q139; have hw139_3 := hx139_3; have hw139_2 := hx139_2; have hw139_1 := hx139_1; have hw139_0 := hx139_0; cases e139; replace hx139_0 := hxb HB hx139_0; replace hx139_1 := hxb HB hx139_1; replace hx139_2 := hxb HB hx139_2; replace hx139_3 := hxb HB hx139_3; have HR139_0 := Aside0.mk hi139_0
       have HC139_0 := Aside0.mk hl139_0; clear hi139_0 hl139_0; have HR139_3 := Aside0.mk hi139_3; have HC139_3 := Aside0.mk hl139_3; clear hi139_3 hl139_3; replace p139 := eq_true p139; replace q139 := eq_true q139; have p140 : 0 ≤ (x5_1 : Int) := od; have q140 : x5_1 < (l1.length : Int) := od; obtain ⟨ad140, A140_0, c140_0, A140_3, c140_3, e140, hx140_0, hx140_1, hx140_2, hx140_3, hl140_0, hi140_0, hl140_3, hi140_3⟩ := at_T30 HR1.out x5_1 p140 q140; have hw140_3 := hx140_3; have hw140_2 := hx140_2; have hw140_1 := hx140_1; have hw140_0 := hx140_0; cases e140
       replace hx140_0 := hxb HB hx140_0; replace hx140_1 := hxb HB hx140_1; replace hx140_2 := hxb HB hx140_2; replace hx140_3 := hxb HB hx140_3; have HR140_0 := Aside0.mk hi140_0; have HC140_0 := Aside0.mk hl140_0; clear hi140_0 hl140_0; have HR140_3 := Aside0.mk hi140_3; have HC140_3 := Aside0.mk hl140_3; clear hi140_3 hl140_3; replace p140 := eq_true p140; replace q140 := eq_true q140
       refine start_ (n := 10) (S := fun w' => w'.cell? (ad139.add ((x5_1).toNat * 4)) = some (.slice A139_0 ((rd_T30 l0 x5_1).f0).length c139_0) ∧ w'.cell? ⟨(ad139.add ((x5_1).toNat * 4)).block, (ad139.add ((x5_1).toNat * 4)).off + 1, none⟩ = some (.bool ((rd_T30 l0 x5_1).f1)) ∧ w'.cell? ⟨(ad139.add ((x5_1).toNat * 4)).block, (ad139.add ((x5_1).toNat * 4)).off + 2, none⟩ = some (.int .i64 ((rd_T30 l0 x5_1).f2)) ∧ w'.cell? ⟨(ad139.add ((x5_1).toNat * 4)).block, (ad139.add ((x5_1).toNat * 4)).off + 3, none⟩ = some (.slice A139_3 ((rd_T30 l0 x5_1).f3).length c139_3) ∧ w'.cell? (ad140.add ((x5_1).toNat * 4)) = some (.slice A140_0 ((rd_T30 l1 x5_1).f0).length c140_0) ∧ w'.cell? ⟨(ad140.add ((x5_1).toNat * 4)).block, (ad140.add ((x5_1).toNat * 4)).off + 1, none⟩ = some (.bool ((rd_T30 l1 x5_1).f1)) ∧ w'.cell? ⟨(ad140.add ((x5_1).toNat * 4)).block, (ad140.add ((x5_1).toNat * 4)).off + 2, none⟩ = some (.int .i64 ((rd_T30 l1 x5_1).f2)) ∧ w'.cell? ⟨(ad140.add ((x5_1).toNat * 4)).block, (ad140.add ((x5_1).toNat * 4)).off + 3, none⟩ = some (.slice A140_3 ((rd_T30 l1 x5_1).f3).length c140_3)) (ds := []) (tf 0 10) (by kernel_rfl) rfl rfl ⟨(hxb HB hw139_0 :), (hxb HB hw139_1 :), (hxb HB hw139_2 :), (hxb HB hw139_3 :), (hxb HB hw140_0 :), (hxb HB hw140_1 :), (hxb HB hw140_2 :), (hxb HB hw140_3 :)⟩ (fun hHeld => ?_); refine with_tabW laws_eqTreeS.tab6 laws_eqTreeS.bits6 (fun HT_ HW_ => ?_)
       generalize wr.drew = w11 at HB HR139_0 HR139_3 HR140_0 HR140_3 hx139_0 hx139_1 hx139_2 hx139_3 hx140_0 hx140_1 hx140_2 hx140_3 hHeld ⊢; iterate 3 (refine pvn_ HT_ (h := ?_))
       refine pv_ HT_ 4 (some 21) (tb 10 23) (h := ?_); refine pv_ HT_ 5 (some 22) (tb 10 55) (h := ?_); refine pv_ HT_ 6 (some 23) (tb 10 119) (h := ?_); refine tv_ HT_ HW_ hHeld 3 (some 20) (tf 7 3) (h := ?_); refine tvn_ HT_ HW_ hHeld (h := ?_); refine one_ (i := 8) (N := some 25) (tf 9 1) rfl rfl (one_of HT_.out (by kernel_rfl)) (by decide) (fun K hK => ?_)
       refine gs_ Try.func19 #[.agg #[.slice A139_0 ((rd_T30 l0 x5_1).f0).length c139_0, .bool ((rd_T30 l0 x5_1).f1), .int .i64 ((rd_T30 l0 x5_1).f2), .slice A139_3 ((rd_T30 l0 x5_1).f3).length c139_3], .agg #[.slice A140_0 ((rd_T30 l1 x5_1).f0).length c140_0, .bool ((rd_T30 l1 x5_1).f1), .int .i64 ((rd_T30 l1 x5_1).f2), .slice A140_3 ((rd_T30 l1 x5_1).f3).length c140_3]] (h := ?_)
       with_reducible refine (laws_eqTree.calls_ k1 (fun m_ hm_ => ih m_ (by have := HK1.out; omega)) _ _ ((rd_T30 l0 x5_1).f0) ((rd_T30 l0 x5_1).f1) ((rd_T30 l0 x5_1).f2) _ _ ((rd_T30 l0 x5_1).f3) _ _ ((rd_T30 l1 x5_1).f0) ((rd_T30 l1 x5_1).f1) ((rd_T30 l1 x5_1).f2) _ _ ((rd_T30 l1 x5_1).f3) false _ ?side1 ?side2 ?side3 ?side4 ?side5 ?side6 ?side7 ?side8 A7.out).mono ?_
       (case side1 => exact kcb); (case side2 => exact HC139_0.out); (case side3 => exact kcb); (case side4 => exact HC139_3.out); (case side5 => exact kcb); (case side6 => exact HC140_0.out); (case side7 => exact kcb); (case side8 => exact HC140_3.out); rintro e w12 ⟨rfl, hb⟩; refine ⟨_, rfl, ?_⟩; replace HB := bst hb; (try clear hb); (try clear hb2); (try clear hk); (try clear hi); refine hK.out _ _ ⟨(hxb HB hw139_0 :), (hxb HB hw139_1 :), (hxb HB hw139_2 :), (hxb HB hw139_3 :), (hxb HB hw140_0 :), (hxb HB hw140_1 :), (hxb HB hw140_2 :), (hxb HB hw140_3 :)⟩ (fun hHeld => ?_); clear hK K
       refine nrm_ (some 25) (h := ?_); refine pvn_ HT_ (h := ?_); refine done_ (done_of HT_.out (by kernel_rfl)) ?_; try go_wp2
       go_ret; exact ⟨rz_, bel⟩
      rw [if_neg c6] at H; exact absurd H (by simp)
     rw [if_neg c5] at H; exact absurd H (by simp)
    rw [if_neg c4] at H; have c4b0 : decide (x5_1 < (l0.length : Int)) = false := decide_eq_false c4; clear c4; obtain rfl := Option.some.inj H; go_wp2; go_ret; exact ⟨rz_, bel⟩
 rw [if_neg c3] at H; have c3b0 : ((l0.length : Int) == (l1.length : Int)) = false := beq_eq_false_iff_ne.mpr c3; have c3b1 : ((l0.length : Int) != (l1.length : Int)) = true := bne_iff_ne.mpr c3; have c3b2 : (l0.length == l1.length) = false := by first | simpa using c3 | (simp at c3 ⊢; omega)
 obtain rfl := Option.some.inj H; go_enter Try.func63, Try.ntmps63; go_wp2; go_ret; exact ⟨rz_, bel⟩
theorem laws_eqTree.calls (k : Nat) : ∀ (A0_0 : Option Addr) (c0_0 : Nat) (l0_0 : List Int) (a0_1 : Bool) (a0_2 : Int) (A0_3 : Option Addr) (c0_3 : Nat) (l0_3 : List (S30)) (A1_0 : Option Addr) (c1_0 : Nat) (l1_0 : List Int) (a1_1 : Bool) (a1_2 : Int) (A1_3 : Option Addr) (c1_3 : Nat) (l1_3 : List (S30)) (r : Bool) (w : World) (hr0_0 : Kd.C (Kd.int .u8) w A0_0 l0_0.length l0_0) (hc0_0 : l0_0.length ≤ c0_0) (hr0_3 : Kd.C k30 w A0_3 l0_3.length l0_3) (hc0_3 : l0_3.length ≤ c0_3) (hr1_0 : Kd.C (Kd.int .u8) w A1_0 l1_0.length l1_0) (hc1_0 : l1_0.length ≤ c1_0) (hr1_3 : Kd.C k30 w A1_3 l1_3.length l1_3) (hc1_3 : l1_3.length ≤ c1_3) (h : laws_eqTree.f k l0_0 a0_1 a0_2 l0_3 l1_0 a1_1 a1_2 l1_3 = some r),
  Calls Try.prog 19 #[.agg #[.slice A0_0 l0_0.length c0_0, .bool a0_1, .int .i64 a0_2, .slice A0_3 l0_3.length c0_3], .agg #[.slice A1_0 l1_0.length c1_0, .bool a1_1, .int .i64 a1_2, .slice A1_3 l1_3.length c1_3]] w fun e w' => e = .returned (.bool r) ∧ Below w.heap.size w w' := laws_eqTree.calls_ k (fun m_ _ => laws_eqTreeS.calls m_)

/-! ### laws_markTree: function 33 -/
def laws_markTree.S_wt : Nat → S30 → Nat
 | 0, _ => 0
 | k + 1, x => x.f0.length + 2 + (x.f3.map (laws_markTree.S_wt k)).sum
def laws_markTree.S_dp : Nat → S30 → Bool
 | 0, _ => false
 | k + 1, x => x.f3.all (laws_markTree.S_dp k)
def laws_markTree.S_Eqv (x y : S30) : Prop := x.f0.length = y.f0.length ∧ ∀ j, laws_markTree.S_wt j x = laws_markTree.S_wt j y ∧ laws_markTree.S_dp j x = laws_markTree.S_dp j y
theorem laws_markTree.S_map_eq {xs ys : List S30} {β : Type} (f : S30 → β) (hl : ys.length = xs.length) (h : ∀ (j : Nat) (x y : S30), xs[j]? = some x → ys[j]? = some y → f x = f y) : xs.map f = ys.map f := by
 apply List.ext_getElem?; intro j; rw [List.getElem?_map, List.getElem?_map]; rcases Nat.lt_or_ge j xs.length with hj | hj
 ·have hj' : j < ys.length := by omega
  rw [List.getElem?_eq_getElem hj, List.getElem?_eq_getElem hj', Option.map_some, Option.map_some, h j _ _ (List.getElem?_eq_getElem hj) (List.getElem?_eq_getElem hj')]
 ·rw [List.getElem?_eq_none hj, List.getElem?_eq_none (by omega)]
theorem laws_markTree.S_all_eq {xs ys : List S30} (f : S30 → Bool) (hl : ys.length = xs.length) (h : ∀ (j : Nat) (x y : S30), xs[j]? = some x → ys[j]? = some y → f x = f y) : xs.all f = ys.all f := by
 have e : ∀ zs : List S30, zs.all f = (zs.map f).all id := fun zs => by rw [List.all_map]; rfl
 rw [e, e, laws_markTree.S_map_eq f hl h]
theorem laws_markTree.S_shape (k : Nat) : ∀ (x : S30), laws_markTree.S_dp k x = true → ∀ (w W : World) (P ok : Nat → Prop) (base : Nat) (cs cs' : List Value), Mk w W P → (∀ b, ok b → P b) → k30.M w base ok x cs → Sm cs cs' → ∃ x', laws_markTree.S_Eqv x x' ∧ k30.M W base ok x' cs' := by
 induction k with
 | zero => intro x hd; simp [laws_markTree.S_dp] at hd
 | succ k ih =>
  intro x hd w W P ok base cs cs' M hok hm hsm; obtain ⟨v0, v3, rfl, h0, h3⟩ := k30_openM hm; obtain ⟨hl, he⟩ := hsm; obtain ⟨A0, c0, rfl⟩ := Kd.R_slice h0; obtain ⟨A3, c3, rfl⟩ := Kd.R_slice h3; obtain ⟨u0, hu0, q0⟩ := he 0 _ rfl; obtain ⟨u1, hu1, q1⟩ := he 1 _ rfl; obtain ⟨u2, hu2, q2⟩ := he 2 _ rfl; obtain ⟨u3, hu3, q3⟩ := he 3 _ rfl; obtain rfl := q0.slice; obtain ⟨b1, rfl⟩ := q1.bool; obtain ⟨i2, rfl⟩ := q2.int; obtain rfl := q3.slice
  have hcs : cs' = [.slice A0 x.f0.length c0, .bool b1, .int .i64 i2, .slice A3 x.f3.length c3] := by
   match cs', hl, hu0, hu1, hu2, hu3 with
   | [z0, z1, z2, z3], _, a0, a1, a2, a3 => simp at a0 a1 a2 a3; rw [a0, a1, a2, a3]
  obtain ⟨f0, hl0, h0'⟩ := Mk.R_int M hok h0; obtain ⟨f3, hl3, hs3, h3'⟩ := Mk.R (s := laws_markTree.S_Eqv) M hok h3 (fun y hy ok' hok' d d' hm' hsm' => ih y (by simp only [laws_markTree.S_dp, List.all_eq_true] at hd; exact hd y hy) w W P ok' base d d' M hok' hm' hsm'); refine ⟨⟨f0, b1, i2, f3⟩, ⟨hl0.symm, fun j => ?_⟩, ?_⟩
  ·cases j with
   | zero => exact ⟨rfl, rfl⟩
   | succ j =>
    refine ⟨?_, ?_⟩
    ·simp only [laws_markTree.S_wt]
     rw [hl0, laws_markTree.S_map_eq (laws_markTree.S_wt j) hl3 (fun i y y' hy hy' => ((hs3 i y y' hy hy').2 j).1)]
    ·simp only [laws_markTree.S_dp]
     exact laws_markTree.S_all_eq (laws_markTree.S_dp j) hl3 (fun i y y' hy hy' => ((hs3 i y y' hy hy').2 j).2)
  ·subst hcs
   have e := k30_mkM W base ok ⟨f0, b1, i2, f3⟩ (v0 := .slice A0 x.f0.length c0) h0' (v3 := .slice A3 x.f3.length c3) h3'; exact e
set_option maxHeartbeats 8000000 in
set_option maxRecDepth 100000 in
theorem laws_markTree.S_flat (P : Nat → Prop) (base : Nat) (v : Value) (l : List Int) (a : Int) (w : World) (hr : Kd.R (Kd.int .u8) 5 w base P v l) (h0 : 0 ≤ a) (h1 : a + l.length ≤ 1000000000) :
  Calls Try.prog 34 #[v, .int .i64 a] w fun e w' => e = .returned (.int .i64 (a + l.length)) ∧ Mk w w' P := by
 obtain ⟨A, c, rfl⟩ := Kd.R_slice hr; have HR := Aside0.mk hr; clear hr; go_enter Try.func34, Try.ntmps34; go_wp2; go_loopg [1, 5] l.length (fun gg v1 v5 wr => ∃ x : Int, v1 = .int .i64 (a + x) ∧ v5 = .int .i64 x ∧ 0 ≤ x ∧ x ≤ (l.length : Int) ∧ l.length - x.toNat ≤ gg ∧ Aside0 (Mk w wr P))
 case atStart => exact ⟨0, by rw [Int.add_zero], rfl, by omega, by omega, by omega, ⟨Mk.refl w P⟩⟩
 case round =>
  obtain ⟨x, rfl, rfl, hx0, hx1, hg, M⟩ := hrel; by_cases hlt : x < (l.length : Int)
  ·obtain ⟨l', hl', hr'⟩ := Mk.R_int M.out (fun _ h => h) HR.out
   have hlt' : x < (l'.length : Int) := by omega
   have c1 : decide (x < (l.length : Int)) = true := decide_eq_true hlt; have HL := Aside0.mk hlt; have HLL := Aside0.mk hl'; have HG := Aside0.mk hg; clear hlt hg; obtain ⟨g, cap, e, hb, hgl, cells, hcell⟩ := Kd.R_form hr' (by omega); injection e with ea en ec; subst ea; obtain ⟨hx, hf⟩ := Kd.R_celln 0 hr' x hx0 (by omega); have HP := Aside0.mk (hr'.1 g rfl); have HR' := Aside0.mk hr'; clear hr' hcell hgl hb en ec hl' hlt' hx1; have p5 : (0 ≤ x) = True := eq_true hx0; have q5 : (x < (l.length : Int)) = True := eq_true HL.out
   go_wp2_with (first | ((with_reducible refine gate_store (t := 5) (p := 16) rfl ?_); refine store_event (t := 5) (p := 16) (v := ?vo_w8) (w1 := (wr.setCell ⟨g, x.toNat, none⟩ (.int .u8 ((a + x) % 256)))) ?hg ?ho ?hn ?hr ?_; (case ho => rfl); (case hg => rfl); (case hn => rfl); (case hr => first | (go_simp; done) | (go_simp; rfl)); intro w8 hw; have M8 := Aside0.mk (show Mk w w8 P by rw [hw]; exact Mk.set M.out HP.out hx (.inr (.inl ⟨_, _, _, rfl, rfl⟩))); clear hw))
   go_roundg (l.length - (x.toNat + 1))
   case measure => have := HG.out; have := HL.out; omega
   case rel =>
    have hw1 : wrap64 (a + x + 1) = a + (x + 1) := by rw [w64m (by have := HL.out; omega) (by have := HL.out; omega)]; omega
    have hw2 : wrap64 (x + 1) = x + 1 := w64m (by have := HL.out; omega) (by have := HL.out; omega); exact ⟨x + 1, by first | rw [hw1] | simp [hw1], by first | rw [hw2] | simp [hw2], by omega, by have := HL.out; omega, by have := HL.out; omega, ⟨M8.out⟩⟩
  have c1 : decide (x < (l.length : Int)) = false := decide_eq_false hlt; have hx : x = (l.length : Int) := by omega
  clear hlt hg; subst hx; go_wp2; go_ret; exact ⟨rfl, M.out⟩
theorem laws_markTree.S_sum_take (f : S30 → Nat) : ∀ (l : List S30) (n : Nat), ((l.take n).map f).sum ≤ (l.map f).sum
 | [], n => by simp
 | x :: xs, 0 => by simp
 | x :: xs, n + 1 => by
  have := laws_markTree.S_sum_take f xs n
  simp only [List.take_succ_cons, List.map_cons, List.sum_cons]
  omega
theorem laws_markTree.S_sum_step (f : S30 → Nat) (l : List S30) (n : Nat) (h : n < l.length) : ((l.take (n + 1)).map f).sum = ((l.take n).map f).sum + f l[n] := by
 rw [List.take_succ_eq_append_getElem h, List.map_append, List.sum_append]; simp
set_option maxHeartbeats 16000000 in
set_option maxRecDepth 100000 in
theorem laws_markTree.S_deep (k : Nat) : ∀ (P : Nat → Prop) (base : Nat) (v : Value) (l : List S30) (a : Int) (w : World), Kd.R k30 30 w base P v l → l.all (laws_markTree.S_dp k) = true → 0 ≤ a → a + ((l.map (laws_markTree.S_wt k)).sum : Nat) ≤ 1000000000 →
  Calls Try.prog 74 #[v, .int .i64 a] w fun e w' => e = .returned (.int .i64 (a + ((l.map (laws_markTree.S_wt k)).sum : Nat))) ∧ Mk w w' P := by
 induction k using Nat.strongRecOn with
 | _ k ih =>
 intro P base v l a w hr hd h0 h1; obtain ⟨A, c, rfl⟩ := Kd.R_slice hr; have HR := Aside0.mk hr; have HD := Aside0.mk hd; have H0 := Aside0.mk h0; have H1 := Aside0.mk h1; have IH := Aside0.mk ih; clear hr hd h0 h1 ih; go_enter Try.func74, Try.ntmps74; go_wp2; go_loopg [1, 5] l.length (fun gg v1 v5 wr => ∃ x A1 : Int, v1 = .int .i64 A1 ∧ v5 = .int .i64 x ∧ 0 ≤ x ∧ x ≤ (l.length : Int) ∧ l.length - x.toNat ≤ gg ∧ Aside0 (A1 = a + (((l.take x.toNat).map (laws_markTree.S_wt k)).sum : Nat)) ∧ Aside0 (Mk w wr P))
 case atStart => exact ⟨0, a, rfl, rfl, by omega, by omega, by omega, ⟨by simp⟩, ⟨Mk.refl w P⟩⟩
 case round =>
  obtain ⟨x, A1, rfl, rfl, hx0, hx1, hg, HA, M⟩ := hrel; by_cases hlt : x < (l.length : Int)
  ·have hn : x.toNat < l.length := by omega
   have hdx : laws_markTree.S_dp k l[x.toNat] = true := (List.all_eq_true.1 HD.out) _ (List.getElem_mem hn)
   obtain ⟨k, rfl⟩ : ∃ j, k = j + 1 := by
    cases k with
    | zero => simp [laws_markTree.S_dp] at hdx
    | succ j => exact ⟨j, rfl⟩
   obtain ⟨l', hl', hs', hr'⟩ := Mk.R (s := laws_markTree.S_Eqv) M.out (fun _ h => h) HR.out (fun y hy ok' hok' d d' hm' hsm' => laws_markTree.S_shape (k + 1) y ((List.all_eq_true.1 HD.out) y hy) w wr P ok' base d d' M.out hok' hm' hsm'); have hn' : x.toNat < l'.length := by omega
   have hE := hs' x.toNat _ _ (List.getElem?_eq_getElem hn) (List.getElem?_eq_getElem hn'); have c1 : decide (x < (l.length : Int)) = true := decide_eq_true hlt; obtain ⟨g, cap, e, hb, hgl, cells, hcell⟩ := Kd.R_form hr' (by omega); injection e with ea en ec; subst ea; obtain ⟨ce, hcl, hM, hcc, hfr⟩ := Kd.R_elem hr' z30 x hx0 (by omega); rw [List.getD_eq_getElem?_getD, List.getElem?_eq_getElem hn', Option.getD_some] at hM; generalize l'[x.toNat] = y at hE hM; obtain ⟨v0, v3, rfl, hr0, hr3⟩ := k30_openM hM; obtain ⟨A0, c0, rfl⟩ := Kd.R_slice hr0; obtain ⟨A3, c3, rfl⟩ := Kd.R_slice hr3
   have hx_0 : wr.cell? ⟨g, x.toNat * 4, none⟩ = some (.slice A0 y.f0.length c0) := hcc 0 _ rfl; have hx_1 : wr.cell? ⟨g, x.toNat * 4 + 1, none⟩ = some (.bool y.f1) := hcc 1 _ rfl; have hx_2 : wr.cell? ⟨g, x.toNat * 4 + 2, none⟩ = some (.int .i64 y.f2) := hcc 2 _ rfl; have hx_3 : wr.cell? ⟨g, x.toNat * 4 + 3, none⟩ = some (.slice A3 y.f3.length c3) := hcc 3 _ rfl; have hf_1 : wr.frozen? ⟨g, x.toNat * 4 + 1, none⟩ = false := hfr 1; have hf_2 : wr.frozen? ⟨g, x.toNat * 4 + 2, none⟩ = false := hfr 2; have HP := Aside0.mk (hr'.1 g rfl)
   have h4 := Aside0.mk (laws_markTree.S_sum_take (laws_markTree.S_wt (k + 1)) l (x.toNat + 1)); have h5 := Aside0.mk (laws_markTree.S_sum_step (laws_markTree.S_wt (k + 1)) l x.toNat hn); have h6 : laws_markTree.S_wt (k + 1) l[x.toNat] = y.f0.length + 2 + (y.f3.map (laws_markTree.S_wt k)).sum := by rw [(hE.2 (k + 1)).1]; rfl
   have h7 : y.f3.all (laws_markTree.S_dp k) = true := by have := (hE.2 (k + 1)).2; rw [hdx] at this; exact this.symm
   have hsum : A1 + (y.f0.length + 2 + (y.f3.map (laws_markTree.S_wt k)).sum : Nat) = a + (((l.take (x.toNat + 1)).map (laws_markTree.S_wt (k + 1))).sum : Nat) := by rw [HA.out, h5.out, h6]; omega
   have hle : A1 + (y.f0.length + 2 + (y.f3.map (laws_markTree.S_wt k)).sum : Nat) ≤ 1000000000 := by rw [hsum]; have := h4.out; have := H1.out; omega
   have hle' : A1 + (y.f0.length : Int) + 2 ≤ 1000000000 := by omega
   have hA0 : 0 ≤ A1 := by rw [HA.out]; have := H0.out; omega
   have hw1 : wrap64 (A1 + (y.f0.length : Int) + 1) = A1 + (y.f0.length : Int) + 1 := w64m (by clear hsum hle; omega) (by clear hsum hle; omega); have hw2 : wrap64 (A1 + (y.f0.length : Int) + 1 + 1) = A1 + (y.f0.length : Int) + 1 + 1 := w64m (by clear hsum hle hw1; omega) (by clear hsum hle hw1; omega); have hw3 : wrap64 (x + 1) = x + 1 := w64m (by clear hsum hle hw1 hw2; omega) (by have := (Kd.R_reads' HR.out).2.2.2.1; clear hsum hle hw1 hw2; omega); have HL := Aside0.mk hlt; have HG := Aside0.mk hg; have HR0 := Aside0.mk hr0; have HR3 := Aside0.mk hr3; have HLE := Aside0.mk hle
   have HA0 := Aside0.mk hA0; have HSUM := Aside0.mk hsum; have H7 := Aside0.mk h7
   have CALL := Aside0.mk (show ∀ w10, Mk wr w10 P → Calls Try.prog 74 #[.slice A3 y.f3.length c3, .int .i64 (A1 + (y.f0.length : Int) + 1 + 1)] w10 (fun e w' => e = .returned (.int .i64 (A1 + (y.f0.length : Int) + 1 + 1 + ((y.f3.map (laws_markTree.S_wt k)).sum : Nat))) ∧ Mk w10 w' P) from by
    intro w10 m10; obtain ⟨f3, hl3, hs3, hr3'⟩ := Mk.R (s := laws_markTree.S_Eqv) m10 (fun _ (h : P _ ∧ _ ≠ g) => h.1) HR3.out (fun z hz ok' hok' d d' hm' hsm' => laws_markTree.S_shape k z ((List.all_eq_true.1 H7.out) z hz) wr w10 P ok' base d d' m10 hok' hm' hsm'); have e1 := laws_markTree.S_map_eq (laws_markTree.S_wt k) hl3 (fun j z z' h h' => ((hs3 j z z' h h').2 k).1); have e2 := laws_markTree.S_all_eq (laws_markTree.S_dp k) hl3 (fun j z z' h h' => ((hs3 j z z' h h').2 k).2); rw [e1]
    refine (IH.out k (by omega) (fun b => P b ∧ b ≠ g) base _ f3 _ w10 hr3' (e2.symm.trans H7.out) (by have := HA0.out; omega) (by rw [← e1]; have := HLE.out; omega)).mono ?_; rintro e w' ⟨rfl, m'⟩; exact ⟨rfl, m'.mono (fun _ h => h.1)⟩)
   have SETS := Aside0.mk (show ∀ w8, Mk wr w8 P → ∀ (b : Bool) (q : Int), Mk wr ((w8.setCell ⟨g, x.toNat * 4 + 1, none⟩ (.bool b)).setCell ⟨g, x.toNat * 4 + 2, none⟩ (.int .i64 q)) P from by
    intro w8 m8 b q; obtain ⟨u1, hy_1, s1⟩ := m8.cell hx_1; obtain ⟨b1, rfl⟩ := s1.bool; have m9 := Mk.set m8 HP.out hy_1 (u' := .bool b) (.inr (.inr ⟨_, _, rfl, rfl⟩)); obtain ⟨u2, hy_2, s2⟩ := m9.cell hx_2; obtain ⟨i2, rfl⟩ := s2.int; exact Mk.set m9 HP.out hy_2 (.inr (.inl ⟨_, _, _, rfl, rfl⟩)))
   clear hle' hr' hcell hgl hb en ec hl' hn' hx1 hE hlt hg hr0 hr3 hle hA0 hsum h6 h7 hdx hs' hM hcc hfr hcl h4 h5 hn; have p5 : (0 ≤ x) = True := eq_true hx0; have q5 : (x < (l.length : Int)) = True := eq_true HL.out
   go_wp2_with (first
    | ((with_reducible refine gate_callee (f := 34) rfl ?_); refine gl_ (some 18) Try.func34 #[.slice A0 y.f0.length c0, .int .i64 A1] (h := ?_); refine (laws_markTree.S_flat P base _ y.f0 A1 wr (Kd.R_mono HR0.out (fun _ h => h.1)) HA0.out (by have := HLE.out; omega)).mono ?_; rintro e w8 ⟨rfl, m8⟩; refine ⟨_, rfl, ?_⟩; have M8 := Aside0.mk m8; obtain ⟨u1, hy_1, s1⟩ := m8.cell hx_1; obtain ⟨b1, rfl⟩ := s1.bool; obtain ⟨u2, hy_2, s2⟩ := m8.cell hx_2; obtain ⟨i2, rfl⟩ := s2.int; obtain ⟨u3, hy_3, s3⟩ := m8.cell hx_3; obtain rfl := s3.slice; have hz_1 := m8.frz hx_1 hf_1; have hz_2 := m8.frz hx_2 hf_2; clear m8)
    | (go_at_call 74; refine (CALL.out _ (SETS.out w8 M8.out _ _)).mono ?_; rintro e w11 ⟨rfl, m11⟩; have M11 := Aside0.mk (M.out.trans ((SETS.out w8 M8.out _ _).trans m11)); clear m11))
   go_roundg (l.length - (x.toNat + 1))
   case measure => have := HG.out; have := HL.out; omega
   case rel => exact ⟨x + 1, _, rfl, by first | rw [hw3] | simp [hw3], by omega, by have := HL.out; omega, by have := HL.out; omega, ⟨by have := HSUM.out; rw [show (x + 1).toNat = x.toNat + 1 by omega]; omega⟩, ⟨M11.out⟩⟩
  have c1 : decide (x < (l.length : Int)) = false := decide_eq_false hlt; have hA : A1 = a + ((l.map (laws_markTree.S_wt k)).sum : Nat) := by rw [HA.out, List.take_of_length_le (by omega)]
  clear hlt hg; subst hA; go_wp2; go_ret; exact ⟨rfl, M.out⟩
def laws_markTree.f (k : Nat) (l0 : List Int) (a1 : Bool) (a2 : Int) (l3 : List S30) (a4 : Int) : Option Int :=
 if l3.all (laws_markTree.S_dp k) = true ∧ 0 ≤ a4 ∧ a4 + l0.length + ((l3.map (laws_markTree.S_wt k)).sum : Nat) ≤ 1000000000 then some (a4 + l0.length + ((l3.map (laws_markTree.S_wt k)).sum : Nat)) else none
set_option maxHeartbeats 16000000 in
set_option maxRecDepth 100000 in
theorem laws_markTree.calls (k : Nat) (P0_ : Nat → Prop) (u0 : Value) (l0 : List Int) (a1 : Bool) (a2 : Int) (P3_ : Nat → Prop) (u3 : Value) (l3 : List S30) (a4 : Int) (r : Int) (w0 w : World) (hB : Below w0.heap.size w0 w) (ho0 : Kd.R (Kd.int .u8) 5 w w0.heap.size P0_ u0 l0) (ho3 : Kd.R k30 30 w w0.heap.size P3_ u3 l3) (h : laws_markTree.f k l0 a1 a2 l3 a4 = some r) :
  Calls Try.prog 33 #[.agg #[u0, .bool a1, .int .i64 a2, u3], .int .i64 a4] w fun e w' => e = .returned (.int .i64 r) ∧ Below w0.heap.size w0 w' ∧ Kept w w' (fun k_ => P0_ k_ ∨ P3_ k_) := by
 have hu := Try.underlying30; unfold laws_markTree.f at h; split at h
 case isFalse => cases h
 case isTrue hh =>
 obtain rfl := Option.some.inj h; clear h; obtain ⟨hd, h0, h1⟩ := hh; obtain ⟨A0, c0, rfl⟩ := Kd.R_slice ho0; obtain ⟨A3, c3, rfl⟩ := Kd.R_slice ho3; have HO0 := Aside0.mk (Kd.R_mono (ok' := fun b => P0_ b ∧ w0.heap.size ≤ b ∧ b < w.heap.size) (Kd.R_bound ho0) (fun _ h => ⟨h.1, h.2.1, h.2.2.1⟩)); have HO3 := Aside0.mk (Kd.R_mono (ok' := fun b => P3_ b ∧ w0.heap.size ≤ b ∧ b < w.heap.size) (Kd.R_bound ho3) (fun _ h => ⟨h.1, h.2.1, h.2.2.1⟩)); have HBB := Aside0.mk hB; have HD := Aside0.mk hd; have H0 := Aside0.mk h0; have H1 := Aside0.mk h1; clear ho0 ho3 hB hd h0 h1
 have CALL := Aside0.mk (show ∀ w1 w2, Below w.heap.size w w1 → Mk w1 w2 (fun b => P0_ b ∧ w0.heap.size ≤ b ∧ b < w.heap.size) → Calls Try.prog 74 #[.slice A3 l3.length c3, .int .i64 (a4 + (l0.length : Int))] w2 (fun e w' => e = .returned (.int .i64 (a4 + l0.length + ((l3.map (laws_markTree.S_wt k)).sum : Nat))) ∧ Below w0.heap.size w0 w' ∧ Kept w w' (fun k_ => P0_ k_ ∨ P3_ k_)) from by
  intro w1 w2 hb m; have m' : Mk w1 w2 (fun b => (P0_ b ∨ P3_ b) ∧ w0.heap.size ≤ b ∧ b < w.heap.size) := m.mono (fun b h => ⟨.inl h.1, h.2⟩); obtain ⟨l', hl, hs, hr⟩ := Mk.R (s := laws_markTree.S_Eqv) m' (fun _ (h : P3_ _ ∧ _) => ⟨.inr h.1, h.2⟩) (Kd.R_below HO3.out hb) (fun z hz ok' hok' d d' hm' hsm' => laws_markTree.S_shape k z ((List.all_eq_true.1 HD.out) z hz) w1 w2 _ ok' _ d d' m' hok' hm' hsm'); have e1 := laws_markTree.S_map_eq (laws_markTree.S_wt k) hl (fun j z z' h h' => ((hs j z z' h h').2 k).1)
  have e2 := laws_markTree.S_all_eq (laws_markTree.S_dp k) hl (fun j z z' h h' => ((hs j z z' h h').2 k).2); have h1 := H1.out; rw [e1] at h1 ⊢; refine (laws_markTree.S_deep k (fun b => P3_ b ∧ w0.heap.size ≤ b ∧ b < w.heap.size) _ _ l' _ w2 hr (e2.symm.trans HD.out) (by have := H0.out; omega) h1).mono ?_; rintro e w' ⟨rfl, m3⟩; have mm := Mk.newer hb (m'.trans (m3.mono (P' := fun b => (P0_ b ∨ P3_ b) ∧ w0.heap.size ≤ b ∧ b < w.heap.size) (fun b h => ⟨.inr h.1, h.2⟩))) (fun _ h => h.2.2); exact ⟨rfl, mm.below HBB.out (fun _ h => h.2.1), mm.kept.mono (fun _ h => h.1)⟩)
 go_enter Try.func33, Try.ntmps33
 go_wp2_with (first
  | ((with_reducible refine gate_dst (N := 2) rfl ?_); refine bx_ 2 #[.slice A0 l0.length c0, .bool a1, .int .i64 a2, .slice A3 l3.length c3] 30 (h := ?_); intro gb1 hg w1 hbox hb; have BK1 := Aside0.mk (hbox); have HG1 := Aside0.mk hg; have HB1 := Aside0.mk hb; clear hb hbox hg; have C1_0 : w1.cell? ⟨gb1, 0, none⟩ = some (.slice A0 l0.length c0) := (blk_cell BK1.out 0).trans rfl)
  | ((with_reducible refine gate_callee (f := 34) rfl ?_); refine gl_ (some 8) Try.func34 #[.slice A0 l0.length c0, .int .i64 a4] (h := ?_); refine (laws_markTree.S_flat _ _ _ l0 a4 w1 (Kd.R_below HO0.out HB1.out) H0.out (by have := H1.out; omega)).mono ?_; rintro e w2 ⟨rfl, m2⟩; refine ⟨_, rfl, ?_⟩; have M2 := Aside0.mk m2; have BK2 := Aside0.mk (blk_kept BK1.out m2.kept (fun h => by have := h.2.2; have := HG1.out; omega)); clear m2; have C2_3 : w2.cell? ⟨gb1, 3, none⟩ = some (.slice A3 l3.length c3) := (blk_cell BK2.out 3).trans rfl)
  | ((with_reducible refine gate_callee (f := 74) rfl ?_); refine gl_ (some 12) Try.func74 #[.slice A3 l3.length c3, .int .i64 (a4 + (l0.length : Int))] (h := ?_); refine (CALL.out w1 w2 HB1.out M2.out).mono ?_; rintro e w3 ⟨rfl, hb3, hk3⟩; refine ⟨_, rfl, ?_⟩; have HB3 := Aside0.mk hb3; have HK3 := Aside0.mk hk3; clear hb3 hk3))
 go_ret; exact ⟨rfl, HB3.out, HK3.out⟩

/-! ### laws_markByteS: function 34 -/
def laws_markByteS.l0 : Nat → List Int → Int → Int → Option (Int × List Int)
 | 0, _, _, _ => none
 | k + 1, x0, x1, x5 => if x5 < (x0.length : Int) then (if 0 ≤ x5 then (laws_markByteS.l0 k (x0.set (x5 : Int).toNat ((x1) % 256)) (wrap64 (x1 + 1)) (wrap64 (x5 + 1))) else (none)) else (some (x1, x0))
def laws_markByteS.f (k : Nat) (l0 : List Int) (a1 : Int) : Option (Int × List Int) := laws_markByteS.l0 k l0 a1 0
set_option maxHeartbeats 8000000 in
set_option maxRecDepth 100000 in
theorem laws_markByteS.calls (k : Nat) (P0_ : Nat → Prop) (u9000_ : Value) (l0 : List Int) (a1 : Int) (r1 : Int) (r2 : List Int) (w0 w : World) (hB : Below w0.heap.size w0 w) (ho0 : Kd.R (Kd.int .u8) 5 w w0.heap.size P0_ u9000_ l0) (h : laws_markByteS.f k l0 a1 = some (r1, r2)) :
  Calls Try.prog 34 #[u9000_, .int .i64 a1] w fun e w' => e = .returned (.int .i64 r1) ∧ Kd.R (Kd.int .u8) 5 w' w0.heap.size (fun k_ => (P0_ k_ ∨ w.heap.size ≤ k_)) u9000_ r2 ∧ Below w0.heap.size w0 w' ∧ Kept w w' (fun k_ => P0_ k_) := by
 have HO0 := Aside0.mk (show Kd.R (Kd.int .u8) 5 w w0.heap.size (fun k_ => (P0_ k_ ∨ w.heap.size ≤ k_)) u9000_ l0 from Kd.R_mono ho0 (fun k_ hk => (.inl hk))); have HK := Aside0.mk (Kept.refl w (fun k_ => P0_ k_)); have HW0 := Aside0.mk hB.size; have HB := Aside0.mk hB; clear hB; have H : (laws_markByteS.l0 k l0 a1 0) = some (r1, r2) := h; clear h; have H' := Aside0.mk H; clear H; go_enter Try.func34, Try.ntmps34; go_wp2
 go_loopg [1, 5] k (fun kq v1 v5 w' => ∃ (x0_1 : List Int) (x1_1 : Int) (x5_1 : Int), v1 = .int .i64 x1_1 ∧ v5 = .int .i64 x5_1 ∧ Aside0 (laws_markByteS.l0 kq x0_1 x1_1 x5_1 = some (r1, r2)) ∧ Aside0 (kq ≤ k) ∧ Aside0 (Kd.R (Kd.int .u8) 5 w' w0.heap.size (fun k_ => (P0_ k_ ∨ w.heap.size ≤ k_)) u9000_ x0_1) ∧ Aside0 (Kept w w' (fun k_ => P0_ k_)) ∧ Aside0 (Below w0.heap.size w0 w'))
 case atStart => exact ⟨(l0), (a1), (0), rs_, rs_, H', ⟨Nat.le_refl _⟩, ⟨rkp HO0⟩, ⟨by repeat (first | (with_reducible first | exact HK.out | apply Kept.alloc | apply Kept.drewN | apply Kept.drew) | exact HK.out)⟩, ⟨bel⟩⟩
 case round =>
  clear H'; try clear p2
  obtain ⟨x0_1, x1_1, x5_1, rfl, rfl, HA, HK1, HO_0, HK, HB⟩ := hrel; cases gk with
  | zero => exact absurd HA.out (by simp [laws_markByteS.l0])
  | succ k1 =>
   have H := HA.out; clear HA; simp only [laws_markByteS.l0] at H; by_cases c3 : x5_1 < (x0_1.length : Int)
   ·rw [if_pos c3] at H
    have c3b0 : decide (x5_1 < (x0_1.length : Int)) = true := decide_eq_true c3; clear c3; by_cases c4 : 0 ≤ x5_1
    ·rw [if_pos c4] at H
     have c4b0 : decide (0 ≤ x5_1) = true := decide_eq_true c4; clear c4; obtain ⟨y142, hy142⟩ : ∃ y_ : List Int, y_ = (x0_1.set (x5_1 : Int).toNat ((x1_1) % 256)) := ⟨_, rfl⟩; replace H : (laws_markByteS.l0 k1 y142 (wrap64 (x1_1 + 1)) (wrap64 (x5_1 + 1))) = some (r1, r2) := by first | (rw [hy142]; with_reducible exact H) | (have H2_ := (Option.bind_some _ _).symm.trans H; rw [hy142]; with_reducible exact H2_) | (have H2_ := (Option.bind_some _ _).symm.trans H; with_reducible exact H2_) | with_reducible exact H | (rw [hy142]; exact H) | exact H
     have Ny142 := Aside0.mk hy142; clear hy142; have H' := Aside0.mk H; clear H; obtain ⟨Ao6, co6, eo6⟩ := Kd.R_slice HO_0.out; subst eo6; have p5 : 0 ≤ (x5_1 : Int) := od; have q5 : (x5_1 : Int) < ((x0_1.length : Int) : Int) := od; obtain ⟨go5, co5, eo5, gb5, gl5, cl5, HG5⟩ := Kd.R_form HO_0.out (by omega); (first | cases eo5 | (injection eo5 with ea_ en_ ec_; (first | subst ea_ | (injection ea_ with ea_; subst ea_)); subst ec_; clear en_)); have GB5 := Aside0.mk gb5; have GG5 := Aside0.mk HG5; clear gb5 gl5 HG5
     have HMgo5 := Aside0.mk (show (P0_ go5 ∨ w.heap.size ≤ go5) from (HO_0.out.1 _ rfl)); obtain ⟨hx5_0, hf5_0⟩ := Kd.R_celln 0 HO_0.out (x5_1 : Int) p5 q5; replace p5 := eq_true p5; replace q5 := eq_true q5; have HP7 := Kd.R_putg HO_0.out (x5_1 : Int) ((x1_1) % 256)
     go_wp2_with (first | ((with_reducible refine gate_store (t := 5) (p := 16) rfl ?_); refine store_event (t := 5) (p := 16) (v := ?vo_w8) (w1 := (wr.setCell ⟨go5, (x5_1 : Int).toNat, none⟩ (.int .u8 ((x1_1) % 256)))) ?hg ?ho ?hn ?hr ?_; (case ho => rfl); (case hg => rfl); (case hn => rfl); (case hr => first | (go_simp; done) | (go_simp; rfl)); intro w8 hw; have hg : wr.grownBy w8 (some go5) := (by rw [hw]; exact HP7.2); have hp_ : Kd.R (Kd.int .u8) 5 w8 w0.heap.size (fun k_ => (P0_ k_ ∨ w.heap.size ≤ k_)) (.slice (some ⟨go5, 0, none⟩) x0_1.length co6) y142 := (by rw [hw, Ny142.out]; exact HP7.1); clear HP7; replace HB := Aside0.mk ((by rw [hw]; exact below_set (HB.out) GB5.out : Below w0.heap.size w0 w8)); replace HK := Aside0.mk (Kept.of_grown (S := (fun k_ => P0_ k_)) hg (by repeat (first | (with_reducible first | exact HK.out | apply Kept.alloc | apply Kept.drewN | apply Kept.drew) | exact HK.out)) (fun k_ e_ => (HO_0.out.1 k_ e_))); replace HO_0 := Aside0.mk (hp_); clear hg hw hp_))
     go_roundg k1
     case measure => have := HK1.out; omega
     case rel => exact ⟨(y142), (wrap64 (x1_1 + 1)), (wrap64 (x5_1 + 1)), rs_, rs_, H', ⟨by have := HK1.out; omega⟩, ⟨rkp HO_0⟩, ⟨by repeat (first | (with_reducible first | exact HK.out | apply Kept.alloc | apply Kept.drewN | apply Kept.drew) | exact HK.out)⟩, ⟨bel⟩⟩
    rw [if_neg c4] at H; exact absurd H (by simp)
   rw [if_neg c3] at H; have c3b0 : decide (x5_1 < (x0_1.length : Int)) = false := decide_eq_false c3; clear c3; simp only [Option.some.injEq, Prod.mk.injEq] at H; obtain ⟨rfl, rfl⟩ := H; obtain ⟨Ao9, co9, eo9⟩ := Kd.R_slice HO_0.out; subst eo9; go_wp2; go_ret
   exact ⟨rz_, by (with_reducible repeat (first | apply Kd.R_alloc | apply Kd.R_drewN | apply Kd.R_drew)); exact HO_0.out, by repeat (first | (with_reducible first | exact HB.out | apply below_alloc | apply pw_below_drewN | apply below_drew1) | exact HB.out), by repeat (first | (with_reducible first | exact HK.out | apply Kept.alloc | apply Kept.drewN | apply Kept.drew) | exact HK.out)⟩

end Go.Proofs.Ytoaddpfoecggpaa.PW
