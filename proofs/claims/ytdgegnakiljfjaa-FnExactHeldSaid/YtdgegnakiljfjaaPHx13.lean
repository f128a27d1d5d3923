-- Written for this claim by the session's program pp.py, out of the kit's print and the seat's translation.
import Derived.Test.YtdgegnakiljfjaaPHx0
import Derived.Test.YtdgegnakiljfjaaPHx1
import Derived.Test.YtdgegnakiljfjaaPHx2
import Derived.Test.YtdgegnakiljfjaaPHx4
import Derived.Test.YtdgegnakiljfjaaPHx7
import Derived.Test.YtdgegnakiljfjaaPHx10
import Derived.Test.YtdgegnakiljfjaaPHx11
import Derived.Test.YtdgegnakiljfjaaPHx12
namespace Go.Proofs.Ytdgegnakiljfjaa.PH
open Go.RowKit Go.Proofs.YtdgegnakiljfjaaW.PrintWords Go.Proofs.YtdgegnakiljfjaaW.PrintLast Go.Proofs.YtdgegnakiljfjaaW.PrintMore
attribute [local go_sem] max2_int min2_int max_two min_two max_three min_three max_four min_four   -- for this text's walks alone
set_option linter.unusedVariables false
set_option linter.unusedSimpArgs false

/-! ### laws_FnExactHeld: function 10 -/
def laws_FnExactHeld.j0 : Nat → Int → List (List Int) → List (List Int) → Bool → Int → List (S174) → List (S176) → Int → List (S180) → List (S184) → Option (Bool)
 | 0, _, _, _, _, _, _, _, _, _, _ => none
 | k + 1, x1, x6, x8, x46, x346000, x346001, x346002, x346003, x346004, x346005 => if x46 = true then (some false) else ((laws_markByteSS1.f k x8 1).bind fun t396 => ((laws_heldByteSSm.f k x8 1).bind fun t397 => (if t397 < 0 then (some false) else (if t397 = t396 then ((laws_toState.f k x346000 x346001 x346002 x346003 x346004 x346005).bind fun bt398 => ((impl_Held.f k bt398.1 bt398.2.1 bt398.2.2.1 bt398.2.2.2.1 bt398.2.2.2.2.1 bt398.2.2.2.2.2 x1).bind fun t412 => ((laws_eqByteSS.f k t412 x6).bind fun t413 => (if t413 = true then ((laws_heldByteSSm.f k x8 1).bind fun t414 => (if t414 < 0 then (some false) else (if t414 = t396 then (some true) else (some false)))) else (some false))))) else (some false)))))
def laws_FnExactHeld.f (k : Nat) (a0_0 : Int) (l0_1 : List (S174)) (l0_2 : List (S176)) (a0_3 : Int) (l0_4 : List (S180)) (l0_5 : List (S184)) (a1 : Int) : Option (Bool) := (laws_szState.f k a0_0 l0_1 l0_2 a0_3 l0_4 l0_5 1048576).bind fun t346 => (if t346 < 0 then (some true) else ((laws_toState.f k a0_0 l0_1 l0_2 a0_3 l0_4 l0_5).bind fun bt347 => ((spec_Held.f k bt347.1 bt347.2.1 bt347.2.2.1 bt347.2.2.2.1 bt347.2.2.2.2.1 bt347.2.2.2.2.2 a1).bind fun t361 => ((laws_toState.f k a0_0 l0_1 l0_2 a0_3 l0_4 l0_5).bind fun bt362 => ((impl_Held.f k bt362.1 bt362.2.1 bt362.2.2.1 bt362.2.2.2.1 bt362.2.2.2.2.1 bt362.2.2.2.2.2 a1).bind fun t377 => ((laws_eqByteSS.f k t377 t361).bind fun t378 => (if t378 = true then ((laws_toState.f k a0_0 l0_1 l0_2 a0_3 l0_4 l0_5).bind fun bt379 => ((laws_eqState.f k bt362.1 bt362.2.1 bt362.2.2.1 bt362.2.2.2.1 bt362.2.2.2.2.1 bt362.2.2.2.2.2 bt379.1 bt379.2.1 bt379.2.2.1 bt379.2.2.2.1 bt379.2.2.2.2.1 bt379.2.2.2.2.2).bind fun t393 => (if t393 = true then ((laws_markState.f bt362.1 bt362.2.1 bt362.2.2.1 bt362.2.2.2.1 bt362.2.2.2.2.1 bt362.2.2.2.2.2 1).bind fun t394 => (if t394 < 0 then (laws_FnExactHeld.j0 k a1 t361 t377 true a0_0 l0_1 l0_2 a0_3 l0_4 l0_5) else ((laws_eqByteSS.f k t377 t361).bind fun t395 => (laws_FnExactHeld.j0 k a1 t361 t377 (!t395) a0_0 l0_1 l0_2 a0_3 l0_4 l0_5)))) else (some false)))) else (some false))))))))
set_option maxHeartbeats 8000000 in
set_option maxRecDepth 100000 in
theorem laws_FnExactHeld.calls (k : Nat) (a0_0 : Int) (A0_1 : Option Addr) (c0_1 : Nat) (l0_1 : List (S174)) (A0_2 : Option Addr) (c0_2 : Nat) (l0_2 : List (S176)) (a0_3 : Int) (A0_4 : Option Addr) (c0_4 : Nat) (l0_4 : List (S180)) (A0_5 : Option Addr) (c0_5 : Nat) (l0_5 : List (S184)) (a1 : Int) (w : World) (hr0_1 : Kd.C k174 w A0_1 l0_1.length l0_1) (hc0_1 : l0_1.length ≤ c0_1) (hr0_2 : Kd.C k176 w A0_2 l0_2.length l0_2) (hc0_2 : l0_2.length ≤ c0_2) (hr0_4 : Kd.C k180 w A0_4 l0_4.length l0_4) (hc0_4 : l0_4.length ≤ c0_4) (hr0_5 : Kd.C k184 w A0_5 l0_5.length l0_5) (hc0_5 : l0_5.length ≤ c0_5) (h : laws_FnExactHeld.f k a0_0 l0_1 l0_2 a0_3 l0_4 l0_5 a1 = some true) :
  Calls Try.prog 10 #[.agg #[.int .i64 a0_0, .slice A0_1 l0_1.length c0_1, .slice A0_2 l0_2.length c0_2, .int .i64 a0_3, .slice A0_4 l0_4.length c0_4, .slice A0_5 l0_5.length c0_5], .int .i64 a1] w fun e w' => e = .returned (.bool true) ∧ Below w.heap.size w w' := by
 have hu27 := Try.underlying27
 have hu35 := Try.underlying35
 have HR0_1 := Aside0.mk hr0_1
 have HC0_1 := Aside0.mk hc0_1
 clear hr0_1 hc0_1
 have HR0_2 := Aside0.mk hr0_2
 have HC0_2 := Aside0.mk hc0_2
 clear hr0_2 hc0_2
 have HR0_4 := Aside0.mk hr0_4
 have HC0_4 := Aside0.mk hc0_4
 clear hr0_4 hc0_4
 have HR0_5 := Aside0.mk hr0_5
 have HC0_5 := Aside0.mk hc0_5
 clear hr0_5 hc0_5
 have HB := Aside0.mk (Below.refl w.heap.size w)
 have H : ((laws_szState.f k a0_0 l0_1 l0_2 a0_3 l0_4 l0_5 1048576).bind fun t346 => (if t346 < 0 then (some true) else ((laws_toState.f k a0_0 l0_1 l0_2 a0_3 l0_4 l0_5).bind fun bt347 => ((spec_Held.f k bt347.1 bt347.2.1 bt347.2.2.1 bt347.2.2.2.1 bt347.2.2.2.2.1 bt347.2.2.2.2.2 a1).bind fun t361 => ((laws_toState.f k a0_0 l0_1 l0_2 a0_3 l0_4 l0_5).bind fun bt362 => ((impl_Held.f k bt362.1 bt362.2.1 bt362.2.2.1 bt362.2.2.2.1 bt362.2.2.2.2.1 bt362.2.2.2.2.2 a1).bind fun t377 => ((laws_eqByteSS.f k t377 t361).bind fun t378 => (if t378 = true then ((laws_toState.f k a0_0 l0_1 l0_2 a0_3 l0_4 l0_5).bind fun bt379 => ((laws_eqState.f k bt362.1 bt362.2.1 bt362.2.2.1 bt362.2.2.2.1 bt362.2.2.2.2.1 bt362.2.2.2.2.2 bt379.1 bt379.2.1 bt379.2.2.1 bt379.2.2.2.1 bt379.2.2.2.2.1 bt379.2.2.2.2.2).bind fun t393 => (if t393 = true then ((laws_markState.f bt362.1 bt362.2.1 bt362.2.2.1 bt362.2.2.2.1 bt362.2.2.2.2.1 bt362.2.2.2.2.2 1).bind fun t394 => (if t394 < 0 then (laws_FnExactHeld.j0 k a1 t361 t377 true a0_0 l0_1 l0_2 a0_3 l0_4 l0_5) else ((laws_eqByteSS.f k t377 t361).bind fun t395 => (laws_FnExactHeld.j0 k a1 t361 t377 (!t395) a0_0 l0_1 l0_2 a0_3 l0_4 l0_5)))) else (some false)))) else (some false))))))))) = some true := h
 clear h
 replace H := Option.bind_eq_some_iff.mp H
 obtain ⟨t346, A30, H⟩ := H
 replace H : (if t346 < 0 then (some true) else ((laws_toState.f k a0_0 l0_1 l0_2 a0_3 l0_4 l0_5).bind fun bt347 => ((spec_Held.f k bt347.1 bt347.2.1 bt347.2.2.1 bt347.2.2.2.1 bt347.2.2.2.2.1 bt347.2.2.2.2.2 a1).bind fun t361 => ((laws_toState.f k a0_0 l0_1 l0_2 a0_3 l0_4 l0_5).bind fun bt362 => ((impl_Held.f k bt362.1 bt362.2.1 bt362.2.2.1 bt362.2.2.2.1 bt362.2.2.2.2.1 bt362.2.2.2.2.2 a1).bind fun t377 => ((laws_eqByteSS.f k t377 t361).bind fun t378 => (if t378 = true then ((laws_toState.f k a0_0 l0_1 l0_2 a0_3 l0_4 l0_5).bind fun bt379 => ((laws_eqState.f k bt362.1 bt362.2.1 bt362.2.2.1 bt362.2.2.2.1 bt362.2.2.2.2.1 bt362.2.2.2.2.2 bt379.1 bt379.2.1 bt379.2.2.1 bt379.2.2.2.1 bt379.2.2.2.2.1 bt379.2.2.2.2.2).bind fun t393 => (if t393 = true then ((laws_markState.f bt362.1 bt362.2.1 bt362.2.2.1 bt362.2.2.2.1 bt362.2.2.2.2.1 bt362.2.2.2.2.2 1).bind fun t394 => (if t394 < 0 then (laws_FnExactHeld.j0 k a1 t361 t377 true a0_0 l0_1 l0_2 a0_3 l0_4 l0_5) else ((laws_eqByteSS.f k t377 t361).bind fun t395 => (laws_FnExactHeld.j0 k a1 t361 t377 (!t395) a0_0 l0_1 l0_2 a0_3 l0_4 l0_5)))) else (some false)))) else (some false)))))))) = some true := H
 have A3 := Aside0.mk A30
 clear A30
 by_cases c4 : t346 < 0
 ·rw [if_pos c4] at H
  have c4b0 : decide (t346 < 0) = true := decide_eq_true c4
  clear c4
  clear H
  go_enter Try.func10, Try.ntmps10
  go_wp2_with (first | ((with_reducible refine gate_dst (N := 2) rfl ?_); refine bx_ 2 #[.int .i64 a0_0, .slice A0_1 l0_1.length c0_1, .slice A0_2 l0_2.length c0_2, .int .i64 a0_3, .slice A0_4 l0_4.length c0_4, .slice A0_5 l0_5.length c0_5] 27 (h := ?_); intro gb345 hg w5 hbox hb; have BK345 := Aside0.mk (hbox); have GW345 := Aside0.mk ((by rw [hg]; exact (below_size bel) : w.heap.size ≤ gb345)); have GE345 := GW345; replace HB := bst hb; clear hb hbox hg; obtain ⟨C6_0, C6_1, C6_2, C6_3, C6_4, C6_5, -⟩ := cells_6 BK345.out trivial; obtain ⟨F6_0, F6_1, F6_2, F6_3, F6_4, F6_5, -⟩ := frz_6 BK345.out) | ((with_reducible refine gate_callee (f := 15) rfl ?_); refine gl_ (some 15) Try.func15 #[.agg #[.int .i64 a0_0, .slice A0_1 l0_1.length c0_1, .slice A0_2 l0_2.length c0_2, .int .i64 a0_3, .slice A0_4 l0_4.length c0_4, .slice A0_5 l0_5.length c0_5], .int .i64 1048576] (h := ?_); (with_reducible refine (laws_szState.calls k a0_0 _ _ l0_1 _ _ l0_2 a0_3 _ _ l0_4 _ _ l0_5 1048576 t346 _ ?side1 ?side2 ?side3 ?side4 ?side5 ?side6 ?side7 ?side8 A3.out).mono ?_); (case side1 => exact kcb); (case side2 => exact HC0_1.out); (case side3 => exact kcb); (case side4 => exact HC0_2.out); (case side5 => exact kcb); (case side6 => exact HC0_4.out); (case side7 => exact kcb); (case side8 => exact HC0_5.out); rintro e w7 ⟨rfl, hb⟩; refine ⟨_, rfl, ?_⟩; replace BK345 := Aside0.mk (blb BK345 hb); replace HB := bst hb; (try clear hb); (try clear hb2); (try clear hk); (try clear hi)))
  go_ret
  exact ⟨rz_, bel⟩
 rw [if_neg c4] at H
 have c4b0 : decide (t346 < 0) = false := decide_eq_false c4
 clear c4
 replace H := Option.bind_eq_some_iff.mp H
 obtain ⟨⟨t347, t348, t351, t354, t355, t358⟩, A80, H⟩ := H
 replace H : ((spec_Held.f k t347 t348 t351 t354 t355 t358 a1).bind fun t361 => ((laws_toState.f k a0_0 l0_1 l0_2 a0_3 l0_4 l0_5).bind fun bt362 => ((impl_Held.f k bt362.1 bt362.2.1 bt362.2.2.1 bt362.2.2.2.1 bt362.2.2.2.2.1 bt362.2.2.2.2.2 a1).bind fun t377 => ((laws_eqByteSS.f k t377 t361).bind fun t378 => (if t378 = true then ((laws_toState.f k a0_0 l0_1 l0_2 a0_3 l0_4 l0_5).bind fun bt379 => ((laws_eqState.f k bt362.1 bt362.2.1 bt362.2.2.1 bt362.2.2.2.1 bt362.2.2.2.2.1 bt362.2.2.2.2.2 bt379.1 bt379.2.1 bt379.2.2.1 bt379.2.2.2.1 bt379.2.2.2.2.1 bt379.2.2.2.2.2).bind fun t393 => (if t393 = true then ((laws_markState.f bt362.1 bt362.2.1 bt362.2.2.1 bt362.2.2.2.1 bt362.2.2.2.2.1 bt362.2.2.2.2.2 1).bind fun t394 => (if t394 < 0 then (laws_FnExactHeld.j0 k a1 t361 t377 true a0_0 l0_1 l0_2 a0_3 l0_4 l0_5) else ((laws_eqByteSS.f k t377 t361).bind fun t395 => (laws_FnExactHeld.j0 k a1 t361 t377 (!t395) a0_0 l0_1 l0_2 a0_3 l0_4 l0_5)))) else (some false)))) else (some false)))))) = some true := H
 have A8 := Aside0.mk A80
 clear A80
 replace H := Option.bind_eq_some_iff.mp H
 obtain ⟨t361, A90, H⟩ := H
 replace H : ((laws_toState.f k a0_0 l0_1 l0_2 a0_3 l0_4 l0_5).bind fun bt362 => ((impl_Held.f k bt362.1 bt362.2.1 bt362.2.2.1 bt362.2.2.2.1 bt362.2.2.2.2.1 bt362.2.2.2.2.2 a1).bind fun t377 => ((laws_eqByteSS.f k t377 t361).bind fun t378 => (if t378 = true then ((laws_toState.f k a0_0 l0_1 l0_2 a0_3 l0_4 l0_5).bind fun bt379 => ((laws_eqState.f k bt362.1 bt362.2.1 bt362.2.2.1 bt362.2.2.2.1 bt362.2.2.2.2.1 bt362.2.2.2.2.2 bt379.1 bt379.2.1 bt379.2.2.1 bt379.2.2.2.1 bt379.2.2.2.2.1 bt379.2.2.2.2.2).bind fun t393 => (if t393 = true then ((laws_markState.f bt362.1 bt362.2.1 bt362.2.2.1 bt362.2.2.2.1 bt362.2.2.2.2.1 bt362.2.2.2.2.2 1).bind fun t394 => (if t394 < 0 then (laws_FnExactHeld.j0 k a1 t361 t377 true a0_0 l0_1 l0_2 a0_3 l0_4 l0_5) else ((laws_eqByteSS.f k t377 t361).bind fun t395 => (laws_FnExactHeld.j0 k a1 t361 t377 (!t395) a0_0 l0_1 l0_2 a0_3 l0_4 l0_5)))) else (some false)))) else (some false))))) = some true := H
 have A9 := Aside0.mk A90
 clear A90
 replace H := Option.bind_eq_some_iff.mp H
 obtain ⟨⟨t362, t363, t366, t369, t370, t373⟩, A100, H⟩ := H
 replace H : ((impl_Held.f k t362 t363 t366 t369 t370 t373 a1).bind fun t377 => ((laws_eqByteSS.f k t377 t361).bind fun t378 => (if t378 = true then ((laws_toState.f k a0_0 l0_1 l0_2 a0_3 l0_4 l0_5).bind fun bt379 => ((laws_eqState.f k t362 t363 t366 t369 t370 t373 bt379.1 bt379.2.1 bt379.2.2.1 bt379.2.2.2.1 bt379.2.2.2.2.1 bt379.2.2.2.2.2).bind fun t393 => (if t393 = true then ((laws_markState.f t362 t363 t366 t369 t370 t373 1).bind fun t394 => (if t394 < 0 then (laws_FnExactHeld.j0 k a1 t361 t377 true a0_0 l0_1 l0_2 a0_3 l0_4 l0_5) else ((laws_eqByteSS.f k t377 t361).bind fun t395 => (laws_FnExactHeld.j0 k a1 t361 t377 (!t395) a0_0 l0_1 l0_2 a0_3 l0_4 l0_5)))) else (some false)))) else (some false)))) = some true := H
 have A10 := Aside0.mk A100
 clear A100
 replace H := Option.bind_eq_some_iff.mp H
 obtain ⟨t377, A110, H⟩ := H
 replace H : ((laws_eqByteSS.f k t377 t361).bind fun t378 => (if t378 = true then ((laws_toState.f k a0_0 l0_1 l0_2 a0_3 l0_4 l0_5).bind fun bt379 => ((laws_eqState.f k t362 t363 t366 t369 t370 t373 bt379.1 bt379.2.1 bt379.2.2.1 bt379.2.2.2.1 bt379.2.2.2.2.1 bt379.2.2.2.2.2).bind fun t393 => (if t393 = true then ((laws_markState.f t362 t363 t366 t369 t370 t373 1).bind fun t394 => (if t394 < 0 then (laws_FnExactHeld.j0 k a1 t361 t377 true a0_0 l0_1 l0_2 a0_3 l0_4 l0_5) else ((laws_eqByteSS.f k t377 t361).bind fun t395 => (laws_FnExactHeld.j0 k a1 t361 t377 (!t395) a0_0 l0_1 l0_2 a0_3 l0_4 l0_5)))) else (some false)))) else (some false))) = some true := H
 have A11 := Aside0.mk A110
 clear A110
 replace H := Option.bind_eq_some_iff.mp H
 obtain ⟨t378, A120, H⟩ := H
 replace H : (if t378 = true then ((laws_toState.f k a0_0 l0_1 l0_2 a0_3 l0_4 l0_5).bind fun bt379 => ((laws_eqState.f k t362 t363 t366 t369 t370 t373 bt379.1 bt379.2.1 bt379.2.2.1 bt379.2.2.2.1 bt379.2.2.2.2.1 bt379.2.2.2.2.2).bind fun t393 => (if t393 = true then ((laws_markState.f t362 t363 t366 t369 t370 t373 1).bind fun t394 => (if t394 < 0 then (laws_FnExactHeld.j0 k a1 t361 t377 true a0_0 l0_1 l0_2 a0_3 l0_4 l0_5) else ((laws_eqByteSS.f k t377 t361).bind fun t395 => (laws_FnExactHeld.j0 k a1 t361 t377 (!t395) a0_0 l0_1 l0_2 a0_3 l0_4 l0_5)))) else (some false)))) else (some false)) = some true := H
 have A12 := Aside0.mk A120
 clear A120
 by_cases c13 : t378 = true
 ·subst c13
  have H1 : ((laws_toState.f k a0_0 l0_1 l0_2 a0_3 l0_4 l0_5).bind fun bt379 => ((laws_eqState.f k t362 t363 t366 t369 t370 t373 bt379.1 bt379.2.1 bt379.2.2.1 bt379.2.2.2.1 bt379.2.2.2.2.1 bt379.2.2.2.2.2).bind fun t393 => (if t393 = true then ((laws_markState.f t362 t363 t366 t369 t370 t373 1).bind fun t394 => (if t394 < 0 then (laws_FnExactHeld.j0 k a1 t361 t377 true a0_0 l0_1 l0_2 a0_3 l0_4 l0_5) else ((laws_eqByteSS.f k t377 t361).bind fun t395 => (laws_FnExactHeld.j0 k a1 t361 t377 (!t395) a0_0 l0_1 l0_2 a0_3 l0_4 l0_5)))) else (some false)))) = some true := by rw [if_pos rfl] at H; exact H
  clear H
  have H := H1
  clear H1
  replace H := Option.bind_eq_some_iff.mp H
  obtain ⟨⟨t379, t380, t383, t386, t387, t390⟩, A140, H⟩ := H
  replace H : ((laws_eqState.f k t362 t363 t366 t369 t370 t373 t379 t380 t383 t386 t387 t390).bind fun t393 => (if t393 = true then ((laws_markState.f t362 t363 t366 t369 t370 t373 1).bind fun t394 => (if t394 < 0 then (laws_FnExactHeld.j0 k a1 t361 t377 true a0_0 l0_1 l0_2 a0_3 l0_4 l0_5) else ((laws_eqByteSS.f k t377 t361).bind fun t395 => (laws_FnExactHeld.j0 k a1 t361 t377 (!t395) a0_0 l0_1 l0_2 a0_3 l0_4 l0_5)))) else (some false))) = some true := H
  have A14 := Aside0.mk A140
  clear A140
  replace H := Option.bind_eq_some_iff.mp H
  obtain ⟨t393, A150, H⟩ := H
  replace H : (if t393 = true then ((laws_markState.f t362 t363 t366 t369 t370 t373 1).bind fun t394 => (if t394 < 0 then (laws_FnExactHeld.j0 k a1 t361 t377 true a0_0 l0_1 l0_2 a0_3 l0_4 l0_5) else ((laws_eqByteSS.f k t377 t361).bind fun t395 => (laws_FnExactHeld.j0 k a1 t361 t377 (!t395) a0_0 l0_1 l0_2 a0_3 l0_4 l0_5)))) else (some false)) = some true := H
  have A15 := Aside0.mk A150
  clear A150
  by_cases c16 : t393 = true
  ·subst c16
   have H1 : ((laws_markState.f t362 t363 t366 t369 t370 t373 1).bind fun t394 => (if t394 < 0 then (laws_FnExactHeld.j0 k a1 t361 t377 true a0_0 l0_1 l0_2 a0_3 l0_4 l0_5) else ((laws_eqByteSS.f k t377 t361).bind fun t395 => (laws_FnExactHeld.j0 k a1 t361 t377 (!t395) a0_0 l0_1 l0_2 a0_3 l0_4 l0_5)))) = some true := by rw [if_pos rfl] at H; exact H
   clear H
   have H := H1
   clear H1
   replace H := Option.bind_eq_some_iff.mp H
   obtain ⟨t394, A170, H⟩ := H
   replace H : (if t394 < 0 then (laws_FnExactHeld.j0 k a1 t361 t377 true a0_0 l0_1 l0_2 a0_3 l0_4 l0_5) else ((laws_eqByteSS.f k t377 t361).bind fun t395 => (laws_FnExactHeld.j0 k a1 t361 t377 (!t395) a0_0 l0_1 l0_2 a0_3 l0_4 l0_5))) = some true := H
   have A17 := Aside0.mk A170
   clear A170
   have HC18 := Aside0.mk H
   clear H
   go_enter Try.func10, Try.ntmps10
   try go_wp2_with (first | ((with_reducible refine gate_dst (N := 2) rfl ?_); refine bx_ 2 #[.int .i64 a0_0, .slice A0_1 l0_1.length c0_1, .slice A0_2 l0_2.length c0_2, .int .i64 a0_3, .slice A0_4 l0_4.length c0_4, .slice A0_5 l0_5.length c0_5] 27 (h := ?_); intro gb345 hg w19 hbox hb; have BK345 := Aside0.mk (hbox); have GW345 := Aside0.mk ((by rw [hg]; exact (below_size bel) : w.heap.size ≤ gb345)); have GE345 := GW345; replace HB := bst hb; clear hb hbox hg; obtain ⟨C20_0, C20_1, C20_2, C20_3, C20_4, C20_5, -⟩ := cells_6 BK345.out trivial; obtain ⟨F20_0, F20_1, F20_2, F20_3, F20_4, F20_5, -⟩ := frz_6 BK345.out) | ((with_reducible refine gate_callee (f := 15) rfl ?_); refine gl_ (some 15) Try.func15 #[.agg #[.int .i64 a0_0, .slice A0_1 l0_1.length c0_1, .slice A0_2 l0_2.length c0_2, .int .i64 a0_3, .slice A0_4 l0_4.length c0_4, .slice A0_5 l0_5.length c0_5], .int .i64 1048576] (h := ?_); (with_reducible refine (laws_szState.calls k a0_0 _ _ l0_1 _ _ l0_2 a0_3 _ _ l0_4 _ _ l0_5 1048576 t346 _ ?side1 ?side2 ?side3 ?side4 ?side5 ?side6 ?side7 ?side8 A3.out).mono ?_); (case side1 => exact kcb); (case side2 => exact HC0_1.out); (case side3 => exact kcb); (case side4 => exact HC0_2.out); (case side5 => exact kcb); (case side6 => exact HC0_4.out); (case side7 => exact kcb); (case side8 => exact HC0_5.out); rintro e w21 ⟨rfl, hb⟩; refine ⟨_, rfl, ?_⟩; replace BK345 := Aside0.mk (blb BK345 hb); replace HB := bst hb; (try clear hb); (try clear hb2); (try clear hk); (try clear hi); obtain ⟨C22_0, C22_1, C22_2, C22_3, C22_4, C22_5, -⟩ := cells_6 BK345.out trivial; obtain ⟨F22_0, F22_1, F22_2, F22_3, F22_4, F22_5, -⟩ := frz_6 BK345.out) | ((with_reducible refine gate_callee (f := 17) rfl ?_); refine gl_ (some 19) Try.func17 #[.agg #[.int .i64 a0_0, .slice A0_1 l0_1.length c0_1, .slice A0_2 l0_2.length c0_2, .int .i64 a0_3, .slice A0_4 l0_4.length c0_4, .slice A0_5 l0_5.length c0_5]] (h := ?_); (with_reducible refine (laws_toState.calls k a0_0 _ _ l0_1 _ _ l0_2 a0_3 _ _ l0_4 _ _ l0_5 t347 t348 t351 t354 t355 t358 _ ?side1 ?side2 ?side3 ?side4 ?side5 ?side6 ?side7 ?side8 A8.out).mono ?_); (case side1 => exact kcb); (case side2 => exact HC0_1.out); (case side3 => exact kcb); (case side4 => exact HC0_2.out); (case side5 => exact kcb); (case side6 => exact HC0_4.out); (case side7 => exact kcb); (case side8 => exact HC0_5.out); rintro e w23 ⟨v349, v352, v356, v359, rfl, ho0, ho1, ho2, ho3, hb⟩; refine ⟨_, rfl, ?_⟩; have HO350 := Aside0.mk (Kd.S_lower ho0 (below_size bel)); have HO353 := Aside0.mk (Kd.S_lower ho1 (below_size bel)); have HO357 := Aside0.mk (Kd.R_lower ho2 (below_size bel)); have HO360 := Aside0.mk (Kd.R_lower ho3 (below_size bel)); replace BK345 := Aside0.mk (blb BK345 hb); replace HB := bst hb; (try clear hb); (try clear hb2); (try clear hk); (try clear hi); (try clear ho0); (try clear ho1); (try clear ho2); (try clear ho3); obtain ⟨Ao24, co24, eo24⟩ := Kd.S_slice HO350.out; subst eo24; obtain ⟨Ao25, co25, eo25⟩ := Kd.S_slice HO353.out; subst eo25; obtain ⟨Ao26, co26, eo26⟩ := Kd.R_slice HO357.out; subst eo26; obtain ⟨Ao27, co27, eo27⟩ := Kd.R_slice HO360.out; subst eo27) | ((with_reducible refine gate_callee (f := 54) rfl ?_); refine gl_ (some 21) Try.func54 #[.agg #[.int .i64 t347, .slice Ao24 t348.length co24, .slice Ao25 t351.length co25, .int .i64 t354, .slice Ao26 t355.length co26, .slice Ao27 t358.length co27], .int .i64 a1] (h := ?_); (with_reducible refine (spec_Held.calls k t347 _ _ t348 _ _ t351 t354 _ _ t355 _ _ t358 a1 t361 _ ?side1 ?side2 ?side3 ?side4 ?side5 ?side6 ?side7 ?side8 A9.out).mono ?_); (case side1 => repeat (first | exact (Kd.S_reads' HO350.out).2.2 | (with_reducible refine Kd.C_alloc ?_ _) | (with_reducible refine Kd.C_drewN ?_ _) | (with_reducible refine Kd.C_drew ?_))); (case side2 => exact (Kd.S_reads' HO350.out).2.1); (case side3 => repeat (first | exact (Kd.S_reads' HO353.out).2.2 | (with_reducible refine Kd.C_alloc ?_ _) | (with_reducible refine Kd.C_drewN ?_ _) | (with_reducible refine Kd.C_drew ?_))); (case side4 => exact (Kd.S_reads' HO353.out).2.1); (case side5 => repeat (first | exact (Kd.R_reads' HO357.out).2.2 | (with_reducible refine Kd.C_alloc ?_ _) | (with_reducible refine Kd.C_drewN ?_ _) | (with_reducible refine Kd.C_drew ?_))); (case side6 => exact (Kd.R_reads' HO357.out).2.1); (case side7 => repeat (first | exact (Kd.R_reads' HO360.out).2.2 | (with_reducible refine Kd.C_alloc ?_ _) | (with_reducible refine Kd.C_drewN ?_ _) | (with_reducible refine Kd.C_drew ?_))); (case side8 => exact (Kd.R_reads' HO360.out).2.1); rintro e w28 ⟨vW, rfl, hoW, hb⟩; refine ⟨_, rfl, ?_⟩; have HRW := Aside0.mk (Kd.S_mono (ok' := fun k_ => k_ < w28.heap.size) (Kd.S_lower (Kd.S_bound hoW) (below_size bel)) (fun _ h_ => h_.2.2.1)); clear hoW; obtain ⟨AoW, coW, eoW⟩ := Kd.S_slice HRW.out; subst eoW; replace HO350 := Aside0.mk (Kd.S_below (skp HO350) hb); replace HO353 := Aside0.mk (Kd.S_below (skp HO353) hb); replace HO357 := Aside0.mk (rbl HO357 hb); replace HO360 := Aside0.mk (rbl HO360 hb); replace BK345 := Aside0.mk (blb BK345 hb); have GLT := Aside0.mk (show gb345 < w28.heap.size from blk_lt BK345.out); replace HB := bst hb; (try clear hb); (try clear hb2); (try clear hk); (try clear hi); obtain ⟨C29_0, C29_1, C29_2, C29_3, C29_4, C29_5, -⟩ := cells_6 BK345.out trivial; obtain ⟨F29_0, F29_1, F29_2, F29_3, F29_4, F29_5, -⟩ := frz_6 BK345.out) | ((with_reducible refine gate_callee (f := 17) rfl ?_); refine gl_ (some 23) Try.func17 #[.agg #[.int .i64 a0_0, .slice A0_1 l0_1.length c0_1, .slice A0_2 l0_2.length c0_2, .int .i64 a0_3, .slice A0_4 l0_4.length c0_4, .slice A0_5 l0_5.length c0_5]] (h := ?_); (with_reducible refine (laws_toState.calls k a0_0 _ _ l0_1 _ _ l0_2 a0_3 _ _ l0_4 _ _ l0_5 t362 t363 t366 t369 t370 t373 _ ?side1 ?side2 ?side3 ?side4 ?side5 ?side6 ?side7 ?side8 A10.out).mono ?_); (case side1 => exact kcb); (case side2 => exact HC0_1.out); (case side3 => exact kcb); (case side4 => exact HC0_2.out); (case side5 => exact kcb); (case side6 => exact HC0_4.out); (case side7 => exact kcb); (case side8 => exact HC0_5.out); rintro e w30 ⟨v364, v367, v371, v374, rfl, ho0, ho1, ho2, ho3, hb⟩; refine ⟨_, rfl, ?_⟩; have HSZ12 := Aside0.mk (show w28.heap.size ≤ w30.heap.size from hb.size); replace HRW := Aside0.mk (Kd.S_below (skp HRW) hb); have HX0 := Aside0.mk (Kd.S_mono (ok' := fun k_ => w28.heap.size ≤ k_ ∧ k_ < w30.heap.size) (Kd.S_lower (Kd.S_bound ho0) (below_size bel)) (fun _ h_ => ⟨h_.2.1, h_.2.2.1⟩)); have HX1 := Aside0.mk (Kd.S_mono (ok' := fun k_ => w28.heap.size ≤ k_ ∧ k_ < w30.heap.size) (Kd.S_lower (Kd.S_bound ho1) (below_size bel)) (fun _ h_ => ⟨h_.2.1, h_.2.2.1⟩)); have HX2 := Aside0.mk (Kd.R_mono (ok' := fun k_ => w28.heap.size ≤ k_ ∧ k_ < w30.heap.size) (Kd.R_lower (Kd.R_bound ho2) (below_size bel)) (fun _ h_ => ⟨h_.2.1, h_.2.2.1⟩)); have HX3 := Aside0.mk (Kd.R_mono (ok' := fun k_ => w28.heap.size ≤ k_ ∧ k_ < w30.heap.size) (Kd.R_lower (Kd.R_bound ho3) (below_size bel)) (fun _ h_ => ⟨h_.2.1, h_.2.2.1⟩)); have HO365 := Aside0.mk (Kd.S_lower (Kd.S_new' ho0 (Kd.S_lt (skp HO350))) (below_size bel)); have HO368 := Aside0.mk (Kd.S_lower (Kd.S_new' ho1 (Kd.S_lt (skp HO353))) (below_size bel)); have HO372 := Aside0.mk (Kd.R_lower (Kd.R_new' ho2 (Kd.R_lt (rkp HO357))) (below_size bel)); have HO375 := Aside0.mk (Kd.R_lower (Kd.R_new' ho3 (Kd.R_lt (rkp HO360))) (below_size bel)); replace HO350 := Aside0.mk (Kd.S_elder' (skp HO350) (Kd.S_base ho0) hb); replace HO353 := Aside0.mk (Kd.S_elder' (skp HO353) (Kd.S_base ho1) hb); replace HO357 := Aside0.mk (Kd.R_elder' (rkp HO357) (Kd.R_base ho2) hb); replace HO360 := Aside0.mk (Kd.R_elder' (rkp HO360) (Kd.R_base ho3) hb); replace BK345 := Aside0.mk (blb BK345 hb); replace HB := bst hb; (try clear hb); (try clear hb2); (try clear hk); (try clear hi); (try clear ho0); (try clear ho1); (try clear ho2); (try clear ho3)) | ((with_reducible refine gate_dst (N := 7) rfl ?_); refine bx_ 7 #[.int .i64 0, .slice none 0 0, .slice none 0 0, .int .i64 0, .slice none 0 0, .slice none 0 0] 35 (h := ?_); intro gb376 hg w31 hbox hb; have BK376 := Aside0.mk (hbox); have GEN2 := Aside0.mk (show w30.heap.size ≤ gb376 from Nat.le_of_eq hg.symm); have GEN1 := Aside0.mk (show w28.heap.size ≤ gb376 from Nat.le_trans HSZ12.out (Nat.le_of_eq hg.symm)); have HSZ3 := Aside0.mk (show w30.heap.size ≤ w31.heap.size from hb.size); replace HRW := Aside0.mk (Kd.S_below (skp HRW) hb); replace HX0 := Aside0.mk (Kd.S_below (skp HX0) hb); replace HX1 := Aside0.mk (Kd.S_below (skp HX1) hb); replace HX2 := Aside0.mk (rbl HX2 hb); replace HX3 := Aside0.mk (rbl HX3 hb); have GW376 := Aside0.mk ((by rw [hg]; exact (below_size bel) : w.heap.size ≤ gb376)); have GE376 := GW376; have NB345_376 := Aside0.mk ((by rw [hg]; exact Nat.ne_of_lt (blt BK345) : gb345 ≠ gb376)); have NB376_345 := Aside0.mk NB345_376.out.symm; replace HO350 := Aside0.mk (Kd.S_below (skp HO350) hb); replace HO353 := Aside0.mk (Kd.S_below (skp HO353) hb); replace HO357 := Aside0.mk (rbl HO357 hb); replace HO360 := Aside0.mk (rbl HO360 hb); replace HO365 := Aside0.mk (Kd.S_below (skp HO365) hb); replace HO368 := Aside0.mk (Kd.S_below (skp HO368) hb); replace HO372 := Aside0.mk (rbl HO372 hb); replace HO375 := Aside0.mk (rbl HO375 hb); replace BK345 := Aside0.mk (blb BK345 hb); replace HB := bst hb; clear hb hbox hg; have hnb32 := NB376_345.out; have hnc32 := NB345_376.out; obtain ⟨C33_0, C33_1, C33_2, C33_3, C33_4, C33_5, -⟩ := cells_6 BK376.out trivial; obtain ⟨F33_0, F33_1, F33_2, F33_3, F33_4, F33_5, -⟩ := frz_6 BK376.out; obtain ⟨Ao34, co34, eo34⟩ := Kd.S_slice HO365.out; subst eo34; obtain ⟨Ao35, co35, eo35⟩ := Kd.S_slice HO368.out; subst eo35; obtain ⟨Ao36, co36, eo36⟩ := Kd.R_slice HO372.out; subst eo36; obtain ⟨Ao37, co37, eo37⟩ := Kd.R_slice HO375.out; subst eo37) | ((with_reducible refine gate_callee (f := 55) rfl ?_); refine gl_ (some 26) Try.func55 #[.agg #[.int .i64 t362, .slice Ao34 t363.length co34, .slice Ao35 t366.length co35, .int .i64 t369, .slice Ao36 t370.length co36, .slice Ao37 t373.length co37], .int .i64 a1] (h := ?_); (with_reducible refine (impl_Held.calls k t362 _ _ t363 _ _ t366 t369 _ _ t370 _ _ t373 a1 t377 _ ?side1 ?side2 ?side3 ?side4 ?side5 ?side6 ?side7 ?side8 A11.out).mono ?_); (case side1 => refine (Kd.S_reads' (e := 92) (base := w.heap.size) (ok := fun k_ => (True ∧ some k_ ≠ (.slice Ao24 t348.length co24 : Value).ownBlock)) (n := t363.length) (c := co34) ?_).2.2; exact (by (with_reducible repeat (first | apply Kd.S_alloc | apply Kd.S_drewN | apply Kd.S_drew)); exact (Kd.S_mono (Kd.S_far (p := ⟨gb376, 5, none⟩) (Kd.S_far (p := ⟨gb376, 4, none⟩) (Kd.S_far (p := ⟨gb376, 3, none⟩) (Kd.S_far (p := ⟨gb376, 2, none⟩) (Kd.S_far (p := ⟨gb376, 1, none⟩) (Kd.S_far (p := ⟨gb376, 0, none⟩) (Kd.S_types HO365.out BK376.out (by decide)) (fun _ hk => hk.2) (.int .i64 t362)) (fun _ hk => hk.2) (.slice Ao34 t363.length co34)) (fun _ hk => hk.2) (.slice Ao35 t366.length co35)) (fun _ hk => hk.2) (.int .i64 t369)) (fun _ hk => hk.2) (.slice Ao36 t370.length co36)) (fun _ hk => hk.2) (.slice Ao37 t373.length co37)) (fun _ h_ => h_.1)))); (case side2 => exact (Kd.S_reads' HO365.out).2.1); (case side3 => refine (Kd.S_reads' (e := 94) (base := w.heap.size) (ok := fun k_ => (True ∧ some k_ ≠ (.slice Ao25 t351.length co25 : Value).ownBlock)) (n := t366.length) (c := co35) ?_).2.2; exact (by (with_reducible repeat (first | apply Kd.S_alloc | apply Kd.S_drewN | apply Kd.S_drew)); exact (Kd.S_mono (Kd.S_far (p := ⟨gb376, 5, none⟩) (Kd.S_far (p := ⟨gb376, 4, none⟩) (Kd.S_far (p := ⟨gb376, 3, none⟩) (Kd.S_far (p := ⟨gb376, 2, none⟩) (Kd.S_far (p := ⟨gb376, 1, none⟩) (Kd.S_far (p := ⟨gb376, 0, none⟩) (Kd.S_types HO368.out BK376.out (by decide)) (fun _ hk => hk.2) (.int .i64 t362)) (fun _ hk => hk.2) (.slice Ao34 t363.length co34)) (fun _ hk => hk.2) (.slice Ao35 t366.length co35)) (fun _ hk => hk.2) (.int .i64 t369)) (fun _ hk => hk.2) (.slice Ao36 t370.length co36)) (fun _ hk => hk.2) (.slice Ao37 t373.length co37)) (fun _ h_ => h_.1)))); (case side4 => exact (Kd.S_reads' HO368.out).2.1); (case side5 => refine (Kd.R_reads' (e := 109) (base := w.heap.size) (ok := fun k_ => (True ∧ some k_ ≠ (.slice Ao26 t355.length co26 : Value).ownBlock)) (n := t370.length) (c := co36) ?_).2.2; exact (by (with_reducible repeat (first | apply Kd.R_alloc | apply Kd.R_drewN | apply Kd.R_drew)); exact (Kd.R_mono (Kd.R_far (p := ⟨gb376, 5, none⟩) (Kd.R_far (p := ⟨gb376, 4, none⟩) (Kd.R_far (p := ⟨gb376, 3, none⟩) (Kd.R_far (p := ⟨gb376, 2, none⟩) (Kd.R_far (p := ⟨gb376, 1, none⟩) (Kd.R_far (p := ⟨gb376, 0, none⟩) (Kd.R_types HO372.out BK376.out (by decide)) (fun _ hk => hk.2) (.int .i64 t362)) (fun _ hk => hk.2) (.slice Ao34 t363.length co34)) (fun _ hk => hk.2) (.slice Ao35 t366.length co35)) (fun _ hk => hk.2) (.int .i64 t369)) (fun _ hk => hk.2) (.slice Ao36 t370.length co36)) (fun _ hk => hk.2) (.slice Ao37 t373.length co37)) (fun _ h_ => h_.1)))); (case side6 => exact (Kd.R_reads' HO372.out).2.1); (case side7 => refine (Kd.R_reads' (e := 75) (base := w.heap.size) (ok := fun k_ => (True ∧ some k_ ≠ (.slice Ao27 t358.length co27 : Value).ownBlock)) (n := t373.length) (c := co37) ?_).2.2; exact (by (with_reducible repeat (first | apply Kd.R_alloc | apply Kd.R_drewN | apply Kd.R_drew)); exact (Kd.R_mono (Kd.R_far (p := ⟨gb376, 5, none⟩) (Kd.R_far (p := ⟨gb376, 4, none⟩) (Kd.R_far (p := ⟨gb376, 3, none⟩) (Kd.R_far (p := ⟨gb376, 2, none⟩) (Kd.R_far (p := ⟨gb376, 1, none⟩) (Kd.R_far (p := ⟨gb376, 0, none⟩) (Kd.R_types HO375.out BK376.out (by decide)) (fun _ hk => hk.2) (.int .i64 t362)) (fun _ hk => hk.2) (.slice Ao34 t363.length co34)) (fun _ hk => hk.2) (.slice Ao35 t366.length co35)) (fun _ hk => hk.2) (.int .i64 t369)) (fun _ hk => hk.2) (.slice Ao36 t370.length co36)) (fun _ hk => hk.2) (.slice Ao37 t373.length co37)) (fun _ h_ => h_.1)))); (case side8 => exact (Kd.R_reads' HO375.out).2.1); rintro e w38 ⟨vG, rfl, hoG, hb⟩; refine ⟨_, rfl, ?_⟩; have HRG := Aside0.mk (Kd.S_mono (ok' := fun k_ => w30.heap.size ≤ k_) (Kd.S_lower (Kd.S_bound hoG) (below_size bel)) (fun _ h_ => Nat.le_trans HSZ3.out (Nat.le_trans (by simp [World.setCell]) h_.2.1))); clear hoG; obtain ⟨AoG, coG, eoG⟩ := Kd.S_slice HRG.out; subst eoG; replace HRW := Aside0.mk (Kd.S_below (Kd.S_mono (Kd.S_far (p := ⟨gb376, 5, none⟩) (Kd.S_far (p := ⟨gb376, 4, none⟩) (Kd.S_far (p := ⟨gb376, 3, none⟩) (Kd.S_far (p := ⟨gb376, 2, none⟩) (Kd.S_far (p := ⟨gb376, 1, none⟩) (Kd.S_far (p := ⟨gb376, 0, none⟩) (Kd.S_mono (ok' := fun k_ => (k_ < w28.heap.size) ∧ k_ ≠ gb376) HRW.out (fun k_ h_ => ⟨h_, Nat.ne_of_lt (Nat.lt_of_lt_of_le h_ GEN1.out)⟩)) (fun _ hk => hk.2) (.int .i64 t362)) (fun _ hk => hk.2) (.slice Ao34 t363.length co34)) (fun _ hk => hk.2) (.slice Ao35 t366.length co35)) (fun _ hk => hk.2) (.int .i64 t369)) (fun _ hk => hk.2) (.slice Ao36 t370.length co36)) (fun _ hk => hk.2) (.slice Ao37 t373.length co37)) (fun _ h_ => h_.1)) hb); replace HX0 := Aside0.mk (Kd.S_below (Kd.S_mono (Kd.S_far (p := ⟨gb376, 5, none⟩) (Kd.S_far (p := ⟨gb376, 4, none⟩) (Kd.S_far (p := ⟨gb376, 3, none⟩) (Kd.S_far (p := ⟨gb376, 2, none⟩) (Kd.S_far (p := ⟨gb376, 1, none⟩) (Kd.S_far (p := ⟨gb376, 0, none⟩) (Kd.S_mono (ok' := fun k_ => (w28.heap.size ≤ k_ ∧ k_ < w30.heap.size) ∧ k_ ≠ gb376) HX0.out (fun k_ h_ => ⟨h_, Nat.ne_of_lt (Nat.lt_of_lt_of_le h_.2 GEN2.out)⟩)) (fun _ hk => hk.2) (.int .i64 t362)) (fun _ hk => hk.2) (.slice Ao34 t363.length co34)) (fun _ hk => hk.2) (.slice Ao35 t366.length co35)) (fun _ hk => hk.2) (.int .i64 t369)) (fun _ hk => hk.2) (.slice Ao36 t370.length co36)) (fun _ hk => hk.2) (.slice Ao37 t373.length co37)) (fun _ h_ => h_.1)) hb); replace HX1 := Aside0.mk (Kd.S_below (Kd.S_mono (Kd.S_far (p := ⟨gb376, 5, none⟩) (Kd.S_far (p := ⟨gb376, 4, none⟩) (Kd.S_far (p := ⟨gb376, 3, none⟩) (Kd.S_far (p := ⟨gb376, 2, none⟩) (Kd.S_far (p := ⟨gb376, 1, none⟩) (Kd.S_far (p := ⟨gb376, 0, none⟩) (Kd.S_mono (ok' := fun k_ => (w28.heap.size ≤ k_ ∧ k_ < w30.heap.size) ∧ k_ ≠ gb376) HX1.out (fun k_ h_ => ⟨h_, Nat.ne_of_lt (Nat.lt_of_lt_of_le h_.2 GEN2.out)⟩)) (fun _ hk => hk.2) (.int .i64 t362)) (fun _ hk => hk.2) (.slice Ao34 t363.length co34)) (fun _ hk => hk.2) (.slice Ao35 t366.length co35)) (fun _ hk => hk.2) (.int .i64 t369)) (fun _ hk => hk.2) (.slice Ao36 t370.length co36)) (fun _ hk => hk.2) (.slice Ao37 t373.length co37)) (fun _ h_ => h_.1)) hb); replace HX2 := Aside0.mk (Kd.R_below (Kd.R_mono (Kd.R_far (p := ⟨gb376, 5, none⟩) (Kd.R_far (p := ⟨gb376, 4, none⟩) (Kd.R_far (p := ⟨gb376, 3, none⟩) (Kd.R_far (p := ⟨gb376, 2, none⟩) (Kd.R_far (p := ⟨gb376, 1, none⟩) (Kd.R_far (p := ⟨gb376, 0, none⟩) (Kd.R_mono (ok' := fun k_ => (w28.heap.size ≤ k_ ∧ k_ < w30.heap.size) ∧ k_ ≠ gb376) HX2.out (fun k_ h_ => ⟨h_, Nat.ne_of_lt (Nat.lt_of_lt_of_le h_.2 GEN2.out)⟩)) (fun _ hk => hk.2) (.int .i64 t362)) (fun _ hk => hk.2) (.slice Ao34 t363.length co34)) (fun _ hk => hk.2) (.slice Ao35 t366.length co35)) (fun _ hk => hk.2) (.int .i64 t369)) (fun _ hk => hk.2) (.slice Ao36 t370.length co36)) (fun _ hk => hk.2) (.slice Ao37 t373.length co37)) (fun _ h_ => h_.1)) hb); replace HX3 := Aside0.mk (Kd.R_below (Kd.R_mono (Kd.R_far (p := ⟨gb376, 5, none⟩) (Kd.R_far (p := ⟨gb376, 4, none⟩) (Kd.R_far (p := ⟨gb376, 3, none⟩) (Kd.R_far (p := ⟨gb376, 2, none⟩) (Kd.R_far (p := ⟨gb376, 1, none⟩) (Kd.R_far (p := ⟨gb376, 0, none⟩) (Kd.R_mono (ok' := fun k_ => (w28.heap.size ≤ k_ ∧ k_ < w30.heap.size) ∧ k_ ≠ gb376) HX3.out (fun k_ h_ => ⟨h_, Nat.ne_of_lt (Nat.lt_of_lt_of_le h_.2 GEN2.out)⟩)) (fun _ hk => hk.2) (.int .i64 t362)) (fun _ hk => hk.2) (.slice Ao34 t363.length co34)) (fun _ hk => hk.2) (.slice Ao35 t366.length co35)) (fun _ hk => hk.2) (.int .i64 t369)) (fun _ hk => hk.2) (.slice Ao36 t370.length co36)) (fun _ hk => hk.2) (.slice Ao37 t373.length co37)) (fun _ h_ => h_.1)) hb); replace HO350 := Aside0.mk (Kd.S_below (by (with_reducible repeat (first | apply Kd.S_alloc | apply Kd.S_drewN | apply Kd.S_drew)); exact (Kd.S_mono (Kd.S_far (p := ⟨gb376, 5, none⟩) (Kd.S_far (p := ⟨gb376, 4, none⟩) (Kd.S_far (p := ⟨gb376, 3, none⟩) (Kd.S_far (p := ⟨gb376, 2, none⟩) (Kd.S_far (p := ⟨gb376, 1, none⟩) (Kd.S_far (p := ⟨gb376, 0, none⟩) (Kd.S_types HO350.out BK376.out (by decide)) (fun _ hk => hk.2) (.int .i64 t362)) (fun _ hk => hk.2) (.slice Ao34 t363.length co34)) (fun _ hk => hk.2) (.slice Ao35 t366.length co35)) (fun _ hk => hk.2) (.int .i64 t369)) (fun _ hk => hk.2) (.slice Ao36 t370.length co36)) (fun _ hk => hk.2) (.slice Ao37 t373.length co37)) (fun _ h_ => h_.1))) hb); replace HO353 := Aside0.mk (Kd.S_below (by (with_reducible repeat (first | apply Kd.S_alloc | apply Kd.S_drewN | apply Kd.S_drew)); exact (Kd.S_mono (Kd.S_far (p := ⟨gb376, 5, none⟩) (Kd.S_far (p := ⟨gb376, 4, none⟩) (Kd.S_far (p := ⟨gb376, 3, none⟩) (Kd.S_far (p := ⟨gb376, 2, none⟩) (Kd.S_far (p := ⟨gb376, 1, none⟩) (Kd.S_far (p := ⟨gb376, 0, none⟩) (Kd.S_types HO353.out BK376.out (by decide)) (fun _ hk => hk.2) (.int .i64 t362)) (fun _ hk => hk.2) (.slice Ao34 t363.length co34)) (fun _ hk => hk.2) (.slice Ao35 t366.length co35)) (fun _ hk => hk.2) (.int .i64 t369)) (fun _ hk => hk.2) (.slice Ao36 t370.length co36)) (fun _ hk => hk.2) (.slice Ao37 t373.length co37)) (fun _ h_ => h_.1))) hb); replace HO357 := Aside0.mk (Kd.R_below (by (with_reducible repeat (first | apply Kd.R_alloc | apply Kd.R_drewN | apply Kd.R_drew)); exact (Kd.R_mono (Kd.R_far (p := ⟨gb376, 5, none⟩) (Kd.R_far (p := ⟨gb376, 4, none⟩) (Kd.R_far (p := ⟨gb376, 3, none⟩) (Kd.R_far (p := ⟨gb376, 2, none⟩) (Kd.R_far (p := ⟨gb376, 1, none⟩) (Kd.R_far (p := ⟨gb376, 0, none⟩) (Kd.R_types HO357.out BK376.out (by decide)) (fun _ hk => hk.2) (.int .i64 t362)) (fun _ hk => hk.2) (.slice Ao34 t363.length co34)) (fun _ hk => hk.2) (.slice Ao35 t366.length co35)) (fun _ hk => hk.2) (.int .i64 t369)) (fun _ hk => hk.2) (.slice Ao36 t370.length co36)) (fun _ hk => hk.2) (.slice Ao37 t373.length co37)) (fun _ h_ => h_.1))) hb); replace HO360 := Aside0.mk (Kd.R_below (by (with_reducible repeat (first | apply Kd.R_alloc | apply Kd.R_drewN | apply Kd.R_drew)); exact (Kd.R_mono (Kd.R_far (p := ⟨gb376, 5, none⟩) (Kd.R_far (p := ⟨gb376, 4, none⟩) (Kd.R_far (p := ⟨gb376, 3, none⟩) (Kd.R_far (p := ⟨gb376, 2, none⟩) (Kd.R_far (p := ⟨gb376, 1, none⟩) (Kd.R_far (p := ⟨gb376, 0, none⟩) (Kd.R_types HO360.out BK376.out (by decide)) (fun _ hk => hk.2) (.int .i64 t362)) (fun _ hk => hk.2) (.slice Ao34 t363.length co34)) (fun _ hk => hk.2) (.slice Ao35 t366.length co35)) (fun _ hk => hk.2) (.int .i64 t369)) (fun _ hk => hk.2) (.slice Ao36 t370.length co36)) (fun _ hk => hk.2) (.slice Ao37 t373.length co37)) (fun _ h_ => h_.1))) hb); replace HO365 := Aside0.mk (Kd.S_below (by (with_reducible repeat (first | apply Kd.S_alloc | apply Kd.S_drewN | apply Kd.S_drew)); exact (Kd.S_mono (Kd.S_far (p := ⟨gb376, 5, none⟩) (Kd.S_far (p := ⟨gb376, 4, none⟩) (Kd.S_far (p := ⟨gb376, 3, none⟩) (Kd.S_far (p := ⟨gb376, 2, none⟩) (Kd.S_far (p := ⟨gb376, 1, none⟩) (Kd.S_far (p := ⟨gb376, 0, none⟩) (Kd.S_types HO365.out BK376.out (by decide)) (fun _ hk => hk.2) (.int .i64 t362)) (fun _ hk => hk.2) (.slice Ao34 t363.length co34)) (fun _ hk => hk.2) (.slice Ao35 t366.length co35)) (fun _ hk => hk.2) (.int .i64 t369)) (fun _ hk => hk.2) (.slice Ao36 t370.length co36)) (fun _ hk => hk.2) (.slice Ao37 t373.length co37)) (fun _ h_ => h_.1))) hb); replace HO368 := Aside0.mk (Kd.S_below (by (with_reducible repeat (first | apply Kd.S_alloc | apply Kd.S_drewN | apply Kd.S_drew)); exact (Kd.S_mono (Kd.S_far (p := ⟨gb376, 5, none⟩) (Kd.S_far (p := ⟨gb376, 4, none⟩) (Kd.S_far (p := ⟨gb376, 3, none⟩) (Kd.S_far (p := ⟨gb376, 2, none⟩) (Kd.S_far (p := ⟨gb376, 1, none⟩) (Kd.S_far (p := ⟨gb376, 0, none⟩) (Kd.S_types HO368.out BK376.out (by decide)) (fun _ hk => hk.2) (.int .i64 t362)) (fun _ hk => hk.2) (.slice Ao34 t363.length co34)) (fun _ hk => hk.2) (.slice Ao35 t366.length co35)) (fun _ hk => hk.2) (.int .i64 t369)) (fun _ hk => hk.2) (.slice Ao36 t370.length co36)) (fun _ hk => hk.2) (.slice Ao37 t373.length co37)) (fun _ h_ => h_.1))) hb); replace HO372 := Aside0.mk (Kd.R_below (by (with_reducible repeat (first | apply Kd.R_alloc | apply Kd.R_drewN | apply Kd.R_drew)); exact (Kd.R_mono (Kd.R_far (p := ⟨gb376, 5, none⟩) (Kd.R_far (p := ⟨gb376, 4, none⟩) (Kd.R_far (p := ⟨gb376, 3, none⟩) (Kd.R_far (p := ⟨gb376, 2, none⟩) (Kd.R_far (p := ⟨gb376, 1, none⟩) (Kd.R_far (p := ⟨gb376, 0, none⟩) (Kd.R_types HO372.out BK376.out (by decide)) (fun _ hk => hk.2) (.int .i64 t362)) (fun _ hk => hk.2) (.slice Ao34 t363.length co34)) (fun _ hk => hk.2) (.slice Ao35 t366.length co35)) (fun _ hk => hk.2) (.int .i64 t369)) (fun _ hk => hk.2) (.slice Ao36 t370.length co36)) (fun _ hk => hk.2) (.slice Ao37 t373.length co37)) (fun _ h_ => h_.1))) hb); replace HO375 := Aside0.mk (Kd.R_below (by (with_reducible repeat (first | apply Kd.R_alloc | apply Kd.R_drewN | apply Kd.R_drew)); exact (Kd.R_mono (Kd.R_far (p := ⟨gb376, 5, none⟩) (Kd.R_far (p := ⟨gb376, 4, none⟩) (Kd.R_far (p := ⟨gb376, 3, none⟩) (Kd.R_far (p := ⟨gb376, 2, none⟩) (Kd.R_far (p := ⟨gb376, 1, none⟩) (Kd.R_far (p := ⟨gb376, 0, none⟩) (Kd.R_types HO375.out BK376.out (by decide)) (fun _ hk => hk.2) (.int .i64 t362)) (fun _ hk => hk.2) (.slice Ao34 t363.length co34)) (fun _ hk => hk.2) (.slice Ao35 t366.length co35)) (fun _ hk => hk.2) (.int .i64 t369)) (fun _ hk => hk.2) (.slice Ao36 t370.length co36)) (fun _ hk => hk.2) (.slice Ao37 t373.length co37)) (fun _ h_ => h_.1))) hb); replace BK345 := Aside0.mk (blk_below (g := gb345) (o := .cells #[.int .i64 a0_0, .slice A0_1 l0_1.length c0_1, .slice A0_2 l0_2.length c0_2, .int .i64 a0_3, .slice A0_4 l0_4.length c0_4, .slice A0_5 l0_5.length c0_5] 27 (0, 0)) (by (with_reducible repeat (first | refine blk_drewN ?_ _ | refine blk_drew ?_ | refine blk_alloc ?_ _)); refine blk_far ?_ NB345_376.out _; (with_reducible repeat (first | refine blk_drewN ?_ _ | refine blk_drew ?_ | refine blk_alloc ?_ _)); refine blk_far ?_ NB345_376.out _; (with_reducible repeat (first | refine blk_drewN ?_ _ | refine blk_drew ?_ | refine blk_alloc ?_ _)); refine blk_far ?_ NB345_376.out _; (with_reducible repeat (first | refine blk_drewN ?_ _ | refine blk_drew ?_ | refine blk_alloc ?_ _)); refine blk_far ?_ NB345_376.out _; (with_reducible repeat (first | refine blk_drewN ?_ _ | refine blk_drew ?_ | refine blk_alloc ?_ _)); refine blk_far ?_ NB345_376.out _; (with_reducible repeat (first | refine blk_drewN ?_ _ | refine blk_drew ?_ | refine blk_alloc ?_ _)); refine blk_far ?_ NB345_376.out _; (with_reducible repeat (first | refine blk_drewN ?_ _ | refine blk_drew ?_ | refine blk_alloc ?_ _)); exact BK345.out) hb); replace BK376 := Aside0.mk (blk_below (g := gb376) (o := .cells #[.int .i64 t362, .slice Ao34 t363.length co34, .slice Ao35 t366.length co35, .int .i64 t369, .slice Ao36 t370.length co36, .slice Ao37 t373.length co37] 35 (0, 0)) (by (with_reducible repeat (first | refine blk_drewN ?_ _ | refine blk_drew ?_ | refine blk_alloc ?_ _)); refine blk_put (cs := #[.int .i64 t362, .slice Ao34 t363.length co34, .slice Ao35 t366.length co35, .int .i64 t369, .slice Ao36 t370.length co36, .slice none 0 0]) ?_ 5 _ rfl; (with_reducible repeat (first | refine blk_drewN ?_ _ | refine blk_drew ?_ | refine blk_alloc ?_ _)); refine blk_put (cs := #[.int .i64 t362, .slice Ao34 t363.length co34, .slice Ao35 t366.length co35, .int .i64 t369, .slice none 0 0, .slice none 0 0]) ?_ 4 _ rfl; (with_reducible repeat (first | refine blk_drewN ?_ _ | refine blk_drew ?_ | refine blk_alloc ?_ _)); refine blk_put (cs := #[.int .i64 t362, .slice Ao34 t363.length co34, .slice Ao35 t366.length co35, .int .i64 0, .slice none 0 0, .slice none 0 0]) ?_ 3 _ rfl; (with_reducible repeat (first | refine blk_drewN ?_ _ | refine blk_drew ?_ | refine blk_alloc ?_ _)); refine blk_put (cs := #[.int .i64 t362, .slice Ao34 t363.length co34, .slice none 0 0, .int .i64 0, .slice none 0 0, .slice none 0 0]) ?_ 2 _ rfl; (with_reducible repeat (first | refine blk_drewN ?_ _ | refine blk_drew ?_ | refine blk_alloc ?_ _)); refine blk_put (cs := #[.int .i64 t362, .slice none 0 0, .slice none 0 0, .int .i64 0, .slice none 0 0, .slice none 0 0]) ?_ 1 _ rfl; (with_reducible repeat (first | refine blk_drewN ?_ _ | refine blk_drew ?_ | refine blk_alloc ?_ _)); refine blk_put (cs := #[.int .i64 0, .slice none 0 0, .slice none 0 0, .int .i64 0, .slice none 0 0, .slice none 0 0]) ?_ 0 _ rfl; (with_reducible repeat (first | refine blk_drewN ?_ _ | refine blk_drew ?_ | refine blk_alloc ?_ _)); exact BK376.out) hb); replace HB := bst hb; (try clear hb); (try clear hb2); (try clear hk); (try clear hi)) | ((with_reducible refine gate_callee (f := 56) rfl ?_); refine gl_ (some 29) Try.func56 #[.slice AoG t377.length coG, .slice AoW t361.length coW] (h := ?_); (with_reducible refine (laws_eqByteSS.calls k _ _ t377 _ _ t361 true _ ?q1 ?q2 ?q3 ?q4 A12.out).mono ?_); (case q1 => repeat (first | exact (Kd.S_reads' HRG.out).2.2 | (with_reducible refine Kd.C_alloc ?_ _) | (with_reducible refine Kd.C_drewN ?_ _) | (with_reducible refine Kd.C_drew ?_))); (case q2 => exact (Kd.S_reads' HRG.out).2.1); (case q3 => repeat (first | exact (Kd.S_reads' HRW.out).2.2 | (with_reducible refine Kd.C_alloc ?_ _) | (with_reducible refine Kd.C_drewN ?_ _) | (with_reducible refine Kd.C_drew ?_))); (case q4 => exact (Kd.S_reads' HRW.out).2.1); rintro e w' ⟨rfl, ⟨nd, rfl⟩⟩; refine ⟨_, rfl, ?_⟩))
   (try (rw [drewN_self w38]; generalize hq_ : World.drewN w38 _ = w38; have m0_ : Aside0 (Kd.S (Kd.slice 5 (Kd.int .u8)) 52 w38 w.heap.size (fun k_ => k_ < w28.heap.size) (.slice AoW t361.length coW) t361) := ⟨by rw [← hq_]; exact (skp HRW)⟩; have m1_ : Aside0 (Kd.S k92 92 w38 w.heap.size (fun k_ => w28.heap.size ≤ k_ ∧ k_ < w30.heap.size) (.slice Ao34 t363.length co34) t363) := ⟨by rw [← hq_]; exact (skp HX0)⟩; have m2_ : Aside0 (Kd.S k94 94 w38 w.heap.size (fun k_ => w28.heap.size ≤ k_ ∧ k_ < w30.heap.size) (.slice Ao35 t366.length co35) t366) := ⟨by rw [← hq_]; exact (skp HX1)⟩; have m3_ : Aside0 (Kd.R k109 109 w38 w.heap.size (fun k_ => w28.heap.size ≤ k_ ∧ k_ < w30.heap.size) (.slice Ao36 t370.length co36) t370) := ⟨by rw [← hq_]; exact (rkp HX2)⟩; have m4_ : Aside0 (Kd.R k75 75 w38 w.heap.size (fun k_ => w28.heap.size ≤ k_ ∧ k_ < w30.heap.size) (.slice Ao37 t373.length co37) t373) := ⟨by rw [← hq_]; exact (rkp HX3)⟩; have m5_ : Aside0 (Kd.S (Kd.slice 5 (Kd.int .u8)) 52 w38 w.heap.size (fun k_ => w30.heap.size ≤ k_) (.slice AoG t377.length coG) t377) := ⟨by rw [← hq_]; exact (skp HRG)⟩; clear HRW HX0 HX1 HX2 HX3 HRG; have HRW := m0_; have HX0 := m1_; have HX1 := m2_; have HX2 := m3_; have HX3 := m4_; have HRG := m5_; clear m0_ m1_ m2_ m3_ m4_ m5_; have n0_ : Aside0 (Kd.S k92 92 w38 w.heap.size (fun k_ => some k_ ≠ (.slice Ao34 t363.length co34 : Value).ownBlock) (.slice Ao24 t348.length co24) t348) := ⟨by rw [← hq_]; exact (by (with_reducible repeat (first | apply Kd.S_alloc | apply Kd.S_drewN | apply Kd.S_drew)); exact Kd.S_mono HO350.out (fun _ hk => hk.2))⟩; have n1_ : Aside0 (Kd.S k94 94 w38 w.heap.size (fun k_ => some k_ ≠ (.slice Ao35 t366.length co35 : Value).ownBlock) (.slice Ao25 t351.length co25) t351) := ⟨by rw [← hq_]; exact (by (with_reducible repeat (first | apply Kd.S_alloc | apply Kd.S_drewN | apply Kd.S_drew)); exact Kd.S_mono HO353.out (fun _ hk => hk.2))⟩; have n2_ : Aside0 (Kd.R k109 109 w38 w.heap.size (fun k_ => some k_ ≠ (.slice Ao36 t370.length co36 : Value).ownBlock) (.slice Ao26 t355.length co26) t355) := ⟨by rw [← hq_]; exact (by (with_reducible repeat (first | apply Kd.R_alloc | apply Kd.R_drewN | apply Kd.R_drew)); exact Kd.R_mono HO357.out (fun _ hk => hk.2))⟩; have n3_ : Aside0 (Kd.R k75 75 w38 w.heap.size (fun k_ => some k_ ≠ (.slice Ao37 t373.length co37 : Value).ownBlock) (.slice Ao27 t358.length co27) t358) := ⟨by rw [← hq_]; exact (by (with_reducible repeat (first | apply Kd.R_alloc | apply Kd.R_drewN | apply Kd.R_drew)); exact Kd.R_mono HO360.out (fun _ hk => hk.2))⟩; have n4_ : Aside0 (Kd.S k92 92 w38 w.heap.size (fun k_ => some k_ ≠ (.slice Ao24 t348.length co24 : Value).ownBlock) (.slice Ao34 t363.length co34) t363) := ⟨by rw [← hq_]; exact (by (with_reducible repeat (first | apply Kd.S_alloc | apply Kd.S_drewN | apply Kd.S_drew)); exact Kd.S_mono HO365.out (fun _ hk => hk.2))⟩; have n5_ : Aside0 (Kd.S k94 94 w38 w.heap.size (fun k_ => some k_ ≠ (.slice Ao25 t351.length co25 : Value).ownBlock) (.slice Ao35 t366.length co35) t366) := ⟨by rw [← hq_]; exact (by (with_reducible repeat (first | apply Kd.S_alloc | apply Kd.S_drewN | apply Kd.S_drew)); exact Kd.S_mono HO368.out (fun _ hk => hk.2))⟩; have n6_ : Aside0 (Kd.R k109 109 w38 w.heap.size (fun k_ => some k_ ≠ (.slice Ao26 t355.length co26 : Value).ownBlock) (.slice Ao36 t370.length co36) t370) := ⟨by rw [← hq_]; exact (by (with_reducible repeat (first | apply Kd.R_alloc | apply Kd.R_drewN | apply Kd.R_drew)); exact Kd.R_mono HO372.out (fun _ hk => hk.2))⟩; have n7_ : Aside0 (Kd.R k75 75 w38 w.heap.size (fun k_ => some k_ ≠ (.slice Ao27 t358.length co27 : Value).ownBlock) (.slice Ao37 t373.length co37) t373) := ⟨by rw [← hq_]; exact (by (with_reducible repeat (first | apply Kd.R_alloc | apply Kd.R_drewN | apply Kd.R_drew)); exact Kd.R_mono HO375.out (fun _ hk => hk.2))⟩; have n8_ : Aside0 (w38.heap[gb345]? = some (.cells #[.int .i64 a0_0, .slice A0_1 l0_1.length c0_1, .slice A0_2 l0_2.length c0_2, .int .i64 a0_3, .slice A0_4 l0_4.length c0_4, .slice A0_5 l0_5.length c0_5] 27 (0, 0))) := ⟨by rw [← hq_]; exact (bkp BK345)⟩; have n9_ : Aside0 (w38.heap[gb376]? = some (.cells #[.int .i64 t362, .slice Ao34 t363.length co34, .slice Ao35 t366.length co35, .int .i64 t369, .slice Ao36 t370.length co36, .slice Ao37 t373.length co37] 35 (0, 0))) := ⟨by rw [← hq_]; exact (bkp BK376)⟩; have n10_ : Aside0 (Below w.heap.size w w38) := ⟨by rw [← hq_]; exact bel⟩; clear HO350 HO353 HO357 HO360 HO365 HO368 HO372 HO375 BK345 BK376 HB hq_; have HO350 := n0_; have HO353 := n1_; have HO357 := n2_; have HO360 := n3_; have HO365 := n4_; have HO368 := n5_; have HO372 := n6_; have HO375 := n7_; have BK345 := n8_; have BK376 := n9_; have HB := n10_; clear n0_ n1_ n2_ n3_ n4_ n5_ n6_ n7_ n8_ n9_ n10_))
   replace HO350 := Aside0.mk (Kd.S_drew HO350.out)
   replace HO353 := Aside0.mk (Kd.S_drew HO353.out)
   replace HO357 := Aside0.mk (Kd.R_drew HO357.out)
   replace HO360 := Aside0.mk (Kd.R_drew HO360.out)
   replace HO365 := Aside0.mk (Kd.S_drew HO365.out)
   replace HO368 := Aside0.mk (Kd.S_drew HO368.out)
   replace HO372 := Aside0.mk (Kd.R_drew HO372.out)
   replace HO375 := Aside0.mk (Kd.R_drew HO375.out)
   replace BK345 := Aside0.mk (blk_drew BK345.out)
   replace BK376 := Aside0.mk (blk_drew BK376.out)
   replace HB := Aside0.mk (below_drew1 HB.out)
   replace HRW := Aside0.mk (Kd.S_drew HRW.out)
   replace HX0 := Aside0.mk (Kd.S_drew HX0.out)
   replace HX1 := Aside0.mk (Kd.S_drew HX1.out)
   replace HX2 := Aside0.mk (Kd.R_drew HX2.out)
   replace HX3 := Aside0.mk (Kd.R_drew HX3.out)
   replace HRG := Aside0.mk (Kd.S_drew HRG.out)
   refine start_ (n := 5) (S := fun w' => w'.cell? ⟨gb376, 0, none⟩ = some (.int .i64 t362) ∧ w'.cell? ⟨gb376, 1, none⟩ = some (.slice Ao34 t363.length co34) ∧ w'.cell? ⟨gb376, 2, none⟩ = some (.slice Ao35 t366.length co35) ∧ w'.cell? ⟨gb376, 3, none⟩ = some (.int .i64 t369) ∧ w'.cell? ⟨gb376, 4, none⟩ = some (.slice Ao36 t370.length co36) ∧ w'.cell? ⟨gb376, 5, none⟩ = some (.slice Ao37 t373.length co37) ∧ w'.cell? ⟨gb345, 0, none⟩ = some (.int .i64 a0_0) ∧ w'.cell? ⟨gb345, 1, none⟩ = some (.slice A0_1 l0_1.length c0_1) ∧ w'.cell? ⟨gb345, 2, none⟩ = some (.slice A0_2 l0_2.length c0_2) ∧ w'.cell? ⟨gb345, 3, none⟩ = some (.int .i64 a0_3) ∧ w'.cell? ⟨gb345, 4, none⟩ = some (.slice A0_4 l0_4.length c0_4) ∧ w'.cell? ⟨gb345, 5, none⟩ = some (.slice A0_5 l0_5.length c0_5)) (ds := []) #[false, false, false, false, false] (by kernel_rfl) rfl rfl (cells_6 BK376.out (cellz_6 BK345.out)) (fun hHeld => ?_)
   generalize w38.drew = w39 at HRW HX0 HX1 HX2 HX3 HRG HO350 HO353 HO357 HO360 HO365 HO368 HO372 HO375 BK345 BK376 HB hHeld ⊢
   refine take_ (i := 0) (N := some 31) (v := ?_) (a' := ?_) #[true, false, false, false, false] rfl rfl (by kernel_rfl) (fun _ _ _ h => h) (Or.inl ⟨by rfl, ?_⟩) hHeld ?_ ?_
   rotate_left
   ·rintro w' ⟨s0, s1, s2, s3, s4, s5, s6, s7, s8, s9, s10, s11⟩
    go_simp
    with_reducible rfl
   rotate_left
   ·simp only [Act.put, List.setIfInBounds_toArray, List.set_cons_zero, List.set_cons_succ, i64_w, i32_w]
    rfl
   refine take_ (i := 1) (N := some 32) (v := ?_) (a' := ?_) #[true, true, false, false, false] rfl rfl (by kernel_rfl) (fun _ _ _ h => h) (Or.inl ⟨by rfl, ?_⟩) hHeld ?_ ?_
   rotate_left
   ·rintro w' ⟨s0, s1, s2, s3, s4, s5, s6, s7, s8, s9, s10, s11⟩
    go_simp
    with_reducible rfl
   rotate_left
   ·simp only [Act.put, List.setIfInBounds_toArray, List.set_cons_zero, List.set_cons_succ, i64_w, i32_w]
    rfl
   refine one_ (i := 2) (N := some 33) #[true, true, true, false, false] rfl rfl (by kernel_rfl) (by decide) (fun K hK => ?_)
   refine gs_ Try.func17 #[.agg #[.int .i64 a0_0, .slice A0_1 l0_1.length c0_1, .slice A0_2 l0_2.length c0_2, .int .i64 a0_3, .slice A0_4 l0_4.length c0_4, .slice A0_5 l0_5.length c0_5]] (h := ?_)
   with_reducible refine (laws_toState.calls k a0_0 _ _ l0_1 _ _ l0_2 a0_3 _ _ l0_4 _ _ l0_5 t379 t380 t383 t386 t387 t390 _ ?side1 ?side2 ?side3 ?side4 ?side5 ?side6 ?side7 ?side8 A14.out).mono ?_
   (case side1 => exact kcb)
   (case side2 => exact HC0_1.out)
   (case side3 => exact kcb)
   (case side4 => exact HC0_2.out)
   (case side5 => exact kcb)
   (case side6 => exact HC0_4.out)
   (case side7 => exact kcb)
   (case side8 => exact HC0_5.out)
   rintro e w40 ⟨v381, v384, v388, v391, rfl, ho0, ho1, ho2, ho3, hb⟩
   refine ⟨_, rfl, ?_⟩
   replace HRW := Aside0.mk (Kd.S_below (skp HRW) hb)
   replace HX0 := Aside0.mk (Kd.S_below (skp HX0) hb)
   replace HX1 := Aside0.mk (Kd.S_below (skp HX1) hb)
   replace HX2 := Aside0.mk (rbl HX2 hb)
   replace HX3 := Aside0.mk (rbl HX3 hb)
   replace HRG := Aside0.mk (Kd.S_below (skp HRG) hb)
   have HO382 := Aside0.mk (Kd.S_lower (Kd.S_new' (Kd.S_new' ho0 (Kd.S_lt (skp HO350))) (Kd.S_lt (skp HO365))) (below_size bel))
   have HO385 := Aside0.mk (Kd.S_lower (Kd.S_new' (Kd.S_new' ho1 (Kd.S_lt (skp HO353))) (Kd.S_lt (skp HO368))) (below_size bel))
   have HO389 := Aside0.mk (Kd.R_lower (Kd.R_new' (Kd.R_new' ho2 (Kd.R_lt (rkp HO357))) (Kd.R_lt (rkp HO372))) (below_size bel))
   have HO392 := Aside0.mk (Kd.R_lower (Kd.R_new' (Kd.R_new' ho3 (Kd.R_lt (rkp HO360))) (Kd.R_lt (rkp HO375))) (below_size bel))
   replace HO350 := Aside0.mk (Kd.S_elder' (skp HO350) (Kd.S_base ho0) hb)
   replace HO353 := Aside0.mk (Kd.S_elder' (skp HO353) (Kd.S_base ho1) hb)
   replace HO357 := Aside0.mk (Kd.R_elder' (rkp HO357) (Kd.R_base ho2) hb)
   replace HO360 := Aside0.mk (Kd.R_elder' (rkp HO360) (Kd.R_base ho3) hb)
   replace HO365 := Aside0.mk (Kd.S_elder' (skp HO365) (Kd.S_base ho0) hb)
   replace HO368 := Aside0.mk (Kd.S_elder' (skp HO368) (Kd.S_base ho1) hb)
   replace HO372 := Aside0.mk (Kd.R_elder' (rkp HO372) (Kd.R_base ho2) hb)
   replace HO375 := Aside0.mk (Kd.R_elder' (rkp HO375) (Kd.R_base ho3) hb)
   replace BK345 := Aside0.mk (blb BK345 hb)
   replace BK376 := Aside0.mk (blb BK376 hb)
   replace HB := bst hb
   (try clear hb)
   (try clear hb2)
   (try clear hk)
   (try clear hi)
   (try clear ho0)
   (try clear ho1)
   (try clear ho2)
   (try clear ho3)
   obtain ⟨Ao41, co41, eo41⟩ := Kd.S_slice HO382.out
   (first | subst eo41 | (injection eo41 with f1_ f2_ f3_; have f4_ := f1_.symm; have f5_ := f3_.symm; clear f1_ f2_ f3_; subst f4_; subst f5_))
   obtain ⟨Ao42, co42, eo42⟩ := Kd.S_slice HO385.out
   (first | subst eo42 | (injection eo42 with f1_ f2_ f3_; have f4_ := f1_.symm; have f5_ := f3_.symm; clear f1_ f2_ f3_; subst f4_; subst f5_))
   obtain ⟨Ao43, co43, eo43⟩ := Kd.R_slice HO389.out
   (first | subst eo43 | (injection eo43 with f1_ f2_ f3_; have f4_ := f1_.symm; have f5_ := f3_.symm; clear f1_ f2_ f3_; subst f4_; subst f5_))
   obtain ⟨Ao44, co44, eo44⟩ := Kd.R_slice HO392.out
   (first | subst eo44 | (injection eo44 with f1_ f2_ f3_; have f4_ := f1_.symm; have f5_ := f3_.symm; clear f1_ f2_ f3_; subst f4_; subst f5_))
   refine hK.out _ _ (cells_6 BK376.out (cellz_6 BK345.out)) (fun hHeld => ?_)
   clear hK K
   refine nrm_ (some 33) (h := ?_)
   refine one_ (i := 3) (N := some 34) #[true, true, true, true, false] rfl rfl (by kernel_rfl) (by decide) (fun K hK => ?_)
   refine gs_ Try.func19 #[.agg #[.int .i64 t362, .slice Ao34 t363.length co34, .slice Ao35 t366.length co35, .int .i64 t369, .slice Ao36 t370.length co36, .slice Ao37 t373.length co37], .agg #[.int .i64 t379, .slice Ao41 t380.length co41, .slice Ao42 t383.length co42, .int .i64 t386, .slice Ao43 t387.length co43, .slice Ao44 t390.length co44]] (h := ?_)
   with_reducible refine (laws_eqState.calls k t362 _ _ t363 _ _ t366 t369 _ _ t370 _ _ t373 t379 _ _ t380 _ _ t383 t386 _ _ t387 _ _ t390 true _ ?side1 ?side2 ?side3 ?side4 ?side5 ?side6 ?side7 ?side8 ?side9 ?side10 ?side11 ?side12 ?side13 ?side14 ?side15 ?side16 A15.out).mono ?_
   (case side1 => repeat (first | exact (Kd.S_reads' HO365.out).2.2 | (with_reducible refine Kd.C_alloc ?_ _) | (with_reducible refine Kd.C_drewN ?_ _) | (with_reducible refine Kd.C_drew ?_)))
   (case side2 => exact (Kd.S_reads' HO365.out).2.1)
   (case side3 => repeat (first | exact (Kd.S_reads' HO368.out).2.2 | (with_reducible refine Kd.C_alloc ?_ _) | (with_reducible refine Kd.C_drewN ?_ _) | (with_reducible refine Kd.C_drew ?_)))
   (case side4 => exact (Kd.S_reads' HO368.out).2.1)
   (case side5 => repeat (first | exact (Kd.R_reads' HO372.out).2.2 | (with_reducible refine Kd.C_alloc ?_ _) | (with_reducible refine Kd.C_drewN ?_ _) | (with_reducible refine Kd.C_drew ?_)))
   (case side6 => exact (Kd.R_reads' HO372.out).2.1)
   (case side7 => repeat (first | exact (Kd.R_reads' HO375.out).2.2 | (with_reducible refine Kd.C_alloc ?_ _) | (with_reducible refine Kd.C_drewN ?_ _) | (with_reducible refine Kd.C_drew ?_)))
   (case side8 => exact (Kd.R_reads' HO375.out).2.1)
   (case side9 => repeat (first | exact (Kd.S_reads' HO382.out).2.2 | (with_reducible refine Kd.C_alloc ?_ _) | (with_reducible refine Kd.C_drewN ?_ _) | (with_reducible refine Kd.C_drew ?_)))
   (case side10 => exact (Kd.S_reads' HO382.out).2.1)
   (case side11 => repeat (first | exact (Kd.S_reads' HO385.out).2.2 | (with_reducible refine Kd.C_alloc ?_ _) | (with_reducible refine Kd.C_drewN ?_ _) | (with_reducible refine Kd.C_drew ?_)))
   (case side12 => exact (Kd.S_reads' HO385.out).2.1)
   (case side13 => repeat (first | exact (Kd.R_reads' HO389.out).2.2 | (with_reducible refine Kd.C_alloc ?_ _) | (with_reducible refine Kd.C_drewN ?_ _) | (with_reducible refine Kd.C_drew ?_)))
   (case side14 => exact (Kd.R_reads' HO389.out).2.1)
   (case side15 => repeat (first | exact (Kd.R_reads' HO392.out).2.2 | (with_reducible refine Kd.C_alloc ?_ _) | (with_reducible refine Kd.C_drewN ?_ _) | (with_reducible refine Kd.C_drew ?_)))
   (case side16 => exact (Kd.R_reads' HO392.out).2.1)
   rintro e w45 ⟨rfl, hb⟩
   refine ⟨_, rfl, ?_⟩
   replace HRW := Aside0.mk (Kd.S_below (skp HRW) hb)
   replace HX0 := Aside0.mk (Kd.S_below (skp HX0) hb)
   replace HX1 := Aside0.mk (Kd.S_below (skp HX1) hb)
   replace HX2 := Aside0.mk (rbl HX2 hb)
   replace HX3 := Aside0.mk (rbl HX3 hb)
   replace HRG := Aside0.mk (Kd.S_below (skp HRG) hb)
   replace HO350 := Aside0.mk (Kd.S_below (skp HO350) hb)
   replace HO353 := Aside0.mk (Kd.S_below (skp HO353) hb)
   replace HO357 := Aside0.mk (rbl HO357 hb)
   replace HO360 := Aside0.mk (rbl HO360 hb)
   replace HO365 := Aside0.mk (Kd.S_below (skp HO365) hb)
   replace HO368 := Aside0.mk (Kd.S_below (skp HO368) hb)
   replace HO372 := Aside0.mk (rbl HO372 hb)
   replace HO375 := Aside0.mk (rbl HO375 hb)
   replace HO382 := Aside0.mk (Kd.S_below (skp HO382) hb)
   replace HO385 := Aside0.mk (Kd.S_below (skp HO385) hb)
   replace HO389 := Aside0.mk (rbl HO389 hb)
   replace HO392 := Aside0.mk (rbl HO392 hb)
   replace BK345 := Aside0.mk (blb BK345 hb)
   replace BK376 := Aside0.mk (blb BK376 hb)
   replace HB := bst hb
   (try clear hb)
   (try clear hb2)
   (try clear hk)
   (try clear hi)
   refine hK.out _ _ (cells_6 BK376.out (cellz_6 BK345.out)) (fun hHeld => ?_)
   clear hK K
   refine nrm_ (some 34) (h := ?_)
   refine pure_ (i := 4) (N := some 35) (v := ?_) (a' := ?_) #[true, true, true, true, true] rfl rfl (by kernel_rfl) (fun _ _ _ h => h) (Or.inl ⟨by rfl, ?_⟩) ?_ ?_
   rotate_left
   ·intro w'
    go_simp
    with_reducible rfl
   rotate_left
   ·simp only [Act.put, List.setIfInBounds_toArray, List.set_cons_zero, List.set_cons_succ, i64_w, i32_w]
    rfl
   refine done_ (by kernel_rfl) ?_
   obtain ⟨C46_0, C46_1, C46_2, C46_3, C46_4, C46_5, -⟩ := cells_6 BK376.out trivial
   obtain ⟨F46_0, F46_1, F46_2, F46_3, F46_4, F46_5, -⟩ := frz_6 BK376.out
   go_upto_region 14 with (first | ((with_reducible refine gate_callee (f := 57) rfl ?_); refine gl_ (some 38) Try.func57 #[.agg #[.int .i64 t362, .slice Ao34 t363.length co34, .slice Ao35 t366.length co35, .int .i64 t369, .slice Ao36 t370.length co36, .slice Ao37 t373.length co37], .int .i64 1] (h := ?_); (refine (laws_markState.calls t362 (fun k_ => w28.heap.size ≤ k_ ∧ k_ < w30.heap.size) (.slice Ao34 t363.length co34) t363 (fun k_ => w28.heap.size ≤ k_ ∧ k_ < w30.heap.size) (.slice Ao35 t366.length co35) t366 t369 (fun k_ => w28.heap.size ≤ k_ ∧ k_ < w30.heap.size) (.slice Ao36 t370.length co36) t370 (fun k_ => w28.heap.size ≤ k_ ∧ k_ < w30.heap.size) (.slice Ao37 t373.length co37) t373 1 t394 w _ ?side1 ?side2 ?side3 ?side4 ?side5 A17.out).mono ?_); (case side1 => repeat (first | (with_reducible first | exact HB.out | apply below_alloc | apply pw_below_drewN | apply below_drew1 | refine below_set ?_ GE345.out | refine below_set ?_ GE376.out) | exact HB.out)); (case side2 => exact Kd.S_R (skp HX0)); (case side3 => exact Kd.S_R (skp HX1)); (case side4 => exact rkp HX2); (case side5 => exact rkp HX3); rintro e w47 ⟨rfl, hb, hkp⟩; refine ⟨_, rfl, ?_⟩; have n0_ := Aside0.mk (blk_kept (bkp BK345) hkp (fun hs_ => by have := GLT.out; (try simp only at hs_); omega)); have n1_ := Aside0.mk hb; have n2_ := Aside0.mk (Kd.S_kept (skp HRW) hkp (fun k_ h_ hs_ => by have := GLT.out; have := HSZ12.out; (try simp only at hs_ h_); omega)); have n3_ := Aside0.mk (Kd.S_kept (skp HRG) hkp (fun k_ h_ hs_ => by have := GLT.out; have := HSZ12.out; (try simp only at hs_ h_); omega)); clear BK345 HB HRW HRG; have BK345 := n0_; have HB := n1_; have HRW := n2_; have HRG := n3_; clear n0_ n1_ n2_ n3_ hb hkp))
   (try simp only [Act.put, List.setIfInBounds_toArray, List.set_cons_zero, List.set_cons_succ])
   go_cut [46] (fun v46 wc => ∃ (kq : Nat) (x46_17 : Bool), v46 = .bool x46_17 ∧ Aside0 (laws_FnExactHeld.j0 kq a1 t361 t377 x46_17 a0_0 l0_1 l0_2 a0_3 l0_4 l0_5 = some true) ∧ Aside0 (kq ≤ k) ∧ Aside0 (wc.heap[gb345]? = some (.cells #[.int .i64 a0_0, (.slice A0_1 l0_1.length c0_1), (.slice A0_2 l0_2.length c0_2), .int .i64 a0_3, (.slice A0_4 l0_4.length c0_4), (.slice A0_5 l0_5.length c0_5)] 27 (0, 0))) ∧ Aside0 (Kd.S (Kd.slice 5 (Kd.int .u8)) 52 wc w.heap.size (fun k_ => k_ < w28.heap.size) (.slice AoW t361.length coW) t361) ∧ Aside0 (Kd.S (Kd.slice 5 (Kd.int .u8)) 52 wc w.heap.size (fun k_ => w30.heap.size ≤ k_) (.slice AoG t377.length coG) t377) ∧ Aside0 (Below w.heap.size w wc))
   case first =>
    have H := HC18.out
    clear HC18
    by_cases c48 : t394 < 0
    ·rw [if_pos c48] at H
     exact absurd H (by first | simp | (unfold laws_FnExactHeld.j0; split <;> simp))
    rw [if_neg c48] at H
    have c48b0 : decide (t394 < 0) = false := decide_eq_false c48
    clear c48
    (first | rw [c48b0] | (simp only [i64_w, i32_w]; rw [c48b0]) | skip)
    replace H := Option.bind_eq_some_iff.mp H
    obtain ⟨t395, A490, H⟩ := H
    replace H : (laws_FnExactHeld.j0 k a1 t361 t377 (!t395) a0_0 l0_1 l0_2 a0_3 l0_4 l0_5) = some true := H
    have A49 := Aside0.mk A490
    clear A490
    have H' := Aside0.mk H
    clear H
    go_wp2_with (first | (go_at_call 56; (with_reducible refine (laws_eqByteSS.calls k _ _ t377 _ _ t361 t395 _ ?q1 ?q2 ?q3 ?q4 A49.out).mono ?_); (case q1 => repeat (first | exact (Kd.S_reads' HRG.out).2.2 | (with_reducible refine Kd.C_alloc ?_ _) | (with_reducible refine Kd.C_drewN ?_ _) | (with_reducible refine Kd.C_drew ?_))); (case q2 => exact (Kd.S_reads' HRG.out).2.1); (case q3 => repeat (first | exact (Kd.S_reads' HRW.out).2.2 | (with_reducible refine Kd.C_alloc ?_ _) | (with_reducible refine Kd.C_drewN ?_ _) | (with_reducible refine Kd.C_drew ?_))); (case q4 => exact (Kd.S_reads' HRW.out).2.1); rintro e w' ⟨rfl, ⟨nd, rfl⟩⟩))
    go_meet
    case rel => exact ⟨_, (!t395), rs_, H', ⟨by first | omega | exact Nat.le_refl _⟩, ⟨bkp BK345⟩, ⟨skp HRW⟩, ⟨skp HRG⟩, ⟨bel⟩⟩
   case rest =>
    clear HC18
    try clear c1; try clear p2; try clear c3; try clear c4; try clear c4b0; try clear c5; try clear c10; try clear c13; try clear c15; try clear c16; try clear c17; try clear c19; try clear c32; try clear c48; try clear c48b0; try clear C20_0 C20_1 C20_2 C20_3 C20_4 C20_5; try clear C22_0 C22_1 C22_2 C22_3 C22_4 C22_5; try clear C29_0 C29_1 C29_2 C29_3 C29_4 C29_5; try clear C33_0 C33_1 C33_2 C33_3 C33_4 C33_5; try clear C46_0 C46_1 C46_2 C46_3 C46_4 C46_5; try clear C6_0 C6_1 C6_2 C6_3 C6_4 C6_5; try clear F20_0 F20_1 F20_2 F20_3 F20_4 F20_5; try clear F22_0 F22_1 F22_2 F22_3 F22_4 F22_5; try clear F29_0 F29_1 F29_2 F29_3 F29_4 F29_5; try clear F33_0 F33_1 F33_2 F33_3 F33_4 F33_5; try clear F46_0 F46_1 F46_2 F46_3 F46_4 F46_5; try clear F6_0 F6_1 F6_2 F6_3 F6_4 F6_5
    obtain ⟨kq, x46_17, rfl, HA, HJ17, BK345, HRW, HRG, HB⟩ := hcut
    cases kq with
    | zero => exact absurd HA.out (by simp [laws_FnExactHeld.j0])
    | succ kj17 =>
     have H := HA.out
     clear HA
     simp only [laws_FnExactHeld.j0] at H
     by_cases c50 : x46_17 = true
     ·subst c50
      have H1 : (some false) = some true := by rw [if_pos rfl] at H; exact H
      exact absurd H1 (by simp)
     replace c50 := Bool.eq_false_iff.mpr c50
     subst c50
     have H1 : ((laws_markByteSS1.f kj17 t377 1).bind fun t396 => ((laws_heldByteSSm.f kj17 t377 1).bind fun t397 => (if t397 < 0 then (some false) else (if t397 = t396 then ((laws_toState.f kj17 a0_0 l0_1 l0_2 a0_3 l0_4 l0_5).bind fun bt398 => ((impl_Held.f kj17 bt398.1 bt398.2.1 bt398.2.2.1 bt398.2.2.2.1 bt398.2.2.2.2.1 bt398.2.2.2.2.2 a1).bind fun t412 => ((laws_eqByteSS.f kj17 t412 t361).bind fun t413 => (if t413 = true then ((laws_heldByteSSm.f kj17 t377 1).bind fun t414 => (if t414 < 0 then (some false) else (if t414 = t396 then (some true) else (some false)))) else (some false))))) else (some false))))) = some true := by rw [if_neg (show ¬ (false = true) by decide)] at H; exact H
     clear H
     have H := H1
     clear H1
     replace H := Option.bind_eq_some_iff.mp H
     obtain ⟨t396, A510, H⟩ := H
     replace H : ((laws_heldByteSSm.f kj17 t377 1).bind fun t397 => (if t397 < 0 then (some false) else (if t397 = t396 then ((laws_toState.f kj17 a0_0 l0_1 l0_2 a0_3 l0_4 l0_5).bind fun bt398 => ((impl_Held.f kj17 bt398.1 bt398.2.1 bt398.2.2.1 bt398.2.2.2.1 bt398.2.2.2.2.1 bt398.2.2.2.2.2 a1).bind fun t412 => ((laws_eqByteSS.f kj17 t412 t361).bind fun t413 => (if t413 = true then ((laws_heldByteSSm.f kj17 t377 1).bind fun t414 => (if t414 < 0 then (some false) else (if t414 = t396 then (some true) else (some false)))) else (some false))))) else (some false)))) = some true := H
     have A51 := Aside0.mk A510
     clear A510
     replace H := Option.bind_eq_some_iff.mp H
     obtain ⟨t397, A520, H⟩ := H
     replace H : (if t397 < 0 then (some false) else (if t397 = t396 then ((laws_toState.f kj17 a0_0 l0_1 l0_2 a0_3 l0_4 l0_5).bind fun bt398 => ((impl_Held.f kj17 bt398.1 bt398.2.1 bt398.2.2.1 bt398.2.2.2.1 bt398.2.2.2.2.1 bt398.2.2.2.2.2 a1).bind fun t412 => ((laws_eqByteSS.f kj17 t412 t361).bind fun t413 => (if t413 = true then ((laws_heldByteSSm.f kj17 t377 1).bind fun t414 => (if t414 < 0 then (some false) else (if t414 = t396 then (some true) else (some false)))) else (some false))))) else (some false))) = some true := H
     have A52 := Aside0.mk A520
     clear A520
     by_cases c53 : t397 < 0
     ·rw [if_pos c53] at H
      exact absurd H (by first | simp | (unfold laws_FnExactHeld.j0; split <;> simp))
     rw [if_neg c53] at H
     have c53b0 : decide (t397 < 0) = false := decide_eq_false c53
     clear c53
     by_cases c55 : t397 = t396
     ·rw [if_pos c55] at H
      have c55b0 : (t397 == t396) = true := beq_iff_eq.mpr c55
      have c55b1 : (t397 != t396) = false := bne_eq_false_iff_eq.mpr c55
      clear c55
      replace H := Option.bind_eq_some_iff.mp H
      obtain ⟨⟨t398, t399, t402, t405, t406, t409⟩, A560, H⟩ := H
      replace H : ((impl_Held.f kj17 t398 t399 t402 t405 t406 t409 a1).bind fun t412 => ((laws_eqByteSS.f kj17 t412 t361).bind fun t413 => (if t413 = true then ((laws_heldByteSSm.f kj17 t377 1).bind fun t414 => (if t414 < 0 then (some false) else (if t414 = t396 then (some true) else (some false)))) else (some false)))) = some true := H
      have A56 := Aside0.mk A560
      clear A560
      replace H := Option.bind_eq_some_iff.mp H
      obtain ⟨t412, A570, H⟩ := H
      replace H : ((laws_eqByteSS.f kj17 t412 t361).bind fun t413 => (if t413 = true then ((laws_heldByteSSm.f kj17 t377 1).bind fun t414 => (if t414 < 0 then (some false) else (if t414 = t396 then (some true) else (some false)))) else (some false))) = some true := H
      have A57 := Aside0.mk A570
      clear A570
      replace H := Option.bind_eq_some_iff.mp H
      obtain ⟨t413, A580, H⟩ := H
      replace H : (if t413 = true then ((laws_heldByteSSm.f kj17 t377 1).bind fun t414 => (if t414 < 0 then (some false) else (if t414 = t396 then (some true) else (some false)))) else (some false)) = some true := H
      have A58 := Aside0.mk A580
      clear A580
      by_cases c59 : t413 = true
      ·subst c59
       have H1 : ((laws_heldByteSSm.f kj17 t377 1).bind fun t414 => (if t414 < 0 then (some false) else (if t414 = t396 then (some true) else (some false)))) = some true := by rw [if_pos rfl] at H; exact H
       clear H
       have H := H1
       clear H1
       replace H := Option.bind_eq_some_iff.mp H
       obtain ⟨t414, A600, H⟩ := H
       replace H : (if t414 < 0 then (some false) else (if t414 = t396 then (some true) else (some false))) = some true := H
       have A60 := Aside0.mk A600
       clear A600
       by_cases c61 : t414 < 0
       ·rw [if_pos c61] at H
        exact absurd H (by first | simp | (unfold laws_FnExactHeld.j0; split <;> simp))
       rw [if_neg c61] at H
       have c61b0 : decide (t414 < 0) = false := decide_eq_false c61
       clear c61
       by_cases c70 : t414 = t396
       ·rw [if_pos c70] at H
        have c70b0 : (t414 == t396) = true := beq_iff_eq.mpr c70
        have c70b1 : (t414 != t396) = false := bne_eq_false_iff_eq.mpr c70
        clear c70
        clear H
        obtain ⟨hlenM, m2, hmM⟩ := laws_markByteSS1.get A51.out
        have HMM := Aside0.mk hmM
        have HLM := Aside0.mk hlenM
        have HH0 := Aside0.mk (laws_heldByteSSm.get hmM A52.out)
        have HH1 := Aside0.mk (laws_heldByteSSm.get hmM A60.out)
        clear hmM hlenM
        go_wp2_with (first | ((with_reducible refine gate_callee (f := 58) rfl ?_); refine gl_ (some 49) Try.func58 #[.slice AoG t377.length coG, .int .i64 1] (h := ?_); (refine (laws_markByteSS.calls kj17 (fun k_ => w30.heap.size ≤ k_) (.slice AoG t377.length coG) t377 1 t396 m2 w _ ?q1 ?q2 HLM.out HMM.out).mono ?_); (case q1 => exact bel); (case q2 => exact skp HRG); rintro e w71 ⟨rfl, hoM, hb, hkp⟩; refine ⟨_, rfl, ?_⟩; have n0_ := Aside0.mk (blk_kept (bkp BK345) hkp (fun hs_ => by have := GLT.out; have := HSZ12.out; (try simp only at hs_); omega)); have n1_ := Aside0.mk hb; have n2_ := Aside0.mk (Kd.S_kept (skp HRW) hkp (fun k_ h_ hs_ => by have := HSZ12.out; (try simp only at hs_ h_); omega)); have HRM := Aside0.mk hoM; clear BK345 HB HRW HRG; have BK345 := n0_; have HB := n1_; have HRW := n2_; clear n0_ n1_ n2_ hb hkp hoM; have hnM := (Kd.S_reads' HRM.out).1; rw [hnM] at HRM ⊢; clear hnM) | ((with_reducible refine gate_callee (f := 59) rfl ?_); refine gl_ (some 52) Try.func59 #[.slice AoG m2.length coG, .int .i64 1] (h := ?_); (with_reducible refine (laws_heldByteSS.calls kj17 _ _ m2 1 t397 _ ?q1 ?q2 HH0.out).mono ?_); (case q1 => repeat (first | exact (Kd.S_reads' HRM.out).2.2 | (with_reducible refine Kd.C_alloc ?_ _) | (with_reducible refine Kd.C_drewN ?_ _) | (with_reducible refine Kd.C_drew ?_))); (case q2 => exact (Kd.S_reads' HRM.out).2.1); rintro e w' ⟨rfl, ⟨nd, rfl⟩⟩; refine ⟨_, rfl, ?_⟩; obtain ⟨C72_0, C72_1, C72_2, C72_3, C72_4, C72_5, -⟩ := cells_6 BK345.out trivial; obtain ⟨F72_0, F72_1, F72_2, F72_3, F72_4, F72_5, -⟩ := frz_6 BK345.out) | ((with_reducible refine gate_callee (f := 17) rfl ?_); refine gl_ (some 59) Try.func17 #[.agg #[.int .i64 a0_0, .slice A0_1 l0_1.length c0_1, .slice A0_2 l0_2.length c0_2, .int .i64 a0_3, .slice A0_4 l0_4.length c0_4, .slice A0_5 l0_5.length c0_5]] (h := ?_); (with_reducible refine (laws_toState.calls kj17 a0_0 _ _ l0_1 _ _ l0_2 a0_3 _ _ l0_4 _ _ l0_5 t398 t399 t402 t405 t406 t409 _ ?side1 ?side2 ?side3 ?side4 ?side5 ?side6 ?side7 ?side8 A56.out).mono ?_); (case side1 => exact kcb); (case side2 => exact HC0_1.out); (case side3 => exact kcb); (case side4 => exact HC0_2.out); (case side5 => exact kcb); (case side6 => exact HC0_4.out); (case side7 => exact kcb); (case side8 => exact HC0_5.out); rintro e w73 ⟨v400, v403, v407, v410, rfl, ho0, ho1, ho2, ho3, hb⟩; refine ⟨_, rfl, ?_⟩; replace HRW := Aside0.mk (Kd.S_below (skp HRW) hb); replace HRM := Aside0.mk (Kd.S_below (skp HRM) hb); have HO401 := Aside0.mk (Kd.S_lower ho0 (below_size bel)); have HO404 := Aside0.mk (Kd.S_lower ho1 (below_size bel)); have HO408 := Aside0.mk (Kd.R_lower ho2 (below_size bel)); have HO411 := Aside0.mk (Kd.R_lower ho3 (below_size bel)); replace BK345 := Aside0.mk (blb BK345 hb); replace HB := bst hb; (try clear hb); (try clear hb2); (try clear hk); (try clear hi); (try clear ho0); (try clear ho1); (try clear ho2); (try clear ho3); obtain ⟨Ao74, co74, eo74⟩ := Kd.S_slice HO401.out; subst eo74; obtain ⟨Ao75, co75, eo75⟩ := Kd.S_slice HO404.out; subst eo75; obtain ⟨Ao76, co76, eo76⟩ := Kd.R_slice HO408.out; subst eo76; obtain ⟨Ao77, co77, eo77⟩ := Kd.R_slice HO411.out; subst eo77) | ((with_reducible refine gate_callee (f := 55) rfl ?_); refine gl_ (some 61) Try.func55 #[.agg #[.int .i64 t398, .slice Ao74 t399.length co74, .slice Ao75 t402.length co75, .int .i64 t405, .slice Ao76 t406.length co76, .slice Ao77 t409.length co77], .int .i64 a1] (h := ?_); (with_reducible refine (impl_Held.calls kj17 t398 _ _ t399 _ _ t402 t405 _ _ t406 _ _ t409 a1 t412 _ ?side1 ?side2 ?side3 ?side4 ?side5 ?side6 ?side7 ?side8 A57.out).mono ?_); (case side1 => repeat (first | exact (Kd.S_reads' HO401.out).2.2 | (with_reducible refine Kd.C_alloc ?_ _) | (with_reducible refine Kd.C_drewN ?_ _) | (with_reducible refine Kd.C_drew ?_))); (case side2 => exact (Kd.S_reads' HO401.out).2.1); (case side3 => repeat (first | exact (Kd.S_reads' HO404.out).2.2 | (with_reducible refine Kd.C_alloc ?_ _) | (with_reducible refine Kd.C_drewN ?_ _) | (with_reducible refine Kd.C_drew ?_))); (case side4 => exact (Kd.S_reads' HO404.out).2.1); (case side5 => repeat (first | exact (Kd.R_reads' HO408.out).2.2 | (with_reducible refine Kd.C_alloc ?_ _) | (with_reducible refine Kd.C_drewN ?_ _) | (with_reducible refine Kd.C_drew ?_))); (case side6 => exact (Kd.R_reads' HO408.out).2.1); (case side7 => repeat (first | exact (Kd.R_reads' HO411.out).2.2 | (with_reducible refine Kd.C_alloc ?_ _) | (with_reducible refine Kd.C_drewN ?_ _) | (with_reducible refine Kd.C_drew ?_))); (case side8 => exact (Kd.R_reads' HO411.out).2.1); rintro e w78 ⟨vH, rfl, hoH, hb⟩; refine ⟨_, rfl, ?_⟩; have HRH := Aside0.mk hoH; clear hoH; obtain ⟨AoH, coH, eoH⟩ := Kd.S_slice HRH.out; subst eoH; replace HRW := Aside0.mk (Kd.S_below (skp HRW) hb); replace HRM := Aside0.mk (Kd.S_below (skp HRM) hb); replace HO401 := Aside0.mk (Kd.S_below (skp HO401) hb); replace HO404 := Aside0.mk (Kd.S_below (skp HO404) hb); replace HO408 := Aside0.mk (rbl HO408 hb); replace HO411 := Aside0.mk (rbl HO411 hb); replace BK345 := Aside0.mk (blb BK345 hb); replace HB := bst hb; (try clear hb); (try clear hb2); (try clear hk); (try clear hi)) | ((with_reducible refine gate_callee (f := 56) rfl ?_); refine gl_ (some 64) Try.func56 #[.slice AoH t412.length coH, .slice AoW t361.length coW] (h := ?_); (with_reducible refine (laws_eqByteSS.calls kj17 _ _ t412 _ _ t361 true _ ?q1 ?q2 ?q3 ?q4 A58.out).mono ?_); (case q1 => repeat (first | exact (Kd.S_reads' HRH.out).2.2 | (with_reducible refine Kd.C_alloc ?_ _) | (with_reducible refine Kd.C_drewN ?_ _) | (with_reducible refine Kd.C_drew ?_))); (case q2 => exact (Kd.S_reads' HRH.out).2.1); (case q3 => repeat (first | exact (Kd.S_reads' HRW.out).2.2 | (with_reducible refine Kd.C_alloc ?_ _) | (with_reducible refine Kd.C_drewN ?_ _) | (with_reducible refine Kd.C_drew ?_))); (case q4 => exact (Kd.S_reads' HRW.out).2.1); rintro e w' ⟨rfl, ⟨nd, rfl⟩⟩; refine ⟨_, rfl, ?_⟩) | ((with_reducible refine gate_callee (f := 59) rfl ?_); refine gl_ (some 68) Try.func59 #[.slice AoG m2.length coG, .int .i64 1] (h := ?_); (with_reducible refine (laws_heldByteSS.calls kj17 _ _ m2 1 t414 _ ?q1 ?q2 HH1.out).mono ?_); (case q1 => repeat (first | exact (Kd.S_reads' HRM.out).2.2 | (with_reducible refine Kd.C_alloc ?_ _) | (with_reducible refine Kd.C_drewN ?_ _) | (with_reducible refine Kd.C_drew ?_))); (case q2 => exact (Kd.S_reads' HRM.out).2.1); rintro e w' ⟨rfl, ⟨nd, rfl⟩⟩; refine ⟨_, rfl, ?_⟩))
        go_ret
        exact ⟨rz_, bel⟩
       rw [if_neg c70] at H
       exact absurd H (by first | simp | (unfold laws_FnExactHeld.j0; split <;> simp))
      replace c59 := Bool.eq_false_iff.mpr c59
      subst c59
      have H1 : (some false) = some true := by rw [if_neg (show ¬ (false = true) by decide)] at H; exact H
      exact absurd H1 (by simp)
     rw [if_neg c55] at H
     exact absurd H (by first | simp | (unfold laws_FnExactHeld.j0; split <;> simp))
  replace c16 := Bool.eq_false_iff.mpr c16
  subst c16
  have H1 : (some false) = some true := by rw [if_neg (show ¬ (false = true) by decide)] at H; exact H
  exact absurd H1 (by simp)
 replace c13 := Bool.eq_false_iff.mpr c13
 subst c13
 have H1 : (some false) = some true := by rw [if_neg (show ¬ (false = true) by decide)] at H; exact H
 exact absurd H1 (by simp)

/-- THE ONE PURE STATEMENT of laws_FnExactHeld. -/
def laws_FnExactHeld.Pure : Prop := ∀ (x0 : S27) (a1 : Int), okS27 x0 → (Lit.int .i64 a1).wf = true → ∃ k, laws_FnExactHeld.f k x0.f0 x0.f1 x0.f2 x0.f3 x0.f4 x0.f5 a1 = some true
theorem laws_FnExactHeld.walk (P : laws_FnExactHeld.Pure) (x0 : S27) (cs0 : List Value) (a1 : Int) (w : World) (w0 : k27.K w x0 cs0) (o0 : okS27 x0) (w1 : (Lit.int .i64 a1).wf = true) :
  Calls Try.prog 10 #[.agg ⟨cs0⟩, .int .i64 a1] w fun e w' => e = .returned (.bool true) ∧ Below w.heap.size w w' := by
 obtain ⟨A0_1, c0_1, A0_2, c0_2, A0_4, c0_4, A0_5, c0_5, rfl, m0_1, g0_1, m0_2, g0_2, m0_4, g0_4, m0_5, g0_5⟩ := k27_open w0
 obtain ⟨k, h⟩ := P x0 a1 o0 w1
 refine (laws_FnExactHeld.calls k x0.f0 _ _ x0.f1 _ _ x0.f2 x0.f3 _ _ x0.f4 _ _ x0.f5 a1 w g0_1 m0_1 g0_2 m0_2 g0_4 m0_4 g0_5 m0_5 h).mono ?_
 rintro e w' ⟨rfl, hd⟩
 exact ⟨rfl, hd⟩

end Go.Proofs.Ytdgegnakiljfjaa.PH
