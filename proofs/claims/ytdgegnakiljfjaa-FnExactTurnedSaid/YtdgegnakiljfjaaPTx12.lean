-- Written for this claim by the session's program pp.py, out of the kit's print and the seat's translation.
import Derived.Test.YtdgegnakiljfjaaPTx0
import Derived.Test.YtdgegnakiljfjaaPTx1
import Derived.Test.YtdgegnakiljfjaaPTx2
import Derived.Test.YtdgegnakiljfjaaPTx4
import Derived.Test.YtdgegnakiljfjaaPTx7
import Derived.Test.YtdgegnakiljfjaaPTx8
import Derived.Test.YtdgegnakiljfjaaPTx9
import Derived.Test.YtdgegnakiljfjaaPTx11
namespace Go.Proofs.Ytdgegnakiljfjaa.PT
open Go.RowKit Go.Proofs.YtdgegnakiljfjaaW.PrintWords Go.Proofs.YtdgegnakiljfjaaW.PrintLast Go.Proofs.YtdgegnakiljfjaaW.PrintMore
attribute [local go_sem] max2_int min2_int max_two min_two max_three min_three max_four min_four   -- for this text's walks alone
set_option linter.unusedVariables false
set_option linter.unusedSimpArgs false

/-! ### laws_FnExactTurned: function 14 -/
mutual
def laws_FnExactTurned.j0 : Nat → Int → List (List Int) → Bool → List (List Int) → Bool → Bool → Int → List (S174) → List (S176) → Int → List (S180) → List (S184) → Int → List (S92) → List (S94) → Int → List (S109) → List (S75) → Option (Bool)
 | 0, _, _, _, _, _, _, _, _, _, _, _, _, _, _, _, _, _, _ => none
 | k + 1, x1, x6, x7, x9, x10, x44, x363000, x363001, x363002, x363003, x363004, x363005, x395000, x395001, x395002, x395003, x395004, x395005 => if x44 = true then (some false) else ((laws_toState.f k x363000 x363001 x363002 x363003 x363004 x363005).bind fun bt398 => ((laws_eqState.f k x395000 x395001 x395002 x395003 x395004 x395005 bt398.1 bt398.2.1 bt398.2.2.1 bt398.2.2.2.1 bt398.2.2.2.2.1 bt398.2.2.2.2.2).bind fun t412 => (if t412 = true then ((laws_markState.f x395000 x395001 x395002 x395003 x395004 x395005 1).bind fun t413 => (if t413 < 0 then (laws_FnExactTurned.j1 k x1 x6 x7 x9 true x363000 x363001 x363002 x363003 x363004 x363005) else ((laws_eqByteSS.f k x9 x6).bind fun t414 => (if t414 = true then (laws_FnExactTurned.j1 k x1 x6 x7 x9 (x10 != x7) x363000 x363001 x363002 x363003 x363004 x363005) else (laws_FnExactTurned.j1 k x1 x6 x7 x9 true x363000 x363001 x363002 x363003 x363004 x363005))))) else (some false))))
def laws_FnExactTurned.j1 : Nat → Int → List (List Int) → Bool → List (List Int) → Bool → Int → List (S174) → List (S176) → Int → List (S180) → List (S184) → Option (Bool)
 | 0, _, _, _, _, _, _, _, _, _, _, _ => none
 | k + 1, x1, x6, x7, x9, x65, x363000, x363001, x363002, x363003, x363004, x363005 => if x65 = true then (some false) else ((laws_markByteSS1.f k x9 1).bind fun t415 => ((laws_heldByteSSm.f k x9 1).bind fun t416 => (if t416 < 0 then (some false) else (if t416 = t415 then ((laws_toState.f k x363000 x363001 x363002 x363003 x363004 x363005).bind fun bt417 => ((impl_Turned.f k bt417.1 bt417.2.1 bt417.2.2.1 bt417.2.2.2.1 bt417.2.2.2.2.1 bt417.2.2.2.2.2 x1).bind fun bt431 => ((laws_eqByteSS.f k bt431.1 x6).bind fun t433 => (if t433 = true then (laws_FnExactTurned.j2 k x9 t415 (bt431.2 != x7)) else (laws_FnExactTurned.j2 k x9 t415 true))))) else (some false)))))
def laws_FnExactTurned.j2 : Nat → List (List Int) → Int → Bool → Option (Bool)
 | 0, _, _, _ => none
 | k + 1, x9, x12, x92 => if x92 = true then (some false) else ((laws_heldByteSSm.f k x9 1).bind fun t434 => (if t434 < 0 then (some false) else (if t434 = x12 then (some true) else (some false))))
end
def laws_FnExactTurned.f (k : Nat) (a0_0 : Int) (l0_1 : List (S174)) (l0_2 : List (S176)) (a0_3 : Int) (l0_4 : List (S180)) (l0_5 : List (S184)) (a1 : Int) : Option (Bool) := (laws_szState.f k a0_0 l0_1 l0_2 a0_3 l0_4 l0_5 1048576).bind fun t363 => (if t363 < 0 then (some true) else ((laws_toState.f k a0_0 l0_1 l0_2 a0_3 l0_4 l0_5).bind fun bt364 => ((spec_Turned.f k bt364.1 bt364.2.1 bt364.2.2.1 bt364.2.2.2.1 bt364.2.2.2.2.1 bt364.2.2.2.2.2 a1).bind fun bt378 => ((laws_toState.f k a0_0 l0_1 l0_2 a0_3 l0_4 l0_5).bind fun bt380 => ((impl_Turned.f k bt380.1 bt380.2.1 bt380.2.2.1 bt380.2.2.2.1 bt380.2.2.2.2.1 bt380.2.2.2.2.2 a1).bind fun bt395 => ((laws_eqByteSS.f k bt395.1 bt378.1).bind fun t397 => (if t397 = true then (laws_FnExactTurned.j0 k a1 bt378.1 bt378.2 bt395.1 bt395.2 (bt395.2 != bt378.2) a0_0 l0_1 l0_2 a0_3 l0_4 l0_5 bt380.1 bt380.2.1 bt380.2.2.1 bt380.2.2.2.1 bt380.2.2.2.2.1 bt380.2.2.2.2.2) else (laws_FnExactTurned.j0 k a1 bt378.1 bt378.2 bt395.1 bt395.2 true a0_0 l0_1 l0_2 a0_3 l0_4 l0_5 bt380.1 bt380.2.1 bt380.2.2.1 bt380.2.2.2.1 bt380.2.2.2.2.1 bt380.2.2.2.2.2))))))))
set_option maxHeartbeats 8000000 in
set_option maxRecDepth 100000 in
theorem laws_FnExactTurned.calls (k : Nat) (a0_0 : Int) (A0_1 : Option Addr) (c0_1 : Nat) (l0_1 : List (S174)) (A0_2 : Option Addr) (c0_2 : Nat) (l0_2 : List (S176)) (a0_3 : Int) (A0_4 : Option Addr) (c0_4 : Nat) (l0_4 : List (S180)) (A0_5 : Option Addr) (c0_5 : Nat) (l0_5 : List (S184)) (a1 : Int) (w : World) (hr0_1 : Kd.C k174 w A0_1 l0_1.length l0_1) (hc0_1 : l0_1.length ≤ c0_1) (hr0_2 : Kd.C k176 w A0_2 l0_2.length l0_2) (hc0_2 : l0_2.length ≤ c0_2) (hr0_4 : Kd.C k180 w A0_4 l0_4.length l0_4) (hc0_4 : l0_4.length ≤ c0_4) (hr0_5 : Kd.C k184 w A0_5 l0_5.length l0_5) (hc0_5 : l0_5.length ≤ c0_5) (h : laws_FnExactTurned.f k a0_0 l0_1 l0_2 a0_3 l0_4 l0_5 a1 = some true) :
  Calls Try.prog 14 #[.agg #[.int .i64 a0_0, .slice A0_1 l0_1.length c0_1, .slice A0_2 l0_2.length c0_2, .int .i64 a0_3, .slice A0_4 l0_4.length c0_4, .slice A0_5 l0_5.length c0_5], .int .i64 a1] w fun e w' => e = .returned (.bool true) ∧ Below w.heap.size w w' := by
 have hu27 := Try.underlying27
 have hu35 := Try.underlying35
 have HR0_1 := Aside0.mk hr0_1
 have HC0_1 := Aside0.mk hc0_1
 clear hr0_1 hc0_1
 have HR0_2 := Aside0.mk hr0_2
 have HC0_2 := Aside0.mk hc0_2
 clear hr0_2 hc0_2
 have HR0_4 := Aside0.mk hr0_4
 have HC0_4 := Aside0.mk hc0_4
 clear hr0_4 hc0_4
 have HR0_5 := Aside0.mk hr0_5
 have HC0_5 := Aside0.mk hc0_5
 clear hr0_5 hc0_5
 have HB := Aside0.mk (Below.refl w.heap.size w)
 have H : ((laws_szState.f k a0_0 l0_1 l0_2 a0_3 l0_4 l0_5 1048576).bind fun t363 => (if t363 < 0 then (some true) else ((laws_toState.f k a0_0 l0_1 l0_2 a0_3 l0_4 l0_5).bind fun bt364 => ((spec_Turned.f k bt364.1 bt364.2.1 bt364.2.2.1 bt364.2.2.2.1 bt364.2.2.2.2.1 bt364.2.2.2.2.2 a1).bind fun bt378 => ((laws_toState.f k a0_0 l0_1 l0_2 a0_3 l0_4 l0_5).bind fun bt380 => ((impl_Turned.f k bt380.1 bt380.2.1 bt380.2.2.1 bt380.2.2.2.1 bt380.2.2.2.2.1 bt380.2.2.2.2.2 a1).bind fun bt395 => ((laws_eqByteSS.f k bt395.1 bt378.1).bind fun t397 => (if t397 = true then (laws_FnExactTurned.j0 k a1 bt378.1 bt378.2 bt395.1 bt395.2 (bt395.2 != bt378.2) a0_0 l0_1 l0_2 a0_3 l0_4 l0_5 bt380.1 bt380.2.1 bt380.2.2.1 bt380.2.2.2.1 bt380.2.2.2.2.1 bt380.2.2.2.2.2) else (laws_FnExactTurned.j0 k a1 bt378.1 bt378.2 bt395.1 bt395.2 true a0_0 l0_1 l0_2 a0_3 l0_4 l0_5 bt380.1 bt380.2.1 bt380.2.2.1 bt380.2.2.2.1 bt380.2.2.2.2.1 bt380.2.2.2.2.2))))))))) = some true := h
 clear h
 replace H := Option.bind_eq_some_iff.mp H
 obtain ⟨t363, A30, H⟩ := H
 replace H : (if t363 < 0 then (some true) else ((laws_toState.f k a0_0 l0_1 l0_2 a0_3 l0_4 l0_5).bind fun bt364 => ((spec_Turned.f k bt364.1 bt364.2.1 bt364.2.2.1 bt364.2.2.2.1 bt364.2.2.2.2.1 bt364.2.2.2.2.2 a1).bind fun bt378 => ((laws_toState.f k a0_0 l0_1 l0_2 a0_3 l0_4 l0_5).bind fun bt380 => ((impl_Turned.f k bt380.1 bt380.2.1 bt380.2.2.1 bt380.2.2.2.1 bt380.2.2.2.2.1 bt380.2.2.2.2.2 a1).bind fun bt395 => ((laws_eqByteSS.f k bt395.1 bt378.1).bind fun t397 => (if t397 = true then (laws_FnExactTurned.j0 k a1 bt378.1 bt378.2 bt395.1 bt395.2 (bt395.2 != bt378.2) a0_0 l0_1 l0_2 a0_3 l0_4 l0_5 bt380.1 bt380.2.1 bt380.2.2.1 bt380.2.2.2.1 bt380.2.2.2.2.1 bt380.2.2.2.2.2) else (laws_FnExactTurned.j0 k a1 bt378.1 bt378.2 bt395.1 bt395.2 true a0_0 l0_1 l0_2 a0_3 l0_4 l0_5 bt380.1 bt380.2.1 bt380.2.2.1 bt380.2.2.2.1 bt380.2.2.2.2.1 bt380.2.2.2.2.2)))))))) = some true := H
 have A3 := Aside0.mk A30
 clear A30
 by_cases c4 : t363 < 0
 ·rw [if_pos c4] at H
  have c4b0 : decide (t363 < 0) = true := decide_eq_true c4
  clear c4
  clear H
  go_enter Try.func14, Try.ntmps14
  go_wp2_with (first | ((with_reducible refine gate_dst (N := 2) rfl ?_); refine bx_ 2 #[.int .i64 a0_0, .slice A0_1 l0_1.length c0_1, .slice A0_2 l0_2.length c0_2, .int .i64 a0_3, .slice A0_4 l0_4.length c0_4, .slice A0_5 l0_5.length c0_5] 27 (h := ?_); intro gb362 hg w5 hbox hb; have BK362 := Aside0.mk (hbox); have GW362 := Aside0.mk ((by rw [hg]; exact (below_size bel) : w.heap.size ≤ gb362)); have GE362 := GW362; replace HB := bst hb; clear hb hbox hg; obtain ⟨C6_0, C6_1, C6_2, C6_3, C6_4, C6_5, -⟩ := cells_6 BK362.out trivial; obtain ⟨F6_0, F6_1, F6_2, F6_3, F6_4, F6_5, -⟩ := frz_6 BK362.out) | ((with_reducible refine gate_callee (f := 15) rfl ?_); refine gl_ (some 18) Try.func15 #[.agg #[.int .i64 a0_0, .slice A0_1 l0_1.length c0_1, .slice A0_2 l0_2.length c0_2, .int .i64 a0_3, .slice A0_4 l0_4.length c0_4, .slice A0_5 l0_5.length c0_5], .int .i64 1048576] (h := ?_); (with_reducible refine (laws_szState.calls k a0_0 _ _ l0_1 _ _ l0_2 a0_3 _ _ l0_4 _ _ l0_5 1048576 t363 _ ?side1 ?side2 ?side3 ?side4 ?side5 ?side6 ?side7 ?side8 A3.out).mono ?_); (case side1 => exact kcb); (case side2 => exact HC0_1.out); (case side3 => exact kcb); (case side4 => exact HC0_2.out); (case side5 => exact kcb); (case side6 => exact HC0_4.out); (case side7 => exact kcb); (case side8 => exact HC0_5.out); rintro e w7 ⟨rfl, hb⟩; refine ⟨_, rfl, ?_⟩; replace BK362 := Aside0.mk (blb BK362 hb); replace HB := bst hb; (try clear hb); (try clear hb2); (try clear hk); (try clear hi)))
  go_ret
  exact ⟨rz_, bel⟩
 rw [if_neg c4] at H
 have c4b0 : decide (t363 < 0) = false := decide_eq_false c4
 clear c4
 replace H := Option.bind_eq_some_iff.mp H
 obtain ⟨⟨t364, t365, t368, t371, t372, t375⟩, A80, H⟩ := H
 replace H : ((spec_Turned.f k t364 t365 t368 t371 t372 t375 a1).bind fun bt378 => ((laws_toState.f k a0_0 l0_1 l0_2 a0_3 l0_4 l0_5).bind fun bt380 => ((impl_Turned.f k bt380.1 bt380.2.1 bt380.2.2.1 bt380.2.2.2.1 bt380.2.2.2.2.1 bt380.2.2.2.2.2 a1).bind fun bt395 => ((laws_eqByteSS.f k bt395.1 bt378.1).bind fun t397 => (if t397 = true then (laws_FnExactTurned.j0 k a1 bt378.1 bt378.2 bt395.1 bt395.2 (bt395.2 != bt378.2) a0_0 l0_1 l0_2 a0_3 l0_4 l0_5 bt380.1 bt380.2.1 bt380.2.2.1 bt380.2.2.2.1 bt380.2.2.2.2.1 bt380.2.2.2.2.2) else (laws_FnExactTurned.j0 k a1 bt378.1 bt378.2 bt395.1 bt395.2 true a0_0 l0_1 l0_2 a0_3 l0_4 l0_5 bt380.1 bt380.2.1 bt380.2.2.1 bt380.2.2.2.1 bt380.2.2.2.2.1 bt380.2.2.2.2.2)))))) = some true := H
 have A8 := Aside0.mk A80
 clear A80
 replace H := Option.bind_eq_some_iff.mp H
 obtain ⟨⟨t378, t379⟩, A90, H⟩ := H
 replace H : ((laws_toState.f k a0_0 l0_1 l0_2 a0_3 l0_4 l0_5).bind fun bt380 => ((impl_Turned.f k bt380.1 bt380.2.1 bt380.2.2.1 bt380.2.2.2.1 bt380.2.2.2.2.1 bt380.2.2.2.2.2 a1).bind fun bt395 => ((laws_eqByteSS.f k bt395.1 t378).bind fun t397 => (if t397 = true then (laws_FnExactTurned.j0 k a1 t378 t379 bt395.1 bt395.2 (bt395.2 != t379) a0_0 l0_1 l0_2 a0_3 l0_4 l0_5 bt380.1 bt380.2.1 bt380.2.2.1 bt380.2.2.2.1 bt380.2.2.2.2.1 bt380.2.2.2.2.2) else (laws_FnExactTurned.j0 k a1 t378 t379 bt395.1 bt395.2 true a0_0 l0_1 l0_2 a0_3 l0_4 l0_5 bt380.1 bt380.2.1 bt380.2.2.1 bt380.2.2.2.1 bt380.2.2.2.2.1 bt380.2.2.2.2.2))))) = some true := H
 have A9 := Aside0.mk A90
 clear A90
 replace H := Option.bind_eq_some_iff.mp H
 obtain ⟨⟨t380, t381, t384, t387, t388, t391⟩, A100, H⟩ := H
 replace H : ((impl_Turned.f k t380 t381 t384 t387 t388 t391 a1).bind fun bt395 => ((laws_eqByteSS.f k bt395.1 t378).bind fun t397 => (if t397 = true then (laws_FnExactTurned.j0 k a1 t378 t379 bt395.1 bt395.2 (bt395.2 != t379) a0_0 l0_1 l0_2 a0_3 l0_4 l0_5 t380 t381 t384 t387 t388 t391) else (laws_FnExactTurned.j0 k a1 t378 t379 bt395.1 bt395.2 true a0_0 l0_1 l0_2 a0_3 l0_4 l0_5 t380 t381 t384 t387 t388 t391)))) = some true := H
 have A10 := Aside0.mk A100
 clear A100
 replace H := Option.bind_eq_some_iff.mp H
 obtain ⟨⟨t395, t396⟩, A110, H⟩ := H
 replace H : ((laws_eqByteSS.f k t395 t378).bind fun t397 => (if t397 = true then (laws_FnExactTurned.j0 k a1 t378 t379 t395 t396 (t396 != t379) a0_0 l0_1 l0_2 a0_3 l0_4 l0_5 t380 t381 t384 t387 t388 t391) else (laws_FnExactTurned.j0 k a1 t378 t379 t395 t396 true a0_0 l0_1 l0_2 a0_3 l0_4 l0_5 t380 t381 t384 t387 t388 t391))) = some true := H
 have A11 := Aside0.mk A110
 clear A110
 have HC12 := Aside0.mk H
 clear H
 go_enter Try.func14, Try.ntmps14
 go_upto_region 8 with (first | ((with_reducible refine gate_dst (N := 2) rfl ?_); refine bx_ 2 #[.int .i64 a0_0, .slice A0_1 l0_1.length c0_1, .slice A0_2 l0_2.length c0_2, .int .i64 a0_3, .slice A0_4 l0_4.length c0_4, .slice A0_5 l0_5.length c0_5] 27 (h := ?_); intro gb362 hg w13 hbox hb; have BK362 := Aside0.mk (hbox); have GW362 := Aside0.mk ((by rw [hg]; exact (below_size bel) : w.heap.size ≤ gb362)); have GE362 := GW362; replace HB := bst hb; clear hb hbox hg; obtain ⟨C14_0, C14_1, C14_2, C14_3, C14_4, C14_5, -⟩ := cells_6 BK362.out trivial; obtain ⟨F14_0, F14_1, F14_2, F14_3, F14_4, F14_5, -⟩ := frz_6 BK362.out) | ((with_reducible refine gate_callee (f := 15) rfl ?_); refine gl_ (some 18) Try.func15 #[.agg #[.int .i64 a0_0, .slice A0_1 l0_1.length c0_1, .slice A0_2 l0_2.length c0_2, .int .i64 a0_3, .slice A0_4 l0_4.length c0_4, .slice A0_5 l0_5.length c0_5], .int .i64 1048576] (h := ?_); (with_reducible refine (laws_szState.calls k a0_0 _ _ l0_1 _ _ l0_2 a0_3 _ _ l0_4 _ _ l0_5 1048576 t363 _ ?side1 ?side2 ?side3 ?side4 ?side5 ?side6 ?side7 ?side8 A3.out).mono ?_); (case side1 => exact kcb); (case side2 => exact HC0_1.out); (case side3 => exact kcb); (case side4 => exact HC0_2.out); (case side5 => exact kcb); (case side6 => exact HC0_4.out); (case side7 => exact kcb); (case side8 => exact HC0_5.out); rintro e w15 ⟨rfl, hb⟩; refine ⟨_, rfl, ?_⟩; replace BK362 := Aside0.mk (blb BK362 hb); replace HB := bst hb; (try clear hb); (try clear hb2); (try clear hk); (try clear hi); obtain ⟨C16_0, C16_1, C16_2, C16_3, C16_4, C16_5, -⟩ := cells_6 BK362.out trivial; obtain ⟨F16_0, F16_1, F16_2, F16_3, F16_4, F16_5, -⟩ := frz_6 BK362.out) | ((with_reducible refine gate_callee (f := 17) rfl ?_); refine gl_ (some 23) Try.func17 #[.agg #[.int .i64 a0_0, .slice A0_1 l0_1.length c0_1, .slice A0_2 l0_2.length c0_2, .int .i64 a0_3, .slice A0_4 l0_4.length c0_4, .slice A0_5 l0_5.length c0_5]] (h := ?_); (with_reducible refine (laws_toState.calls k a0_0 _ _ l0_1 _ _ l0_2 a0_3 _ _ l0_4 _ _ l0_5 t364 t365 t368 t371 t372 t375 _ ?side1 ?side2 ?side3 ?side4 ?side5 ?side6 ?side7 ?side8 A8.out).mono ?_); (case side1 => exact kcb); (case side2 => exact HC0_1.out); (case side3 => exact kcb); (case side4 => exact HC0_2.out); (case side5 => exact kcb); (case side6 => exact HC0_4.out); (case side7 => exact kcb); (case side8 => exact HC0_5.out); rintro e w17 ⟨v366, v369, v373, v376, rfl, ho0, ho1, ho2, ho3, hb⟩; refine ⟨_, rfl, ?_⟩; have HO367 := Aside0.mk (Kd.S_lower ho0 (below_size bel)); have HO370 := Aside0.mk (Kd.S_lower ho1 (below_size bel)); have HO374 := Aside0.mk (Kd.R_lower ho2 (below_size bel)); have HO377 := Aside0.mk (Kd.R_lower ho3 (below_size bel)); replace BK362 := Aside0.mk (blb BK362 hb); replace HB := bst hb; (try clear hb); (try clear hb2); (try clear hk); (try clear hi); (try clear ho0); (try clear ho1); (try clear ho2); (try clear ho3); obtain ⟨Ao18, co18, eo18⟩ := Kd.S_slice HO367.out; subst eo18; obtain ⟨Ao19, co19, eo19⟩ := Kd.S_slice HO370.out; subst eo19; obtain ⟨Ao20, co20, eo20⟩ := Kd.R_slice HO374.out; subst eo20; obtain ⟨Ao21, co21, eo21⟩ := Kd.R_slice HO377.out; subst eo21) | ((with_reducible refine gate_callee (f := 66) rfl ?_); refine gl_ (some 25) Try.func66 #[.agg #[.int .i64 t364, .slice Ao18 t365.length co18, .slice Ao19 t368.length co19, .int .i64 t371, .slice Ao20 t372.length co20, .slice Ao21 t375.length co21], .int .i64 a1] (h := ?_); (with_reducible refine (spec_Turned.calls k t364 _ _ t365 _ _ t368 t371 _ _ t372 _ _ t375 a1 t378 t379 _ ?side1 ?side2 ?side3 ?side4 ?side5 ?side6 ?side7 ?side8 A9.out).mono ?_); (case side1 => repeat (first | exact (Kd.S_reads' HO367.out).2.2 | (with_reducible refine Kd.C_alloc ?_ _) | (with_reducible refine Kd.C_drewN ?_ _) | (with_reducible refine Kd.C_drew ?_))); (case side2 => exact (Kd.S_reads' HO367.out).2.1); (case side3 => repeat (first | exact (Kd.S_reads' HO370.out).2.2 | (with_reducible refine Kd.C_alloc ?_ _) | (with_reducible refine Kd.C_drewN ?_ _) | (with_reducible refine Kd.C_drew ?_))); (case side4 => exact (Kd.S_reads' HO370.out).2.1); (case side5 => repeat (first | exact (Kd.R_reads' HO374.out).2.2 | (with_reducible refine Kd.C_alloc ?_ _) | (with_reducible refine Kd.C_drewN ?_ _) | (with_reducible refine Kd.C_drew ?_))); (case side6 => exact (Kd.R_reads' HO374.out).2.1); (case side7 => repeat (first | exact (Kd.R_reads' HO377.out).2.2 | (with_reducible refine Kd.C_alloc ?_ _) | (with_reducible refine Kd.C_drewN ?_ _) | (with_reducible refine Kd.C_drew ?_))); (case side8 => exact (Kd.R_reads' HO377.out).2.1); rintro e w22 ⟨vW, rfl, hoW, hb⟩; refine ⟨_, rfl, ?_⟩; have HRW := Aside0.mk (Kd.S_mono (ok' := fun k_ => k_ < w22.heap.size) (Kd.S_lower (Kd.S_bound hoW) (below_size bel)) (fun _ h_ => h_.2.2.1)); clear hoW; obtain ⟨AoW, coW, eoW⟩ := Kd.S_slice HRW.out; subst eoW; replace HO367 := Aside0.mk (Kd.S_below (skp HO367) hb); replace HO370 := Aside0.mk (Kd.S_below (skp HO370) hb); replace HO374 := Aside0.mk (rbl HO374 hb); replace HO377 := Aside0.mk (rbl HO377 hb); replace BK362 := Aside0.mk (blb BK362 hb); have GLT := Aside0.mk (show gb362 < w22.heap.size from blk_lt BK362.out); replace HB := bst hb; (try clear hb); (try clear hb2); (try clear hk); (try clear hi); obtain ⟨C23_0, C23_1, C23_2, C23_3, C23_4, C23_5, -⟩ := cells_6 BK362.out trivial; obtain ⟨F23_0, F23_1, F23_2, F23_3, F23_4, F23_5, -⟩ := frz_6 BK362.out) | ((with_reducible refine gate_callee (f := 17) rfl ?_); refine gl_ (some 29) Try.func17 #[.agg #[.int .i64 a0_0, .slice A0_1 l0_1.length c0_1, .slice A0_2 l0_2.length c0_2, .int .i64 a0_3, .slice A0_4 l0_4.length c0_4, .slice A0_5 l0_5.length c0_5]] (h := ?_); (with_reducible refine (laws_toState.calls k a0_0 _ _ l0_1 _ _ l0_2 a0_3 _ _ l0_4 _ _ l0_5 t380 t381 t384 t387 t388 t391 _ ?side1 ?side2 ?side3 ?side4 ?side5 ?side6 ?side7 ?side8 A10.out).mono ?_); (case side1 => exact kcb); (case side2 => exact HC0_1.out); (case side3 => exact kcb); (case side4 => exact HC0_2.out); (case side5 => exact kcb); (case side6 => exact HC0_4.out); (case side7 => exact kcb); (case side8 => exact HC0_5.out); rintro e w24 ⟨v382, v385, v389, v392, rfl, ho0, ho1, ho2, ho3, hb⟩; refine ⟨_, rfl, ?_⟩; have HSZ12 := Aside0.mk (show w22.heap.size ≤ w24.heap.size from hb.size); replace HRW := Aside0.mk (Kd.S_below (skp HRW) hb); have HX0 := Aside0.mk (Kd.S_mono (ok' := fun k_ => w22.heap.size ≤ k_ ∧ k_ < w24.heap.size) (Kd.S_lower (Kd.S_bound ho0) (below_size bel)) (fun _ h_ => ⟨h_.2.1, h_.2.2.1⟩)); have HX1 := Aside0.mk (Kd.S_mono (ok' := fun k_ => w22.heap.size ≤ k_ ∧ k_ < w24.heap.size) (Kd.S_lower (Kd.S_bound ho1) (below_size bel)) (fun _ h_ => ⟨h_.2.1, h_.2.2.1⟩)); have HX2 := Aside0.mk (Kd.R_mono (ok' := fun k_ => w22.heap.size ≤ k_ ∧ k_ < w24.heap.size) (Kd.R_lower (Kd.R_bound ho2) (below_size bel)) (fun _ h_ => ⟨h_.2.1, h_.2.2.1⟩)); have HX3 := Aside0.mk (Kd.R_mono (ok' := fun k_ => w22.heap.size ≤ k_ ∧ k_ < w24.heap.size) (Kd.R_lower (Kd.R_bound ho3) (below_size bel)) (fun _ h_ => ⟨h_.2.1, h_.2.2.1⟩)); have HO383 := Aside0.mk (Kd.S_lower (Kd.S_new' ho0 (Kd.S_lt (skp HO367))) (below_size bel)); have HO386 := Aside0.mk (Kd.S_lower (Kd.S_new' ho1 (Kd.S_lt (skp HO370))) (below_size bel)); have HO390 := Aside0.mk (Kd.R_lower (Kd.R_new' ho2 (Kd.R_lt (rkp HO374))) (below_size bel)); have HO393 := Aside0.mk (Kd.R_lower (Kd.R_new' ho3 (Kd.R_lt (rkp HO377))) (below_size bel)); replace HO367 := Aside0.mk (Kd.S_elder' (skp HO367) (Kd.S_base ho0) hb); replace HO370 := Aside0.mk (Kd.S_elder' (skp HO370) (Kd.S_base ho1) hb); replace HO374 := Aside0.mk (Kd.R_elder' (rkp HO374) (Kd.R_base ho2) hb); replace HO377 := Aside0.mk (Kd.R_elder' (rkp HO377) (Kd.R_base ho3) hb); replace BK362 := Aside0.mk (blb BK362 hb); replace HB := bst hb; (try clear hb); (try clear hb2); (try clear hk); (try clear hi); (try clear ho0); (try clear ho1); (try clear ho2); (try clear ho3)) | ((with_reducible refine gate_dst (N := 8) rfl ?_); refine bx_ 8 #[.int .i64 0, .slice none 0 0, .slice none 0 0, .int .i64 0, .slice none 0 0, .slice none 0 0] 35 (h := ?_); intro gb394 hg w25 hbox hb; have BK394 := Aside0.mk (hbox); have GEN2 := Aside0.mk (show w24.heap.size ≤ gb394 from Nat.le_of_eq hg.symm); have GEN1 := Aside0.mk (show w22.heap.size ≤ gb394 from Nat.le_trans HSZ12.out (Nat.le_of_eq hg.symm)); have HSZ3 := Aside0.mk (show w24.heap.size ≤ w25.heap.size from hb.size); replace HRW := Aside0.mk (Kd.S_below (skp HRW) hb); replace HX0 := Aside0.mk (Kd.S_below (skp HX0) hb); replace HX1 := Aside0.mk (Kd.S_below (skp HX1) hb); replace HX2 := Aside0.mk (rbl HX2 hb); replace HX3 := Aside0.mk (rbl HX3 hb); have GW394 := Aside0.mk ((by rw [hg]; exact (below_size bel) : w.heap.size ≤ gb394)); have GE394 := GW394; have NB362_394 := Aside0.mk ((by rw [hg]; exact Nat.ne_of_lt (blt BK362) : gb362 ≠ gb394)); have NB394_362 := Aside0.mk NB362_394.out.symm; replace HO367 := Aside0.mk (Kd.S_below (skp HO367) hb); replace HO370 := Aside0.mk (Kd.S_below (skp HO370) hb); replace HO374 := Aside0.mk (rbl HO374 hb); replace HO377 := Aside0.mk (rbl HO377 hb); replace HO383 := Aside0.mk (Kd.S_below (skp HO383) hb); replace HO386 := Aside0.mk (Kd.S_below (skp HO386) hb); replace HO390 := Aside0.mk (rbl HO390 hb); replace HO393 := Aside0.mk (rbl HO393 hb); replace BK362 := Aside0.mk (blb BK362 hb); replace HB := bst hb; clear hb hbox hg; have hnb26 := NB394_362.out; have hnc26 := NB362_394.out; obtain ⟨C27_0, C27_1, C27_2, C27_3, C27_4, C27_5, -⟩ := cells_6 BK394.out trivial; obtain ⟨F27_0, F27_1, F27_2, F27_3, F27_4, F27_5, -⟩ := frz_6 BK394.out; obtain ⟨Ao28, co28, eo28⟩ := Kd.S_slice HO383.out; subst eo28; obtain ⟨Ao29, co29, eo29⟩ := Kd.S_slice HO386.out; subst eo29; obtain ⟨Ao30, co30, eo30⟩ := Kd.R_slice HO390.out; subst eo30; obtain ⟨Ao31, co31, eo31⟩ := Kd.R_slice HO393.out; subst eo31) | ((with_reducible refine gate_callee (f := 45) rfl ?_); refine gl_ (some 33) Try.func45 #[.agg #[.int .i64 t380, .slice Ao28 t381.length co28, .slice Ao29 t384.length co29, .int .i64 t387, .slice Ao30 t388.length co30, .slice Ao31 t391.length co31], .int .i64 a1] (h := ?_); (with_reducible refine (impl_Turned.calls k t380 _ _ t381 _ _ t384 t387 _ _ t388 _ _ t391 a1 t395 t396 _ ?side1 ?side2 ?side3 ?side4 ?side5 ?side6 ?side7 ?side8 A11.out).mono ?_); (case side1 => refine (Kd.S_reads' (e := 92) (base := w.heap.size) (ok := fun k_ => (True ∧ some k_ ≠ (.slice Ao18 t365.length co18 : Value).ownBlock)) (n := t381.length) (c := co28) ?_).2.2; exact (by (with_reducible repeat (first | apply Kd.S_alloc | apply Kd.S_drewN | apply Kd.S_drew)); exact (Kd.S_mono (Kd.S_far (p := ⟨gb394, 5, none⟩) (Kd.S_far (p := ⟨gb394, 4, none⟩) (Kd.S_far (p := ⟨gb394, 3, none⟩) (Kd.S_far (p := ⟨gb394, 2, none⟩) (Kd.S_far (p := ⟨gb394, 1, none⟩) (Kd.S_far (p := ⟨gb394, 0, none⟩) (Kd.S_types HO383.out BK394.out (by decide)) (fun _ hk => hk.2) (.int .i64 t380)) (fun _ hk => hk.2) (.slice Ao28 t381.length co28)) (fun _ hk => hk.2) (.slice Ao29 t384.length co29)) (fun _ hk => hk.2) (.int .i64 t387)) (fun _ hk => hk.2) (.slice Ao30 t388.length co30)) (fun _ hk => hk.2) (.slice Ao31 t391.length co31)) (fun _ h_ => h_.1)))); (case side2 => exact (Kd.S_reads' HO383.out).2.1); (case side3 => refine (Kd.S_reads' (e := 94) (base := w.heap.size) (ok := fun k_ => (True ∧ some k_ ≠ (.slice Ao19 t368.length co19 : Value).ownBlock)) (n := t384.length) (c := co29) ?_).2.2; exact (by (with_reducible repeat (first | apply Kd.S_alloc | apply Kd.S_drewN | apply Kd.S_drew)); exact (Kd.S_mono (Kd.S_far (p := ⟨gb394, 5, none⟩) (Kd.S_far (p := ⟨gb394, 4, none⟩) (Kd.S_far (p := ⟨gb394, 3, none⟩) (Kd.S_far (p := ⟨gb394, 2, none⟩) (Kd.S_far (p := ⟨gb394, 1, none⟩) (Kd.S_far (p := ⟨gb394, 0, none⟩) (Kd.S_types HO386.out BK394.out (by decide)) (fun _ hk => hk.2) (.int .i64 t380)) (fun _ hk => hk.2) (.slice Ao28 t381.length co28)) (fun _ hk => hk.2) (.slice Ao29 t384.length co29)) (fun _ hk => hk.2) (.int .i64 t387)) (fun _ hk => hk.2) (.slice Ao30 t388.length co30)) (fun _ hk => hk.2) (.slice Ao31 t391.length co31)) (fun _ h_ => h_.1)))); (case side4 => exact (Kd.S_reads' HO386.out).2.1); (case side5 => refine (Kd.R_reads' (e := 109) (base := w.heap.size) (ok := fun k_ => (True ∧ some k_ ≠ (.slice Ao20 t372.length co20 : Value).ownBlock)) (n := t388.length) (c := co30) ?_).2.2; exact (by (with_reducible repeat (first | apply Kd.R_alloc | apply Kd.R_drewN | apply Kd.R_drew)); exact (Kd.R_mono (Kd.R_far (p := ⟨gb394, 5, none⟩) (Kd.R_far (p := ⟨gb394, 4, none⟩) (Kd.R_far (p := ⟨gb394, 3, none⟩) (Kd.R_far (p := ⟨gb394, 2, none⟩) (Kd.R_far (p := ⟨gb394, 1, none⟩) (Kd.R_far (p := ⟨gb394, 0, none⟩) (Kd.R_types HO390.out BK394.out (by decide)) (fun _ hk => hk.2) (.int .i64 t380)) (fun _ hk => hk.2) (.slice Ao28 t381.length co28)) (fun _ hk => hk.2) (.slice Ao29 t384.length co29)) (fun _ hk => hk.2) (.int .i64 t387)) (fun _ hk => hk.2) (.slice Ao30 t388.length co30)) (fun _ hk => hk.2) (.slice Ao31 t391.length co31)) (fun _ h_ => h_.1)))); (case side6 => exact (Kd.R_reads' HO390.out).2.1); (case side7 => refine (Kd.R_reads' (e := 75) (base := w.heap.size) (ok := fun k_ => (True ∧ some k_ ≠ (.slice Ao21 t375.length co21 : Value).ownBlock)) (n := t391.length) (c := co31) ?_).2.2; exact (by (with_reducible repeat (first | apply Kd.R_alloc | apply Kd.R_drewN | apply Kd.R_drew)); exact (Kd.R_mono (Kd.R_far (p := ⟨gb394, 5, none⟩) (Kd.R_far (p := ⟨gb394, 4, none⟩) (Kd.R_far (p := ⟨gb394, 3, none⟩) (Kd.R_far (p := ⟨gb394, 2, none⟩) (Kd.R_far (p := ⟨gb394, 1, none⟩) (Kd.R_far (p := ⟨gb394, 0, none⟩) (Kd.R_types HO393.out BK394.out (by decide)) (fun _ hk => hk.2) (.int .i64 t380)) (fun _ hk => hk.2) (.slice Ao28 t381.length co28)) (fun _ hk => hk.2) (.slice Ao29 t384.length co29)) (fun _ hk => hk.2) (.int .i64 t387)) (fun _ hk => hk.2) (.slice Ao30 t388.length co30)) (fun _ hk => hk.2) (.slice Ao31 t391.length co31)) (fun _ h_ => h_.1)))); (case side8 => exact (Kd.R_reads' HO393.out).2.1); rintro e w32 ⟨vG, rfl, hoG, hb⟩; refine ⟨_, rfl, ?_⟩; have HSZ4 := Aside0.mk (Nat.le_refl w24.heap.size); have HRG := Aside0.mk (Kd.S_mono (ok' := fun k_ => w24.heap.size ≤ k_) (Kd.S_lower (Kd.S_bound hoG) (below_size bel)) (fun _ h_ => Nat.le_trans HSZ3.out (Nat.le_trans (by simp [World.setCell]) h_.2.1))); clear hoG; obtain ⟨AoG, coG, eoG⟩ := Kd.S_slice HRG.out; subst eoG; replace HRW := Aside0.mk (Kd.S_below (Kd.S_mono (Kd.S_far (p := ⟨gb394, 5, none⟩) (Kd.S_far (p := ⟨gb394, 4, none⟩) (Kd.S_far (p := ⟨gb394, 3, none⟩) (Kd.S_far (p := ⟨gb394, 2, none⟩) (Kd.S_far (p := ⟨gb394, 1, none⟩) (Kd.S_far (p := ⟨gb394, 0, none⟩) (Kd.S_mono (ok' := fun k_ => (k_ < w22.heap.size) ∧ k_ ≠ gb394) HRW.out (fun k_ h_ => ⟨h_, Nat.ne_of_lt (Nat.lt_of_lt_of_le h_ GEN1.out)⟩)) (fun _ hk => hk.2) (.int .i64 t380)) (fun _ hk => hk.2) (.slice Ao28 t381.length co28)) (fun _ hk => hk.2) (.slice Ao29 t384.length co29)) (fun _ hk => hk.2) (.int .i64 t387)) (fun _ hk => hk.2) (.slice Ao30 t388.length co30)) (fun _ hk => hk.2) (.slice Ao31 t391.length co31)) (fun _ h_ => h_.1)) hb); replace HX0 := Aside0.mk (Kd.S_below (Kd.S_mono (Kd.S_far (p := ⟨gb394, 5, none⟩) (Kd.S_far (p := ⟨gb394, 4, none⟩) (Kd.S_far (p := ⟨gb394, 3, none⟩) (Kd.S_far (p := ⟨gb394, 2, none⟩) (Kd.S_far (p := ⟨gb394, 1, none⟩) (Kd.S_far (p := ⟨gb394, 0, none⟩) (Kd.S_mono (ok' := fun k_ => (w22.heap.size ≤ k_ ∧ k_ < w24.heap.size) ∧ k_ ≠ gb394) HX0.out (fun k_ h_ => ⟨h_, Nat.ne_of_lt (Nat.lt_of_lt_of_le h_.2 GEN2.out)⟩)) (fun _ hk => hk.2) (.int .i64 t380)) (fun _ hk => hk.2) (.slice Ao28 t381.length co28)) (fun _ hk => hk.2) (.slice Ao29 t384.length co29)) (fun _ hk => hk.2) (.int .i64 t387)) (fun _ hk => hk.2) (.slice Ao30 t388.length co30)) (fun _ hk => hk.2) (.slice Ao31 t391.length co31)) (fun _ h_ => h_.1)) hb); replace HX1 := Aside0.mk (Kd.S_below (Kd.S_mono (Kd.S_far (p := ⟨gb394, 5, none⟩) (Kd.S_far (p := ⟨gb394, 4, none⟩) (Kd.S_far (p := ⟨gb394, 3, none⟩) (Kd.S_far (p := ⟨gb394, 2, none⟩) (Kd.S_far (p := ⟨gb394, 1, none⟩) (Kd.S_far (p := ⟨gb394, 0, none⟩) (Kd.S_mono (ok' := fun k_ => (w22.heap.size ≤ k_ ∧ k_ < w24.heap.size) ∧ k_ ≠ gb394) HX1.out (fun k_ h_ => ⟨h_, Nat.ne_of_lt (Nat.lt_of_lt_of_le h_.2 GEN2.out)⟩)) (fun _ hk => hk.2) (.int .i64 t380)) (fun _ hk => hk.2) (.slice Ao28 t381.length co28)) (fun _ hk => hk.2) (.slice Ao29 t384.length co29)) (fun _ hk => hk.2) (.int .i64 t387)) (fun _ hk => hk.2) (.slice Ao30 t388.length co30)) (fun _ hk => hk.2) (.slice Ao31 t391.length co31)) (fun _ h_ => h_.1)) hb); replace HX2 := Aside0.mk (Kd.R_below (Kd.R_mono (Kd.R_far (p := ⟨gb394, 5, none⟩) (Kd.R_far (p := ⟨gb394, 4, none⟩) (Kd.R_far (p := ⟨gb394, 3, none⟩) (Kd.R_far (p := ⟨gb394, 2, none⟩) (Kd.R_far (p := ⟨gb394, 1, none⟩) (Kd.R_far (p := ⟨gb394, 0, none⟩) (Kd.R_mono (ok' := fun k_ => (w22.heap.size ≤ k_ ∧ k_ < w24.heap.size) ∧ k_ ≠ gb394) HX2.out (fun k_ h_ => ⟨h_, Nat.ne_of_lt (Nat.lt_of_lt_of_le h_.2 GEN2.out)⟩)) (fun _ hk => hk.2) (.int .i64 t380)) (fun _ hk => hk.2) (.slice Ao28 t381.length co28)) (fun _ hk => hk.2) (.slice Ao29 t384.length co29)) (fun _ hk => hk.2) (.int .i64 t387)) (fun _ hk => hk.2) (.slice Ao30 t388.length co30)) (fun _ hk => hk.2) (.slice Ao31 t391.length co31)) (fun _ h_ => h_.1)) hb); replace HX3 := Aside0.mk (Kd.R_below (Kd.R_mono (Kd.R_far (p := ⟨gb394, 5, none⟩) (Kd.R_far (p := ⟨gb394, 4, none⟩) (Kd.R_far (p := ⟨gb394, 3, none⟩) (Kd.R_far (p := ⟨gb394, 2, none⟩) (Kd.R_far (p := ⟨gb394, 1, none⟩) (Kd.R_far (p := ⟨gb394, 0, none⟩) (Kd.R_mono (ok' := fun k_ => (w22.heap.size ≤ k_ ∧ k_ < w24.heap.size) ∧ k_ ≠ gb394) HX3.out (fun k_ h_ => ⟨h_, Nat.ne_of_lt (Nat.lt_of_lt_of_le h_.2 GEN2.out)⟩)) (fun _ hk => hk.2) (.int .i64 t380)) (fun _ hk => hk.2) (.slice Ao28 t381.length co28)) (fun _ hk => hk.2) (.slice Ao29 t384.length co29)) (fun _ hk => hk.2) (.int .i64 t387)) (fun _ hk => hk.2) (.slice Ao30 t388.length co30)) (fun _ hk => hk.2) (.slice Ao31 t391.length co31)) (fun _ h_ => h_.1)) hb); replace HO367 := Aside0.mk (Kd.S_below (by (with_reducible repeat (first | apply Kd.S_alloc | apply Kd.S_drewN | apply Kd.S_drew)); exact (Kd.S_mono (Kd.S_far (p := ⟨gb394, 5, none⟩) (Kd.S_far (p := ⟨gb394, 4, none⟩) (Kd.S_far (p := ⟨gb394, 3, none⟩) (Kd.S_far (p := ⟨gb394, 2, none⟩) (Kd.S_far (p := ⟨gb394, 1, none⟩) (Kd.S_far (p := ⟨gb394, 0, none⟩) (Kd.S_types HO367.out BK394.out (by decide)) (fun _ hk => hk.2) (.int .i64 t380)) (fun _ hk => hk.2) (.slice Ao28 t381.length co28)) (fun _ hk => hk.2) (.slice Ao29 t384.length co29)) (fun _ hk => hk.2) (.int .i64 t387)) (fun _ hk => hk.2) (.slice Ao30 t388.length co30)) (fun _ hk => hk.2) (.slice Ao31 t391.length co31)) (fun _ h_ => h_.1))) hb); replace HO370 := Aside0.mk (Kd.S_below (by (with_reducible repeat (first | apply Kd.S_alloc | apply Kd.S_drewN | apply Kd.S_drew)); exact (Kd.S_mono (Kd.S_far (p := ⟨gb394, 5, none⟩) (Kd.S_far (p := ⟨gb394, 4, none⟩) (Kd.S_far (p := ⟨gb394, 3, none⟩) (Kd.S_far (p := ⟨gb394, 2, none⟩) (Kd.S_far (p := ⟨gb394, 1, none⟩) (Kd.S_far (p := ⟨gb394, 0, none⟩) (Kd.S_types HO370.out BK394.out (by decide)) (fun _ hk => hk.2) (.int .i64 t380)) (fun _ hk => hk.2) (.slice Ao28 t381.length co28)) (fun _ hk => hk.2) (.slice Ao29 t384.length co29)) (fun _ hk => hk.2) (.int .i64 t387)) (fun _ hk => hk.2) (.slice Ao30 t388.length co30)) (fun _ hk => hk.2) (.slice Ao31 t391.length co31)) (fun _ h_ => h_.1))) hb); replace HO374 := Aside0.mk (Kd.R_below (by (with_reducible repeat (first | apply Kd.R_alloc | apply Kd.R_drewN | apply Kd.R_drew)); exact (Kd.R_mono (Kd.R_far (p := ⟨gb394, 5, none⟩) (Kd.R_far (p := ⟨gb394, 4, none⟩) (Kd.R_far (p := ⟨gb394, 3, none⟩) (Kd.R_far (p := ⟨gb394, 2, none⟩) (Kd.R_far (p := ⟨gb394, 1, none⟩) (Kd.R_far (p := ⟨gb394, 0, none⟩) (Kd.R_types HO374.out BK394.out (by decide)) (fun _ hk => hk.2) (.int .i64 t380)) (fun _ hk => hk.2) (.slice Ao28 t381.length co28)) (fun _ hk => hk.2) (.slice Ao29 t384.length co29)) (fun _ hk => hk.2) (.int .i64 t387)) (fun _ hk => hk.2) (.slice Ao30 t388.length co30)) (fun _ hk => hk.2) (.slice Ao31 t391.length co31)) (fun _ h_ => h_.1))) hb); replace HO377 := Aside0.mk (Kd.R_below (by (with_reducible repeat (first | apply Kd.R_alloc | apply Kd.R_drewN | apply Kd.R_drew)); exact (Kd.R_mono (Kd.R_far (p := ⟨gb394, 5, none⟩) (Kd.R_far (p := ⟨gb394, 4, none⟩) (Kd.R_far (p := ⟨gb394, 3, none⟩) (Kd.R_far (p := ⟨gb394, 2, none⟩) (Kd.R_far (p := ⟨gb394, 1, none⟩) (Kd.R_far (p := ⟨gb394, 0, none⟩) (Kd.R_types HO377.out BK394.out (by decide)) (fun _ hk => hk.2) (.int .i64 t380)) (fun _ hk => hk.2) (.slice Ao28 t381.length co28)) (fun _ hk => hk.2) (.slice Ao29 t384.length co29)) (fun _ hk => hk.2) (.int .i64 t387)) (fun _ hk => hk.2) (.slice Ao30 t388.length co30)) (fun _ hk => hk.2) (.slice Ao31 t391.length co31)) (fun _ h_ => h_.1))) hb); replace HO383 := Aside0.mk (Kd.S_below (by (with_reducible repeat (first | apply Kd.S_alloc | apply Kd.S_drewN | apply Kd.S_drew)); exact (Kd.S_mono (Kd.S_far (p := ⟨gb394, 5, none⟩) (Kd.S_far (p := ⟨gb394, 4, none⟩) (Kd.S_far (p := ⟨gb394, 3, none⟩) (Kd.S_far (p := ⟨gb394, 2, none⟩) (Kd.S_far (p := ⟨gb394, 1, none⟩) (Kd.S_far (p := ⟨gb394, 0, none⟩) (Kd.S_types HO383.out BK394.out (by decide)) (fun _ hk => hk.2) (.int .i64 t380)) (fun _ hk => hk.2) (.slice Ao28 t381.length co28)) (fun _ hk => hk.2) (.slice Ao29 t384.length co29)) (fun _ hk => hk.2) (.int .i64 t387)) (fun _ hk => hk.2) (.slice Ao30 t388.length co30)) (fun _ hk => hk.2) (.slice Ao31 t391.length co31)) (fun _ h_ => h_.1))) hb); replace HO386 := Aside0.mk (Kd.S_below (by (with_reducible repeat (first | apply Kd.S_alloc | apply Kd.S_drewN | apply Kd.S_drew)); exact (Kd.S_mono (Kd.S_far (p := ⟨gb394, 5, none⟩) (Kd.S_far (p := ⟨gb394, 4, none⟩) (Kd.S_far (p := ⟨gb394, 3, none⟩) (Kd.S_far (p := ⟨gb394, 2, none⟩) (Kd.S_far (p := ⟨gb394, 1, none⟩) (Kd.S_far (p := ⟨gb394, 0, none⟩) (Kd.S_types HO386.out BK394.out (by decide)) (fun _ hk => hk.2) (.int .i64 t380)) (fun _ hk => hk.2) (.slice Ao28 t381.length co28)) (fun _ hk => hk.2) (.slice Ao29 t384.length co29)) (fun _ hk => hk.2) (.int .i64 t387)) (fun _ hk => hk.2) (.slice Ao30 t388.length co30)) (fun _ hk => hk.2) (.slice Ao31 t391.length co31)) (fun _ h_ => h_.1))) hb); replace HO390 := Aside0.mk (Kd.R_below (by (with_reducible repeat (first | apply Kd.R_alloc | apply Kd.R_drewN | apply Kd.R_drew)); exact (Kd.R_mono (Kd.R_far (p := ⟨gb394, 5, none⟩) (Kd.R_far (p := ⟨gb394, 4, none⟩) (Kd.R_far (p := ⟨gb394, 3, none⟩) (Kd.R_far (p := ⟨gb394, 2, none⟩) (Kd.R_far (p := ⟨gb394, 1, none⟩) (Kd.R_far (p := ⟨gb394, 0, none⟩) (Kd.R_types HO390.out BK394.out (by decide)) (fun _ hk => hk.2) (.int .i64 t380)) (fun _ hk => hk.2) (.slice Ao28 t381.length co28)) (fun _ hk => hk.2) (.slice Ao29 t384.length co29)) (fun _ hk => hk.2) (.int .i64 t387)) (fun _ hk => hk.2) (.slice Ao30 t388.length co30)) (fun _ hk => hk.2) (.slice Ao31 t391.length co31)) (fun _ h_ => h_.1))) hb); replace HO393 := Aside0.mk (Kd.R_below (by (with_reducible repeat (first | apply Kd.R_alloc | apply Kd.R_drewN | apply Kd.R_drew)); exact (Kd.R_mono (Kd.R_far (p := ⟨gb394, 5, none⟩) (Kd.R_far (p := ⟨gb394, 4, none⟩) (Kd.R_far (p := ⟨gb394, 3, none⟩) (Kd.R_far (p := ⟨gb394, 2, none⟩) (Kd.R_far (p := ⟨gb394, 1, none⟩) (Kd.R_far (p := ⟨gb394, 0, none⟩) (Kd.R_types HO393.out BK394.out (by decide)) (fun _ hk => hk.2) (.int .i64 t380)) (fun _ hk => hk.2) (.slice Ao28 t381.length co28)) (fun _ hk => hk.2) (.slice Ao29 t384.length co29)) (fun _ hk => hk.2) (.int .i64 t387)) (fun _ hk => hk.2) (.slice Ao30 t388.length co30)) (fun _ hk => hk.2) (.slice Ao31 t391.length co31)) (fun _ h_ => h_.1))) hb); replace BK362 := Aside0.mk (blk_below (g := gb362) (o := .cells #[.int .i64 a0_0, .slice A0_1 l0_1.length c0_1, .slice A0_2 l0_2.length c0_2, .int .i64 a0_3, .slice A0_4 l0_4.length c0_4, .slice A0_5 l0_5.length c0_5] 27 (0, 0)) (by (with_reducible repeat (first | refine blk_drewN ?_ _ | refine blk_drew ?_ | refine blk_alloc ?_ _)); refine blk_far ?_ NB362_394.out _; (with_reducible repeat (first | refine blk_drewN ?_ _ | refine blk_drew ?_ | refine blk_alloc ?_ _)); refine blk_far ?_ NB362_394.out _; (with_reducible repeat (first | refine blk_drewN ?_ _ | refine blk_drew ?_ | refine blk_alloc ?_ _)); refine blk_far ?_ NB362_394.out _; (with_reducible repeat (first | refine blk_drewN ?_ _ | refine blk_drew ?_ | refine blk_alloc ?_ _)); refine blk_far ?_ NB362_394.out _; (with_reducible repeat (first | refine blk_drewN ?_ _ | refine blk_drew ?_ | refine blk_alloc ?_ _)); refine blk_far ?_ NB362_394.out _; (with_reducible repeat (first | refine blk_drewN ?_ _ | refine blk_drew ?_ | refine blk_alloc ?_ _)); refine blk_far ?_ NB362_394.out _; (with_reducible repeat (first | refine blk_drewN ?_ _ | refine blk_drew ?_ | refine blk_alloc ?_ _)); exact BK362.out) hb); replace BK394 := Aside0.mk (blk_below (g := gb394) (o := .cells #[.int .i64 t380, .slice Ao28 t381.length co28, .slice Ao29 t384.length co29, .int .i64 t387, .slice Ao30 t388.length co30, .slice Ao31 t391.length co31] 35 (0, 0)) (by (with_reducible repeat (first | refine blk_drewN ?_ _ | refine blk_drew ?_ | refine blk_alloc ?_ _)); refine blk_put (cs := #[.int .i64 t380, .slice Ao28 t381.length co28, .slice Ao29 t384.length co29, .int .i64 t387, .slice Ao30 t388.length co30, .slice none 0 0]) ?_ 5 _ rfl; (with_reducible repeat (first | refine blk_drewN ?_ _ | refine blk_drew ?_ | refine blk_alloc ?_ _)); refine blk_put (cs := #[.int .i64 t380, .slice Ao28 t381.length co28, .slice Ao29 t384.length co29, .int .i64 t387, .slice none 0 0, .slice none 0 0]) ?_ 4 _ rfl; (with_reducible repeat (first | refine blk_drewN ?_ _ | refine blk_drew ?_ | refine blk_alloc ?_ _)); refine blk_put (cs := #[.int .i64 t380, .slice Ao28 t381.length co28, .slice Ao29 t384.length co29, .int .i64 0, .slice none 0 0, .slice none 0 0]) ?_ 3 _ rfl; (with_reducible repeat (first | refine blk_drewN ?_ _ | refine blk_drew ?_ | refine blk_alloc ?_ _)); refine blk_put (cs := #[.int .i64 t380, .slice Ao28 t381.length co28, .slice none 0 0, .int .i64 0, .slice none 0 0, .slice none 0 0]) ?_ 2 _ rfl; (with_reducible repeat (first | refine blk_drewN ?_ _ | refine blk_drew ?_ | refine blk_alloc ?_ _)); refine blk_put (cs := #[.int .i64 t380, .slice none 0 0, .slice none 0 0, .int .i64 0, .slice none 0 0, .slice none 0 0]) ?_ 1 _ rfl; (with_reducible repeat (first | refine blk_drewN ?_ _ | refine blk_drew ?_ | refine blk_alloc ?_ _)); refine blk_put (cs := #[.int .i64 0, .slice none 0 0, .slice none 0 0, .int .i64 0, .slice none 0 0, .slice none 0 0]) ?_ 0 _ rfl; (with_reducible repeat (first | refine blk_drewN ?_ _ | refine blk_drew ?_ | refine blk_alloc ?_ _)); exact BK394.out) hb); replace HB := bst hb; (try clear hb); (try clear hb2); (try clear hk); (try clear hi)))
 (try simp only [Act.put, List.setIfInBounds_toArray, List.set_cons_zero, List.set_cons_succ])
 go_cut [44] (fun v44 wc => ∃ (kq : Nat) (x44_11 : Bool), v44 = .bool x44_11 ∧ Aside0 (laws_FnExactTurned.j0 kq a1 t378 t379 t395 t396 x44_11 a0_0 l0_1 l0_2 a0_3 l0_4 l0_5 t380 t381 t384 t387 t388 t391 = some true) ∧ Aside0 (kq ≤ k) ∧ Aside0 (Kd.S k92 92 wc w.heap.size (fun _ => True) (.slice Ao28 t381.length co28) t381) ∧ Aside0 (Kd.S k94 94 wc w.heap.size (fun _ => True) (.slice Ao29 t384.length co29) t384) ∧ Aside0 (Kd.R k109 109 wc w.heap.size (fun _ => True) (.slice Ao30 t388.length co30) t388) ∧ Aside0 (Kd.R k75 75 wc w.heap.size (fun _ => True) (.slice Ao31 t391.length co31) t391) ∧ Aside0 (wc.heap[gb362]? = some (.cells #[.int .i64 a0_0, (.slice A0_1 l0_1.length c0_1), (.slice A0_2 l0_2.length c0_2), .int .i64 a0_3, (.slice A0_4 l0_4.length c0_4), (.slice A0_5 l0_5.length c0_5)] 27 (0, 0))) ∧ Aside0 (wc.heap[gb394]? = some (.cells #[.int .i64 t380, (.slice Ao28 t381.length co28), (.slice Ao29 t384.length co29), .int .i64 t387, (.slice Ao30 t388.length co30), (.slice Ao31 t391.length co31)] 35 (0, 0))) ∧ Aside0 (Kd.S (Kd.slice 5 (Kd.int .u8)) 52 wc w.heap.size (fun k_ => k_ < w22.heap.size) (.slice AoW t378.length coW) t378) ∧ Aside0 (Kd.S k92 92 wc w.heap.size (fun k_ => w22.heap.size ≤ k_ ∧ k_ < w24.heap.size) (.slice Ao28 t381.length co28) t381) ∧ Aside0 (Kd.S k94 94 wc w.heap.size (fun k_ => w22.heap.size ≤ k_ ∧ k_ < w24.heap.size) (.slice Ao29 t384.length co29) t384) ∧ Aside0 (Kd.R k109 109 wc w.heap.size (fun k_ => w22.heap.size ≤ k_ ∧ k_ < w24.heap.size) (.slice Ao30 t388.length co30) t388) ∧ Aside0 (Kd.R k75 75 wc w.heap.size (fun k_ => w22.heap.size ≤ k_ ∧ k_ < w24.heap.size) (.slice Ao31 t391.length co31) t391) ∧ Aside0 (Kd.S (Kd.slice 5 (Kd.int .u8)) 52 wc w.heap.size (fun k_ => w24.heap.size ≤ k_) (.slice AoG t395.length coG) t395) ∧ Aside0 (Below w.heap.size w wc))
 case first =>
  have H := HC12.out
  clear HC12
  replace H := Option.bind_eq_some_iff.mp H
  obtain ⟨t397, A330, H⟩ := H
  replace H : (if t397 = true then (laws_FnExactTurned.j0 k a1 t378 t379 t395 t396 (t396 != t379) a0_0 l0_1 l0_2 a0_3 l0_4 l0_5 t380 t381 t384 t387 t388 t391) else (laws_FnExactTurned.j0 k a1 t378 t379 t395 t396 true a0_0 l0_1 l0_2 a0_3 l0_4 l0_5 t380 t381 t384 t387 t388 t391)) = some true := H
  have A33 := Aside0.mk A330
  clear A330
  by_cases c34 : t397 = true
  ·subst c34
   have H1 : (laws_FnExactTurned.j0 k a1 t378 t379 t395 t396 (t396 != t379) a0_0 l0_1 l0_2 a0_3 l0_4 l0_5 t380 t381 t384 t387 t388 t391) = some true := by rw [if_pos rfl] at H; exact H
   clear H
   have H := H1
   clear H1
   have H' := Aside0.mk H
   clear H
   go_wp2_with (first | ((with_reducible refine gate_callee (f := 56) rfl ?_); refine gl_ (some 38) Try.func56 #[.slice AoG t395.length coG, .slice AoW t378.length coW] (h := ?_); (with_reducible refine (laws_eqByteSS.calls k _ _ t395 _ _ t378 true _ ?q1 ?q2 ?q3 ?q4 A33.out).mono ?_); (case q1 => repeat (first | exact (Kd.S_reads' HRG.out).2.2 | (with_reducible refine Kd.C_alloc ?_ _) | (with_reducible refine Kd.C_drewN ?_ _) | (with_reducible refine Kd.C_drew ?_))); (case q2 => exact (Kd.S_reads' HRG.out).2.1); (case q3 => repeat (first | exact (Kd.S_reads' HRW.out).2.2 | (with_reducible refine Kd.C_alloc ?_ _) | (with_reducible refine Kd.C_drewN ?_ _) | (with_reducible refine Kd.C_drew ?_))); (case q4 => exact (Kd.S_reads' HRW.out).2.1); rintro e w' ⟨rfl, ⟨nd, rfl⟩⟩; refine ⟨_, rfl, ?_⟩))
   go_meet
   case rel => exact ⟨_, ((t396 != t379)), rs_, H', ⟨by first | omega | exact Nat.le_refl _⟩, ⟨by (with_reducible repeat (first | apply Kd.S_alloc | apply Kd.S_drewN | apply Kd.S_drew)); exact Kd.S_mono HO383.out (fun _ hk => trivial)⟩, ⟨by (with_reducible repeat (first | apply Kd.S_alloc | apply Kd.S_drewN | apply Kd.S_drew)); exact Kd.S_mono HO386.out (fun _ hk => trivial)⟩, ⟨by (with_reducible repeat (first | apply Kd.R_alloc | apply Kd.R_drewN | apply Kd.R_drew)); exact Kd.R_mono HO390.out (fun _ hk => trivial)⟩, ⟨by (with_reducible repeat (first | apply Kd.R_alloc | apply Kd.R_drewN | apply Kd.R_drew)); exact Kd.R_mono HO393.out (fun _ hk => trivial)⟩, ⟨bkp BK362⟩, ⟨bkp BK394⟩, ⟨skp HRW⟩, ⟨skp HX0⟩, ⟨skp HX1⟩, ⟨rkp HX2⟩, ⟨rkp HX3⟩, ⟨skp HRG⟩, ⟨bel⟩⟩
  replace c34 := Bool.eq_false_iff.mpr c34
  subst c34
  have H1 : (laws_FnExactTurned.j0 k a1 t378 t379 t395 t396 true a0_0 l0_1 l0_2 a0_3 l0_4 l0_5 t380 t381 t384 t387 t388 t391) = some true := by rw [if_neg (show ¬ (false = true) by decide)] at H; exact H
  clear H
  have H := H1
  clear H1
  have H' := Aside0.mk H
  clear H
  go_wp2_with (first | ((with_reducible refine gate_callee (f := 56) rfl ?_); refine gl_ (some 38) Try.func56 #[.slice AoG t395.length coG, .slice AoW t378.length coW] (h := ?_); (with_reducible refine (laws_eqByteSS.calls k _ _ t395 _ _ t378 false _ ?q1 ?q2 ?q3 ?q4 A33.out).mono ?_); (case q1 => repeat (first | exact (Kd.S_reads' HRG.out).2.2 | (with_reducible refine Kd.C_alloc ?_ _) | (with_reducible refine Kd.C_drewN ?_ _) | (with_reducible refine Kd.C_drew ?_))); (case q2 => exact (Kd.S_reads' HRG.out).2.1); (case q3 => repeat (first | exact (Kd.S_reads' HRW.out).2.2 | (with_reducible refine Kd.C_alloc ?_ _) | (with_reducible refine Kd.C_drewN ?_ _) | (with_reducible refine Kd.C_drew ?_))); (case q4 => exact (Kd.S_reads' HRW.out).2.1); rintro e w' ⟨rfl, ⟨nd, rfl⟩⟩; refine ⟨_, rfl, ?_⟩))
  go_meet
  case rel => exact ⟨_, (true), rs_, H', ⟨by first | omega | exact Nat.le_refl _⟩, ⟨by (with_reducible repeat (first | apply Kd.S_alloc | apply Kd.S_drewN | apply Kd.S_drew)); exact Kd.S_mono HO383.out (fun _ hk => trivial)⟩, ⟨by (with_reducible repeat (first | apply Kd.S_alloc | apply Kd.S_drewN | apply Kd.S_drew)); exact Kd.S_mono HO386.out (fun _ hk => trivial)⟩, ⟨by (with_reducible repeat (first | apply Kd.R_alloc | apply Kd.R_drewN | apply Kd.R_drew)); exact Kd.R_mono HO390.out (fun _ hk => trivial)⟩, ⟨by (with_reducible repeat (first | apply Kd.R_alloc | apply Kd.R_drewN | apply Kd.R_drew)); exact Kd.R_mono HO393.out (fun _ hk => trivial)⟩, ⟨bkp BK362⟩, ⟨bkp BK394⟩, ⟨skp HRW⟩, ⟨skp HX0⟩, ⟨skp HX1⟩, ⟨rkp HX2⟩, ⟨rkp HX3⟩, ⟨skp HRG⟩, ⟨bel⟩⟩
 case rest =>
  clear HC12
  try clear c1; try clear c2; try clear p2; try clear c3; try clear c4; try clear c4b0; try clear c5; try clear c6; try clear c14; try clear c15; try clear c17; try clear c26; try clear c34; try clear C14_0 C14_1 C14_2 C14_3 C14_4 C14_5; try clear C16_0 C16_1 C16_2 C16_3 C16_4 C16_5; try clear C23_0 C23_1 C23_2 C23_3 C23_4 C23_5; try clear C27_0 C27_1 C27_2 C27_3 C27_4 C27_5; try clear C6_0 C6_1 C6_2 C6_3 C6_4 C6_5; try clear F14_0 F14_1 F14_2 F14_3 F14_4 F14_5; try clear F16_0 F16_1 F16_2 F16_3 F16_4 F16_5; try clear F23_0 F23_1 F23_2 F23_3 F23_4 F23_5; try clear F27_0 F27_1 F27_2 F27_3 F27_4 F27_5; try clear F6_0 F6_1 F6_2 F6_3 F6_4 F6_5
  obtain ⟨kq, x44_11, rfl, HA, HJ11, HO_395001, HO_395002, HO_395004, HO_395005, BK362, BK394, HRW, HX0, HX1, HX2, HX3, HRG, HB⟩ := hcut
  cases kq with
  | zero => exact absurd HA.out (by simp [laws_FnExactTurned.j0])
  | succ kj11 =>
   have H := HA.out
   clear HA
   simp only [laws_FnExactTurned.j0] at H
   by_cases c35 : x44_11 = true
   ·subst c35
    have H1 : (some false) = some true := by rw [if_pos rfl] at H; exact H
    exact absurd H1 (by simp)
   replace c35 := Bool.eq_false_iff.mpr c35
   subst c35
   have H1 : ((laws_toState.f kj11 a0_0 l0_1 l0_2 a0_3 l0_4 l0_5).bind fun bt398 => ((laws_eqState.f kj11 t380 t381 t384 t387 t388 t391 bt398.1 bt398.2.1 bt398.2.2.1 bt398.2.2.2.1 bt398.2.2.2.2.1 bt398.2.2.2.2.2).bind fun t412 => (if t412 = true then ((laws_markState.f t380 t381 t384 t387 t388 t391 1).bind fun t413 => (if t413 < 0 then (laws_FnExactTurned.j1 kj11 a1 t378 t379 t395 true a0_0 l0_1 l0_2 a0_3 l0_4 l0_5) else ((laws_eqByteSS.f kj11 t395 t378).bind fun t414 => (if t414 = true then (laws_FnExactTurned.j1 kj11 a1 t378 t379 t395 (t396 != t379) a0_0 l0_1 l0_2 a0_3 l0_4 l0_5) else (laws_FnExactTurned.j1 kj11 a1 t378 t379 t395 true a0_0 l0_1 l0_2 a0_3 l0_4 l0_5))))) else (some false)))) = some true := by rw [if_neg (show ¬ (false = true) by decide)] at H; exact H
   clear H
   have H := H1
   clear H1
   replace H := Option.bind_eq_some_iff.mp H
   obtain ⟨⟨t398, t399, t402, t405, t406, t409⟩, A360, H⟩ := H
   replace H : ((laws_eqState.f kj11 t380 t381 t384 t387 t388 t391 t398 t399 t402 t405 t406 t409).bind fun t412 => (if t412 = true then ((laws_markState.f t380 t381 t384 t387 t388 t391 1).bind fun t413 => (if t413 < 0 then (laws_FnExactTurned.j1 kj11 a1 t378 t379 t395 true a0_0 l0_1 l0_2 a0_3 l0_4 l0_5) else ((laws_eqByteSS.f kj11 t395 t378).bind fun t414 => (if t414 = true then (laws_FnExactTurned.j1 kj11 a1 t378 t379 t395 (t396 != t379) a0_0 l0_1 l0_2 a0_3 l0_4 l0_5) else (laws_FnExactTurned.j1 kj11 a1 t378 t379 t395 true a0_0 l0_1 l0_2 a0_3 l0_4 l0_5))))) else (some false))) = some true := H
   have A36 := Aside0.mk A360
   clear A360
   replace H := Option.bind_eq_some_iff.mp H
   obtain ⟨t412, A370, H⟩ := H
   replace H : (if t412 = true then ((laws_markState.f t380 t381 t384 t387 t388 t391 1).bind fun t413 => (if t413 < 0 then (laws_FnExactTurned.j1 kj11 a1 t378 t379 t395 true a0_0 l0_1 l0_2 a0_3 l0_4 l0_5) else ((laws_eqByteSS.f kj11 t395 t378).bind fun t414 => (if t414 = true then (laws_FnExactTurned.j1 kj11 a1 t378 t379 t395 (t396 != t379) a0_0 l0_1 l0_2 a0_3 l0_4 l0_5) else (laws_FnExactTurned.j1 kj11 a1 t378 t379 t395 true a0_0 l0_1 l0_2 a0_3 l0_4 l0_5))))) else (some false)) = some true := H
   have A37 := Aside0.mk A370
   clear A370
   by_cases c38 : t412 = true
   ·subst c38
    have H1 : ((laws_markState.f t380 t381 t384 t387 t388 t391 1).bind fun t413 => (if t413 < 0 then (laws_FnExactTurned.j1 kj11 a1 t378 t379 t395 true a0_0 l0_1 l0_2 a0_3 l0_4 l0_5) else ((laws_eqByteSS.f kj11 t395 t378).bind fun t414 => (if t414 = true then (laws_FnExactTurned.j1 kj11 a1 t378 t379 t395 (t396 != t379) a0_0 l0_1 l0_2 a0_3 l0_4 l0_5) else (laws_FnExactTurned.j1 kj11 a1 t378 t379 t395 true a0_0 l0_1 l0_2 a0_3 l0_4 l0_5))))) = some true := by rw [if_pos rfl] at H; exact H
    clear H
    have H := H1
    clear H1
    replace H := Option.bind_eq_some_iff.mp H
    obtain ⟨t413, A390, H⟩ := H
    replace H : (if t413 < 0 then (laws_FnExactTurned.j1 kj11 a1 t378 t379 t395 true a0_0 l0_1 l0_2 a0_3 l0_4 l0_5) else ((laws_eqByteSS.f kj11 t395 t378).bind fun t414 => (if t414 = true then (laws_FnExactTurned.j1 kj11 a1 t378 t379 t395 (t396 != t379) a0_0 l0_1 l0_2 a0_3 l0_4 l0_5) else (laws_FnExactTurned.j1 kj11 a1 t378 t379 t395 true a0_0 l0_1 l0_2 a0_3 l0_4 l0_5)))) = some true := H
    have A39 := Aside0.mk A390
    clear A390
    have HC40 := Aside0.mk H
    clear H
    try go_wp2
    replace HO_395001 := Aside0.mk (Kd.S_drew HO_395001.out)
    replace HO_395002 := Aside0.mk (Kd.S_drew HO_395002.out)
    replace HO_395004 := Aside0.mk (Kd.R_drew HO_395004.out)
    replace HO_395005 := Aside0.mk (Kd.R_drew HO_395005.out)
    replace BK362 := Aside0.mk (blk_drew BK362.out)
    replace BK394 := Aside0.mk (blk_drew BK394.out)
    replace HB := Aside0.mk (below_drew1 HB.out)
    replace HRW := Aside0.mk (Kd.S_drew HRW.out)
    replace HX0 := Aside0.mk (Kd.S_drew HX0.out)
    replace HX1 := Aside0.mk (Kd.S_drew HX1.out)
    replace HX2 := Aside0.mk (Kd.R_drew HX2.out)
    replace HX3 := Aside0.mk (Kd.R_drew HX3.out)
    replace HRG := Aside0.mk (Kd.S_drew HRG.out)
    refine start_ (n := 5) (S := fun w' => w'.cell? ⟨gb394, 0, none⟩ = some (.int .i64 t380) ∧ w'.cell? ⟨gb394, 1, none⟩ = some (.slice Ao28 t381.length co28) ∧ w'.cell? ⟨gb394, 2, none⟩ = some (.slice Ao29 t384.length co29) ∧ w'.cell? ⟨gb394, 3, none⟩ = some (.int .i64 t387) ∧ w'.cell? ⟨gb394, 4, none⟩ = some (.slice Ao30 t388.length co30) ∧ w'.cell? ⟨gb394, 5, none⟩ = some (.slice Ao31 t391.length co31) ∧ w'.cell? ⟨gb362, 0, none⟩ = some (.int .i64 a0_0) ∧ w'.cell? ⟨gb362, 1, none⟩ = some (.slice A0_1 l0_1.length c0_1) ∧ w'.cell? ⟨gb362, 2, none⟩ = some (.slice A0_2 l0_2.length c0_2) ∧ w'.cell? ⟨gb362, 3, none⟩ = some (.int .i64 a0_3) ∧ w'.cell? ⟨gb362, 4, none⟩ = some (.slice A0_4 l0_4.length c0_4) ∧ w'.cell? ⟨gb362, 5, none⟩ = some (.slice A0_5 l0_5.length c0_5)) (ds := []) #[false, false, false, false, false] (by kernel_rfl) rfl rfl (cells_6 BK394.out (cellz_6 BK362.out)) (fun hHeld => ?_)
    generalize wc.drew = w41 at HRW HX0 HX1 HX2 HX3 HRG HO_395001 HO_395002 HO_395004 HO_395005 BK362 BK394 HB hHeld ⊢
    refine take_ (i := 0) (N := some 45) (v := ?_) (a' := ?_) #[true, false, false, false, false] rfl rfl (by kernel_rfl) (fun _ _ _ h => h) (Or.inl ⟨by rfl, ?_⟩) hHeld ?_ ?_
    rotate_left
    ·rintro w' ⟨s0, s1, s2, s3, s4, s5, s6, s7, s8, s9, s10, s11⟩
     go_simp
     with_reducible rfl
    rotate_left
    ·simp only [Act.put, List.setIfInBounds_toArray, List.set_cons_zero, List.set_cons_succ, i64_w, i32_w]
     rfl
    refine take_ (i := 1) (N := some 46) (v := ?_) (a' := ?_) #[true, true, false, false, false] rfl rfl (by kernel_rfl) (fun _ _ _ h => h) (Or.inl ⟨by rfl, ?_⟩) hHeld ?_ ?_
    rotate_left
    ·rintro w' ⟨s0, s1, s2, s3, s4, s5, s6, s7, s8, s9, s10, s11⟩
     go_simp
     with_reducible rfl
    rotate_left
    ·simp only [Act.put, List.setIfInBounds_toArray, List.set_cons_zero, List.set_cons_succ, i64_w, i32_w]
     rfl
    refine one_ (i := 2) (N := some 47) #[true, true, true, false, false] rfl rfl (by kernel_rfl) (by decide) (fun K hK => ?_)
    refine gs_ Try.func17 #[.agg #[.int .i64 a0_0, .slice A0_1 l0_1.length c0_1, .slice A0_2 l0_2.length c0_2, .int .i64 a0_3, .slice A0_4 l0_4.length c0_4, .slice A0_5 l0_5.length c0_5]] (h := ?_)
    with_reducible refine (laws_toState.calls kj11 a0_0 _ _ l0_1 _ _ l0_2 a0_3 _ _ l0_4 _ _ l0_5 t398 t399 t402 t405 t406 t409 _ ?side1 ?side2 ?side3 ?side4 ?side5 ?side6 ?side7 ?side8 A36.out).mono ?_
    (case side1 => exact kcb)
    (case side2 => exact HC0_1.out)
    (case side3 => exact kcb)
    (case side4 => exact HC0_2.out)
    (case side5 => exact kcb)
    (case side6 => exact HC0_4.out)
    (case side7 => exact kcb)
    (case side8 => exact HC0_5.out)
    rintro e w42 ⟨v400, v403, v407, v410, rfl, ho0, ho1, ho2, ho3, hb⟩
    refine ⟨_, rfl, ?_⟩
    replace HRW := Aside0.mk (Kd.S_below (skp HRW) hb)
    replace HX0 := Aside0.mk (Kd.S_below (skp HX0) hb)
    replace HX1 := Aside0.mk (Kd.S_below (skp HX1) hb)
    replace HX2 := Aside0.mk (rbl HX2 hb)
    replace HX3 := Aside0.mk (rbl HX3 hb)
    replace HRG := Aside0.mk (Kd.S_below (skp HRG) hb)
    have HO401 := Aside0.mk (Kd.S_lower (Kd.S_new' ho0 (Kd.S_lt (skp HO_395001))) (below_size bel))
    have HO404 := Aside0.mk (Kd.S_lower (Kd.S_new' ho1 (Kd.S_lt (skp HO_395002))) (below_size bel))
    have HO408 := Aside0.mk (Kd.R_lower (Kd.R_new' ho2 (Kd.R_lt (rkp HO_395004))) (below_size bel))
    have HO411 := Aside0.mk (Kd.R_lower (Kd.R_new' ho3 (Kd.R_lt (rkp HO_395005))) (below_size bel))
    replace HO_395001 := Aside0.mk (Kd.S_elder' (skp HO_395001) (Kd.S_base ho0) hb)
    replace HO_395002 := Aside0.mk (Kd.S_elder' (skp HO_395002) (Kd.S_base ho1) hb)
    replace HO_395004 := Aside0.mk (Kd.R_elder' (rkp HO_395004) (Kd.R_base ho2) hb)
    replace HO_395005 := Aside0.mk (Kd.R_elder' (rkp HO_395005) (Kd.R_base ho3) hb)
    replace BK362 := Aside0.mk (blb BK362 hb)
    replace BK394 := Aside0.mk (blb BK394 hb)
    replace HB := bst hb
    (try clear hb)
    (try clear hb2)
    (try clear hk)
    (try clear hi)
    (try clear ho0)
    (try clear ho1)
    (try clear ho2)
    (try clear ho3)
    obtain ⟨Ao43, co43, eo43⟩ := Kd.S_slice HO401.out
    (first | subst eo43 | (injection eo43 with f1_ f2_ f3_; have f4_ := f1_.symm; have f5_ := f3_.symm; clear f1_ f2_ f3_; subst f4_; subst f5_))
    obtain ⟨Ao44, co44, eo44⟩ := Kd.S_slice HO404.out
    (first | subst eo44 | (injection eo44 with f1_ f2_ f3_; have f4_ := f1_.symm; have f5_ := f3_.symm; clear f1_ f2_ f3_; subst f4_; subst f5_))
    obtain ⟨Ao45, co45, eo45⟩ := Kd.R_slice HO408.out
    (first | subst eo45 | (injection eo45 with f1_ f2_ f3_; have f4_ := f1_.symm; have f5_ := f3_.symm; clear f1_ f2_ f3_; subst f4_; subst f5_))
    obtain ⟨Ao46, co46, eo46⟩ := Kd.R_slice HO411.out
    (first | subst eo46 | (injection eo46 with f1_ f2_ f3_; have f4_ := f1_.symm; have f5_ := f3_.symm; clear f1_ f2_ f3_; subst f4_; subst f5_))
    refine hK.out _ _ (cells_6 BK394.out (cellz_6 BK362.out)) (fun hHeld => ?_)
    clear hK K
    refine nrm_ (some 47) (h := ?_)
    refine one_ (i := 3) (N := some 48) #[true, true, true, true, false] rfl rfl (by kernel_rfl) (by decide) (fun K hK => ?_)
    refine gs_ Try.func19 #[.agg #[.int .i64 t380, .slice Ao28 t381.length co28, .slice Ao29 t384.length co29, .int .i64 t387, .slice Ao30 t388.length co30, .slice Ao31 t391.length co31], .agg #[.int .i64 t398, .slice Ao43 t399.length co43, .slice Ao44 t402.length co44, .int .i64 t405, .slice Ao45 t406.length co45, .slice Ao46 t409.length co46]] (h := ?_)
    with_reducible refine (laws_eqState.calls kj11 t380 _ _ t381 _ _ t384 t387 _ _ t388 _ _ t391 t398 _ _ t399 _ _ t402 t405 _ _ t406 _ _ t409 true _ ?side1 ?side2 ?side3 ?side4 ?side5 ?side6 ?side7 ?side8 ?side9 ?side10 ?side11 ?side12 ?side13 ?side14 ?side15 ?side16 A37.out).mono ?_
    (case side1 => repeat (first | exact (Kd.S_reads' HO_395001.out).2.2 | (with_reducible refine Kd.C_alloc ?_ _) | (with_reducible refine Kd.C_drewN ?_ _) | (with_reducible refine Kd.C_drew ?_)))
    (case side2 => exact (Kd.S_reads' HO_395001.out).2.1)
    (case side3 => repeat (first | exact (Kd.S_reads' HO_395002.out).2.2 | (with_reducible refine Kd.C_alloc ?_ _) | (with_reducible refine Kd.C_drewN ?_ _) | (with_reducible refine Kd.C_drew ?_)))
    (case side4 => exact (Kd.S_reads' HO_395002.out).2.1)
    (case side5 => repeat (first | exact (Kd.R_reads' HO_395004.out).2.2 | (with_reducible refine Kd.C_alloc ?_ _) | (with_reducible refine Kd.C_drewN ?_ _) | (with_reducible refine Kd.C_drew ?_)))
    (case side6 => exact (Kd.R_reads' HO_395004.out).2.1)
    (case side7 => repeat (first | exact (Kd.R_reads' HO_395005.out).2.2 | (with_reducible refine Kd.C_alloc ?_ _) | (with_reducible refine Kd.C_drewN ?_ _) | (with_reducible refine Kd.C_drew ?_)))
    (case side8 => exact (Kd.R_reads' HO_395005.out).2.1)
    (case side9 => repeat (first | exact (Kd.S_reads' HO401.out).2.2 | (with_reducible refine Kd.C_alloc ?_ _) | (with_reducible refine Kd.C_drewN ?_ _) | (with_reducible refine Kd.C_drew ?_)))
    (case side10 => exact (Kd.S_reads' HO401.out).2.1)
    (case side11 => repeat (first | exact (Kd.S_reads' HO404.out).2.2 | (with_reducible refine Kd.C_alloc ?_ _) | (with_reducible refine Kd.C_drewN ?_ _) | (with_reducible refine Kd.C_drew ?_)))
    (case side12 => exact (Kd.S_reads' HO404.out).2.1)
    (case side13 => repeat (first | exact (Kd.R_reads' HO408.out).2.2 | (with_reducible refine Kd.C_alloc ?_ _) | (with_reducible refine Kd.C_drewN ?_ _) | (with_reducible refine Kd.C_drew ?_)))
    (case side14 => exact (Kd.R_reads' HO408.out).2.1)
    (case side15 => repeat (first | exact (Kd.R_reads' HO411.out).2.2 | (with_reducible refine Kd.C_alloc ?_ _) | (with_reducible refine Kd.C_drewN ?_ _) | (with_reducible refine Kd.C_drew ?_)))
    (case side16 => exact (Kd.R_reads' HO411.out).2.1)
    rintro e w47 ⟨rfl, hb⟩
    refine ⟨_, rfl, ?_⟩
    replace HRW := Aside0.mk (Kd.S_below (skp HRW) hb)
    replace HX0 := Aside0.mk (Kd.S_below (skp HX0) hb)
    replace HX1 := Aside0.mk (Kd.S_below (skp HX1) hb)
    replace HX2 := Aside0.mk (rbl HX2 hb)
    replace HX3 := Aside0.mk (rbl HX3 hb)
    replace HRG := Aside0.mk (Kd.S_below (skp HRG) hb)
    replace HO_395001 := Aside0.mk (Kd.S_below (skp HO_395001) hb)
    replace HO_395002 := Aside0.mk (Kd.S_below (skp HO_395002) hb)
    replace HO_395004 := Aside0.mk (rbl HO_395004 hb)
    replace HO_395005 := Aside0.mk (rbl HO_395005 hb)
    replace HO401 := Aside0.mk (Kd.S_below (skp HO401) hb)
    replace HO404 := Aside0.mk (Kd.S_below (skp HO404) hb)
    replace HO408 := Aside0.mk (rbl HO408 hb)
    replace HO411 := Aside0.mk (rbl HO411 hb)
    replace BK362 := Aside0.mk (blb BK362 hb)
    replace BK394 := Aside0.mk (blb BK394 hb)
    replace HB := bst hb
    (try clear hb)
    (try clear hb2)
    (try clear hk)
    (try clear hi)
    refine hK.out _ _ (cells_6 BK394.out (cellz_6 BK362.out)) (fun hHeld => ?_)
    clear hK K
    refine nrm_ (some 48) (h := ?_)
    refine pure_ (i := 4) (N := some 49) (v := ?_) (a' := ?_) #[true, true, true, true, true] rfl rfl (by kernel_rfl) (fun _ _ _ h => h) (Or.inl ⟨by rfl, ?_⟩) ?_ ?_
    rotate_left
    ·intro w'
     go_simp
     with_reducible rfl
    rotate_left
    ·simp only [Act.put, List.setIfInBounds_toArray, List.set_cons_zero, List.set_cons_succ, i64_w, i32_w]
     rfl
    refine done_ (by kernel_rfl) ?_
    have hnb48 := NB394_362.out
    have hnc48 := NB362_394.out
    obtain ⟨C49_0, C49_1, C49_2, C49_3, C49_4, C49_5, -⟩ := cells_6 BK394.out trivial
    obtain ⟨F49_0, F49_1, F49_2, F49_3, F49_4, F49_5, -⟩ := frz_6 BK394.out
    go_upto_region 14 with (first | ((with_reducible refine gate_callee (f := 57) rfl ?_); refine gl_ (some 52) Try.func57 #[.agg #[.int .i64 t380, .slice Ao28 t381.length co28, .slice Ao29 t384.length co29, .int .i64 t387, .slice Ao30 t388.length co30, .slice Ao31 t391.length co31], .int .i64 1] (h := ?_); (refine (laws_markState.calls t380 (fun k_ => w22.heap.size ≤ k_ ∧ k_ < w24.heap.size) (.slice Ao28 t381.length co28) t381 (fun k_ => w22.heap.size ≤ k_ ∧ k_ < w24.heap.size) (.slice Ao29 t384.length co29) t384 t387 (fun k_ => w22.heap.size ≤ k_ ∧ k_ < w24.heap.size) (.slice Ao30 t388.length co30) t388 (fun k_ => w22.heap.size ≤ k_ ∧ k_ < w24.heap.size) (.slice Ao31 t391.length co31) t391 1 t413 w _ ?side1 ?side2 ?side3 ?side4 ?side5 A39.out).mono ?_); (case side1 => repeat (first | (with_reducible first | exact HB.out | apply below_alloc | apply pw_below_drewN | apply below_drew1 | refine below_set ?_ GE362.out | refine below_set ?_ GE394.out) | exact HB.out)); (case side2 => exact Kd.S_R (skp HX0)); (case side3 => exact Kd.S_R (skp HX1)); (case side4 => exact rkp HX2); (case side5 => exact rkp HX3); rintro e w50 ⟨rfl, hb, hkp⟩; refine ⟨_, rfl, ?_⟩; have n0_ := Aside0.mk (blk_kept (bkp BK362) hkp (fun hs_ => by have := GLT.out; (try simp only at hs_); omega)); have n1_ := Aside0.mk (hb); have n2_ := Aside0.mk (Kd.S_kept (skp HRW) hkp (fun k_ h_ hs_ => by have := GLT.out; have := HSZ12.out; have := HSZ4.out; (try simp only at hs_ h_); omega)); have n3_ := Aside0.mk (Kd.S_kept (skp HRG) hkp (fun k_ h_ hs_ => by have := GLT.out; have := HSZ12.out; have := HSZ4.out; (try simp only at hs_ h_); omega)); clear BK362 HB HRW HRG; have BK362 := n0_; have HB := n1_; have HRW := n2_; have HRG := n3_; clear n0_ n1_ n2_ n3_ hb hkp))
    (try simp only [Act.put, List.setIfInBounds_toArray, List.set_cons_zero, List.set_cons_succ])
    go_cut [65] (fun v65 wc => ∃ (kq : Nat) (x65_39 : Bool), v65 = .bool x65_39 ∧ Aside0 (laws_FnExactTurned.j1 kq a1 t378 t379 t395 x65_39 a0_0 l0_1 l0_2 a0_3 l0_4 l0_5 = some true) ∧ Aside0 (kq ≤ kj11) ∧ Aside0 (wc.heap[gb362]? = some (.cells #[.int .i64 a0_0, (.slice A0_1 l0_1.length c0_1), (.slice A0_2 l0_2.length c0_2), .int .i64 a0_3, (.slice A0_4 l0_4.length c0_4), (.slice A0_5 l0_5.length c0_5)] 27 (0, 0))) ∧ Aside0 (Kd.S (Kd.slice 5 (Kd.int .u8)) 52 wc w.heap.size (fun k_ => k_ < w22.heap.size) (.slice AoW t378.length coW) t378) ∧ Aside0 (Kd.S (Kd.slice 5 (Kd.int .u8)) 52 wc w.heap.size (fun k_ => w24.heap.size ≤ k_) (.slice AoG t395.length coG) t395) ∧ Aside0 (Below w.heap.size w wc))
    case first =>
     have H := HC40.out
     clear HC40
     by_cases c51 : t413 < 0
     ·rw [if_pos c51] at H
      exact absurd H (by first | simp | (unfold laws_FnExactTurned.j0; split <;> simp) | (unfold laws_FnExactTurned.j1; split <;> simp) | (unfold laws_FnExactTurned.j2; split <;> simp))
     rw [if_neg c51] at H
     have c51b0 : decide (t413 < 0) = false := decide_eq_false c51
     clear c51
     (first | rw [c51b0] | (simp only [i64_w, i32_w]; rw [c51b0]) | skip)
     replace H := Option.bind_eq_some_iff.mp H
     obtain ⟨t414, A520, H⟩ := H
     replace H : (if t414 = true then (laws_FnExactTurned.j1 kj11 a1 t378 t379 t395 (t396 != t379) a0_0 l0_1 l0_2 a0_3 l0_4 l0_5) else (laws_FnExactTurned.j1 kj11 a1 t378 t379 t395 true a0_0 l0_1 l0_2 a0_3 l0_4 l0_5)) = some true := H
     have A52 := Aside0.mk A520
     clear A520
     by_cases c53 : t414 = true
     ·subst c53
      have H1 : (laws_FnExactTurned.j1 kj11 a1 t378 t379 t395 (t396 != t379) a0_0 l0_1 l0_2 a0_3 l0_4 l0_5) = some true := by rw [if_pos rfl] at H; exact H
      clear H
      have H := H1
      clear H1
      have H' := Aside0.mk H
      clear H
      go_wp2_with (first | (go_at_call 56; (with_reducible refine (laws_eqByteSS.calls kj11 _ _ t395 _ _ t378 true _ ?q1 ?q2 ?q3 ?q4 A52.out).mono ?_); (case q1 => repeat (first | exact (Kd.S_reads' HRG.out).2.2 | (with_reducible refine Kd.C_alloc ?_ _) | (with_reducible refine Kd.C_drewN ?_ _) | (with_reducible refine Kd.C_drew ?_))); (case q2 => exact (Kd.S_reads' HRG.out).2.1); (case q3 => repeat (first | exact (Kd.S_reads' HRW.out).2.2 | (with_reducible refine Kd.C_alloc ?_ _) | (with_reducible refine Kd.C_drewN ?_ _) | (with_reducible refine Kd.C_drew ?_))); (case q4 => exact (Kd.S_reads' HRW.out).2.1); rintro e w' ⟨rfl, ⟨nd, rfl⟩⟩))
      go_meet
      case rel => exact ⟨_, ((t396 != t379)), rs_, H', ⟨by have := HJ11.out; first | omega | exact Nat.le_refl _⟩, ⟨bkp BK362⟩, ⟨skp HRW⟩, ⟨skp HRG⟩, ⟨bel⟩⟩
     replace c53 := Bool.eq_false_iff.mpr c53
     subst c53
     have H1 : (laws_FnExactTurned.j1 kj11 a1 t378 t379 t395 true a0_0 l0_1 l0_2 a0_3 l0_4 l0_5) = some true := by rw [if_neg (show ¬ (false = true) by decide)] at H; exact H
     clear H
     have H := H1
     clear H1
     have H' := Aside0.mk H
     clear H
     go_wp2_with (first | (go_at_call 56; (with_reducible refine (laws_eqByteSS.calls kj11 _ _ t395 _ _ t378 false _ ?q1 ?q2 ?q3 ?q4 A52.out).mono ?_); (case q1 => repeat (first | exact (Kd.S_reads' HRG.out).2.2 | (with_reducible refine Kd.C_alloc ?_ _) | (with_reducible refine Kd.C_drewN ?_ _) | (with_reducible refine Kd.C_drew ?_))); (case q2 => exact (Kd.S_reads' HRG.out).2.1); (case q3 => repeat (first | exact (Kd.S_reads' HRW.out).2.2 | (with_reducible refine Kd.C_alloc ?_ _) | (with_reducible refine Kd.C_drewN ?_ _) | (with_reducible refine Kd.C_drew ?_))); (case q4 => exact (Kd.S_reads' HRW.out).2.1); rintro e w' ⟨rfl, ⟨nd, rfl⟩⟩))
     go_meet
     case rel => exact ⟨_, (true), rs_, H', ⟨by have := HJ11.out; first | omega | exact Nat.le_refl _⟩, ⟨bkp BK362⟩, ⟨skp HRW⟩, ⟨skp HRG⟩, ⟨bel⟩⟩
    case rest =>
     clear HC40
     try clear c1; try clear c2; try clear p2; try clear c3; try clear c4; try clear c4b0; try clear c5; try clear c6; try clear c14; try clear c15; try clear c17; try clear c19; try clear c26; try clear c34; try clear c35; try clear c38; try clear c45; try clear c48; try clear c51; try clear c51b0; try clear c53; try clear C14_0 C14_1 C14_2 C14_3 C14_4 C14_5; try clear C16_0 C16_1 C16_2 C16_3 C16_4 C16_5; try clear C23_0 C23_1 C23_2 C23_3 C23_4 C23_5; try clear C27_0 C27_1 C27_2 C27_3 C27_4 C27_5; try clear C49_0 C49_1 C49_2 C49_3 C49_4 C49_5; try clear C6_0 C6_1 C6_2 C6_3 C6_4 C6_5; try clear F14_0 F14_1 F14_2 F14_3 F14_4 F14_5; try clear F16_0 F16_1 F16_2 F16_3 F16_4 F16_5; try clear F23_0 F23_1 F23_2 F23_3 F23_4 F23_5; try clear F27_0 F27_1 F27_2 F27_3 F27_4 F27_5; try clear F49_0 F49_1 F49_2 F49_3 F49_4 F49_5; try clear F6_0 F6_1 F6_2 F6_3 F6_4 F6_5; try clear p2
     obtain ⟨kq, x65_39, rfl, HA, HJ39, BK362, HRW, HRG, HB⟩ := hcut
     cases kq with
     | zero => exact absurd HA.out (by simp [laws_FnExactTurned.j1])
     | succ kj39 =>
      have H := HA.out
      clear HA
      simp only [laws_FnExactTurned.j1] at H
      by_cases c54 : x65_39 = true
      ·subst c54
       have H1 : (some false) = some true := by rw [if_pos rfl] at H; exact H
       exact absurd H1 (by simp)
      replace c54 := Bool.eq_false_iff.mpr c54
      subst c54
      have H1 : ((laws_markByteSS1.f kj39 t395 1).bind fun t415 => ((laws_heldByteSSm.f kj39 t395 1).bind fun t416 => (if t416 < 0 then (some false) else (if t416 = t415 then ((laws_toState.f kj39 a0_0 l0_1 l0_2 a0_3 l0_4 l0_5).bind fun bt417 => ((impl_Turned.f kj39 bt417.1 bt417.2.1 bt417.2.2.1 bt417.2.2.2.1 bt417.2.2.2.2.1 bt417.2.2.2.2.2 a1).bind fun bt431 => ((laws_eqByteSS.f kj39 bt431.1 t378).bind fun t433 => (if t433 = true then (laws_FnExactTurned.j2 kj39 t395 t415 (bt431.2 != t379)) else (laws_FnExactTurned.j2 kj39 t395 t415 true))))) else (some false))))) = some true := by rw [if_neg (show ¬ (false = true) by decide)] at H; exact H
      clear H
      have H := H1
      clear H1
      replace H := Option.bind_eq_some_iff.mp H
      obtain ⟨t415, A550, H⟩ := H
      replace H : ((laws_heldByteSSm.f kj39 t395 1).bind fun t416 => (if t416 < 0 then (some false) else (if t416 = t415 then ((laws_toState.f kj39 a0_0 l0_1 l0_2 a0_3 l0_4 l0_5).bind fun bt417 => ((impl_Turned.f kj39 bt417.1 bt417.2.1 bt417.2.2.1 bt417.2.2.2.1 bt417.2.2.2.2.1 bt417.2.2.2.2.2 a1).bind fun bt431 => ((laws_eqByteSS.f kj39 bt431.1 t378).bind fun t433 => (if t433 = true then (laws_FnExactTurned.j2 kj39 t395 t415 (bt431.2 != t379)) else (laws_FnExactTurned.j2 kj39 t395 t415 true))))) else (some false)))) = some true := H
      have A55 := Aside0.mk A550
      clear A550
      replace H := Option.bind_eq_some_iff.mp H
      obtain ⟨t416, A560, H⟩ := H
      replace H : (if t416 < 0 then (some false) else (if t416 = t415 then ((laws_toState.f kj39 a0_0 l0_1 l0_2 a0_3 l0_4 l0_5).bind fun bt417 => ((impl_Turned.f kj39 bt417.1 bt417.2.1 bt417.2.2.1 bt417.2.2.2.1 bt417.2.2.2.2.1 bt417.2.2.2.2.2 a1).bind fun bt431 => ((laws_eqByteSS.f kj39 bt431.1 t378).bind fun t433 => (if t433 = true then (laws_FnExactTurned.j2 kj39 t395 t415 (bt431.2 != t379)) else (laws_FnExactTurned.j2 kj39 t395 t415 true))))) else (some false))) = some true := H
      have A56 := Aside0.mk A560
      clear A560
      by_cases c57 : t416 < 0
      ·rw [if_pos c57] at H
       exact absurd H (by first | simp | (unfold laws_FnExactTurned.j0; split <;> simp) | (unfold laws_FnExactTurned.j1; split <;> simp) | (unfold laws_FnExactTurned.j2; split <;> simp))
      rw [if_neg c57] at H
      have c57b0 : decide (t416 < 0) = false := decide_eq_false c57
      clear c57
      by_cases c59 : t416 = t415
      ·rw [if_pos c59] at H
       have c59b0 : (t416 == t415) = true := beq_iff_eq.mpr c59
       have c59b1 : (t416 != t415) = false := bne_eq_false_iff_eq.mpr c59
       clear c59
       replace H := Option.bind_eq_some_iff.mp H
       obtain ⟨⟨t417, t418, t421, t424, t425, t428⟩, A600, H⟩ := H
       replace H : ((impl_Turned.f kj39 t417 t418 t421 t424 t425 t428 a1).bind fun bt431 => ((laws_eqByteSS.f kj39 bt431.1 t378).bind fun t433 => (if t433 = true then (laws_FnExactTurned.j2 kj39 t395 t415 (bt431.2 != t379)) else (laws_FnExactTurned.j2 kj39 t395 t415 true)))) = some true := H
       have A60 := Aside0.mk A600
       clear A600
       replace H := Option.bind_eq_some_iff.mp H
       obtain ⟨⟨t431, t432⟩, A610, H⟩ := H
       replace H : ((laws_eqByteSS.f kj39 t431 t378).bind fun t433 => (if t433 = true then (laws_FnExactTurned.j2 kj39 t395 t415 (t432 != t379)) else (laws_FnExactTurned.j2 kj39 t395 t415 true))) = some true := H
       have A61 := Aside0.mk A610
       clear A610
       have HC62 := Aside0.mk H
       clear H
       obtain ⟨hlenM, hmM⟩ := laws_markByteSS1.get A55.out
       have HMM := Aside0.mk hmM
       have HLM := Aside0.mk hlenM
       clear hmM hlenM
       obtain ⟨m2, em2⟩ : ∃ m_, m_ = laws_markByteSS.mk 1 t395 := ⟨_, rfl⟩
       have EM2 := Aside0.mk em2
       clear em2
       have HH1 := Aside0.mk (show laws_heldByteSS.f kj39 m2 1 = some t416 from by rw [EM2.out]; exact A56.out)
       go_upto_region 25 with (first | ((with_reducible refine gate_callee (f := 58) rfl ?_); refine gl_ (some 68) Try.func58 #[.slice AoG t395.length coG, .int .i64 1] (h := ?_); (refine (laws_markByteSS.calls kj39 (fun k_ => w24.heap.size ≤ k_) (.slice AoG t395.length coG) t395 1 t415 w _ ?q1 ?q2 HLM.out HMM.out).mono ?_); (case q1 => exact bel); (case q2 => exact skp HRG); rintro e w63 ⟨rfl, hoM, hb, hkp⟩; refine ⟨_, rfl, ?_⟩; rw [← EM2.out] at hoM; have n0_ := Aside0.mk (blk_kept (bkp BK362) hkp (fun hs_ => by have := GLT.out; have := HSZ12.out; have := HSZ4.out; (try simp only at hs_); omega)); have n1_ := Aside0.mk hb; have n2_ := Aside0.mk (Kd.S_kept (skp HRW) hkp (fun k_ h_ hs_ => by have := HSZ12.out; have := HSZ4.out; (try simp only at hs_ h_); omega)); have HRM := Aside0.mk hoM; clear BK362 HB HRW HRG; have BK362 := n0_; have HB := n1_; have HRW := n2_; clear n0_ n1_ n2_ hb hkp hoM; have hnM := (Kd.S_reads' HRM.out).1; rw [hnM] at HRM ⊢; clear hnM) | ((with_reducible refine gate_callee (f := 59) rfl ?_); refine gl_ (some 71) Try.func59 #[.slice AoG m2.length coG, .int .i64 1] (h := ?_); (with_reducible refine (laws_heldByteSS.calls kj39 _ _ m2 1 t416 _ ?q1 ?q2 HH1.out).mono ?_); (case q1 => repeat (first | exact (Kd.S_reads' HRM.out).2.2 | (with_reducible refine Kd.C_alloc ?_ _) | (with_reducible refine Kd.C_drewN ?_ _) | (with_reducible refine Kd.C_drew ?_))); (case q2 => exact (Kd.S_reads' HRM.out).2.1); rintro e w' ⟨rfl, ⟨nd, rfl⟩⟩; refine ⟨_, rfl, ?_⟩; obtain ⟨C64_0, C64_1, C64_2, C64_3, C64_4, C64_5, -⟩ := cells_6 BK362.out trivial; obtain ⟨F64_0, F64_1, F64_2, F64_3, F64_4, F64_5, -⟩ := frz_6 BK362.out) | ((with_reducible refine gate_callee (f := 17) rfl ?_); refine gl_ (some 79) Try.func17 #[.agg #[.int .i64 a0_0, .slice A0_1 l0_1.length c0_1, .slice A0_2 l0_2.length c0_2, .int .i64 a0_3, .slice A0_4 l0_4.length c0_4, .slice A0_5 l0_5.length c0_5]] (h := ?_); (with_reducible refine (laws_toState.calls kj39 a0_0 _ _ l0_1 _ _ l0_2 a0_3 _ _ l0_4 _ _ l0_5 t417 t418 t421 t424 t425 t428 _ ?side1 ?side2 ?side3 ?side4 ?side5 ?side6 ?side7 ?side8 A60.out).mono ?_); (case side1 => exact kcb); (case side2 => exact HC0_1.out); (case side3 => exact kcb); (case side4 => exact HC0_2.out); (case side5 => exact kcb); (case side6 => exact HC0_4.out); (case side7 => exact kcb); (case side8 => exact HC0_5.out); rintro e w65 ⟨v419, v422, v426, v429, rfl, ho0, ho1, ho2, ho3, hb⟩; refine ⟨_, rfl, ?_⟩; replace HRW := Aside0.mk (Kd.S_below (skp HRW) hb); replace HRM := Aside0.mk (Kd.S_below (skp HRM) hb); have HO420 := Aside0.mk (Kd.S_lower ho0 (below_size bel)); have HO423 := Aside0.mk (Kd.S_lower ho1 (below_size bel)); have HO427 := Aside0.mk (Kd.R_lower ho2 (below_size bel)); have HO430 := Aside0.mk (Kd.R_lower ho3 (below_size bel)); replace BK362 := Aside0.mk (blb BK362 hb); replace HB := bst hb; (try clear hb); (try clear hb2); (try clear hk); (try clear hi); (try clear ho0); (try clear ho1); (try clear ho2); (try clear ho3); obtain ⟨Ao66, co66, eo66⟩ := Kd.S_slice HO420.out; subst eo66; obtain ⟨Ao67, co67, eo67⟩ := Kd.S_slice HO423.out; subst eo67; obtain ⟨Ao68, co68, eo68⟩ := Kd.R_slice HO427.out; subst eo68; obtain ⟨Ao69, co69, eo69⟩ := Kd.R_slice HO430.out; subst eo69) | ((with_reducible refine gate_callee (f := 45) rfl ?_); refine gl_ (some 81) Try.func45 #[.agg #[.int .i64 t417, .slice Ao66 t418.length co66, .slice Ao67 t421.length co67, .int .i64 t424, .slice Ao68 t425.length co68, .slice Ao69 t428.length co69], .int .i64 a1] (h := ?_); (with_reducible refine (impl_Turned.calls kj39 t417 _ _ t418 _ _ t421 t424 _ _ t425 _ _ t428 a1 t431 t432 _ ?side1 ?side2 ?side3 ?side4 ?side5 ?side6 ?side7 ?side8 A61.out).mono ?_); (case side1 => repeat (first | exact (Kd.S_reads' HO420.out).2.2 | (with_reducible refine Kd.C_alloc ?_ _) | (with_reducible refine Kd.C_drewN ?_ _) | (with_reducible refine Kd.C_drew ?_))); (case side2 => exact (Kd.S_reads' HO420.out).2.1); (case side3 => repeat (first | exact (Kd.S_reads' HO423.out).2.2 | (with_reducible refine Kd.C_alloc ?_ _) | (with_reducible refine Kd.C_drewN ?_ _) | (with_reducible refine Kd.C_drew ?_))); (case side4 => exact (Kd.S_reads' HO423.out).2.1); (case side5 => repeat (first | exact (Kd.R_reads' HO427.out).2.2 | (with_reducible refine Kd.C_alloc ?_ _) | (with_reducible refine Kd.C_drewN ?_ _) | (with_reducible refine Kd.C_drew ?_))); (case side6 => exact (Kd.R_reads' HO427.out).2.1); (case side7 => repeat (first | exact (Kd.R_reads' HO430.out).2.2 | (with_reducible refine Kd.C_alloc ?_ _) | (with_reducible refine Kd.C_drewN ?_ _) | (with_reducible refine Kd.C_drew ?_))); (case side8 => exact (Kd.R_reads' HO430.out).2.1); rintro e w70 ⟨vH, rfl, hoH, hb⟩; refine ⟨_, rfl, ?_⟩; have HRH := Aside0.mk hoH; clear hoH; obtain ⟨AoH, coH, eoH⟩ := Kd.S_slice HRH.out; subst eoH; replace HRW := Aside0.mk (Kd.S_below (skp HRW) hb); replace HRM := Aside0.mk (Kd.S_below (skp HRM) hb); replace HO420 := Aside0.mk (Kd.S_below (skp HO420) hb); replace HO423 := Aside0.mk (Kd.S_below (skp HO423) hb); replace HO427 := Aside0.mk (rbl HO427 hb); replace HO430 := Aside0.mk (rbl HO430 hb); replace BK362 := Aside0.mk (blb BK362 hb); replace HB := bst hb; (try clear hb); (try clear hb2); (try clear hk); (try clear hi)))
       (try simp only [Act.put, List.setIfInBounds_toArray, List.set_cons_zero, List.set_cons_succ])
       go_cut [92] (fun v92 wc => ∃ (kq : Nat) (x92_61 : Bool), v92 = .bool x92_61 ∧ Aside0 (laws_FnExactTurned.j2 kq t395 t415 x92_61 = some true) ∧ Aside0 (kq ≤ kj39) ∧ Aside0 (wc.heap[gb362]? = some (.cells #[.int .i64 a0_0, (.slice A0_1 l0_1.length c0_1), (.slice A0_2 l0_2.length c0_2), .int .i64 a0_3, (.slice A0_4 l0_4.length c0_4), (.slice A0_5 l0_5.length c0_5)] 27 (0, 0))) ∧ Aside0 (Kd.S (Kd.slice 5 (Kd.int .u8)) 52 wc w.heap.size (fun k_ => True) (.slice AoG m2.length coG) m2) ∧ Aside0 (Below w.heap.size w wc))
       case first =>
        have H := HC62.out
        clear HC62
        replace H := Option.bind_eq_some_iff.mp H
        obtain ⟨t433, A710, H⟩ := H
        replace H : (if t433 = true then (laws_FnExactTurned.j2 kj39 t395 t415 (t432 != t379)) else (laws_FnExactTurned.j2 kj39 t395 t415 true)) = some true := H
        have A71 := Aside0.mk A710
        clear A710
        by_cases c72 : t433 = true
        ·subst c72
         have H1 : (laws_FnExactTurned.j2 kj39 t395 t415 (t432 != t379)) = some true := by rw [if_pos rfl] at H; exact H
         clear H
         have H := H1
         clear H1
         have H' := Aside0.mk H
         clear H
         go_wp2_with (first | ((with_reducible refine gate_callee (f := 56) rfl ?_); refine gl_ (some 86) Try.func56 #[.slice AoH t431.length coH, .slice AoW t378.length coW] (h := ?_); (with_reducible refine (laws_eqByteSS.calls kj39 _ _ t431 _ _ t378 true _ ?q1 ?q2 ?q3 ?q4 A71.out).mono ?_); (case q1 => repeat (first | exact (Kd.S_reads' HRH.out).2.2 | (with_reducible refine Kd.C_alloc ?_ _) | (with_reducible refine Kd.C_drewN ?_ _) | (with_reducible refine Kd.C_drew ?_))); (case q2 => exact (Kd.S_reads' HRH.out).2.1); (case q3 => repeat (first | exact (Kd.S_reads' HRW.out).2.2 | (with_reducible refine Kd.C_alloc ?_ _) | (with_reducible refine Kd.C_drewN ?_ _) | (with_reducible refine Kd.C_drew ?_))); (case q4 => exact (Kd.S_reads' HRW.out).2.1); rintro e w' ⟨rfl, ⟨nd, rfl⟩⟩; refine ⟨_, rfl, ?_⟩))
         go_meet
         case rel => exact ⟨_, ((t432 != t379)), rs_, H', ⟨by have := HJ11.out; have := HJ39.out; first | omega | exact Nat.le_refl _⟩, ⟨bkp BK362⟩, ⟨Kd.S_mono (skp HRM) (fun _ _ => trivial)⟩, ⟨bel⟩⟩
        replace c72 := Bool.eq_false_iff.mpr c72
        subst c72
        have H1 : (laws_FnExactTurned.j2 kj39 t395 t415 true) = some true := by rw [if_neg (show ¬ (false = true) by decide)] at H; exact H
        clear H
        have H := H1
        clear H1
        have H' := Aside0.mk H
        clear H
        go_wp2_with (first | ((with_reducible refine gate_callee (f := 56) rfl ?_); refine gl_ (some 86) Try.func56 #[.slice AoH t431.length coH, .slice AoW t378.length coW] (h := ?_); (with_reducible refine (laws_eqByteSS.calls kj39 _ _ t431 _ _ t378 false _ ?q1 ?q2 ?q3 ?q4 A71.out).mono ?_); (case q1 => repeat (first | exact (Kd.S_reads' HRH.out).2.2 | (with_reducible refine Kd.C_alloc ?_ _) | (with_reducible refine Kd.C_drewN ?_ _) | (with_reducible refine Kd.C_drew ?_))); (case q2 => exact (Kd.S_reads' HRH.out).2.1); (case q3 => repeat (first | exact (Kd.S_reads' HRW.out).2.2 | (with_reducible refine Kd.C_alloc ?_ _) | (with_reducible refine Kd.C_drewN ?_ _) | (with_reducible refine Kd.C_drew ?_))); (case q4 => exact (Kd.S_reads' HRW.out).2.1); rintro e w' ⟨rfl, ⟨nd, rfl⟩⟩; refine ⟨_, rfl, ?_⟩))
        go_meet
        case rel => exact ⟨_, (true), rs_, H', ⟨by have := HJ11.out; have := HJ39.out; first | omega | exact Nat.le_refl _⟩, ⟨bkp BK362⟩, ⟨Kd.S_mono (skp HRM) (fun _ _ => trivial)⟩, ⟨bel⟩⟩
       case rest =>
        clear HC62
        try clear c1; try clear c2; try clear p2; try clear c3; try clear c4; try clear c4b0; try clear c5; try clear c6; try clear c7; try clear c14; try clear c15; try clear c17; try clear c19; try clear c26; try clear c34; try clear c35; try clear c38; try clear c45; try clear c48; try clear c51; try clear c51b0; try clear c53; try clear c54; try clear c56; try clear c57; try clear c57b0; try clear c58; try clear c59; try clear c59b0; try clear c59b1; try clear c66; try clear c72; try clear C14_0 C14_1 C14_2 C14_3 C14_4 C14_5; try clear C16_0 C16_1 C16_2 C16_3 C16_4 C16_5; try clear C23_0 C23_1 C23_2 C23_3 C23_4 C23_5; try clear C27_0 C27_1 C27_2 C27_3 C27_4 C27_5; try clear C49_0 C49_1 C49_2 C49_3 C49_4 C49_5; try clear C64_0 C64_1 C64_2 C64_3 C64_4 C64_5; try clear C6_0 C6_1 C6_2 C6_3 C6_4 C6_5; try clear F14_0 F14_1 F14_2 F14_3 F14_4 F14_5; try clear F16_0 F16_1 F16_2 F16_3 F16_4 F16_5; try clear F23_0 F23_1 F23_2 F23_3 F23_4 F23_5; try clear F27_0 F27_1 F27_2 F27_3 F27_4 F27_5; try clear F49_0 F49_1 F49_2 F49_3 F49_4 F49_5; try clear F64_0 F64_1 F64_2 F64_3 F64_4 F64_5; try clear F6_0 F6_1 F6_2 F6_3 F6_4 F6_5; try clear p2
        obtain ⟨kq, x92_61, rfl, HA, HJ61, BK362, HRM, HB⟩ := hcut
        cases kq with
        | zero => exact absurd HA.out (by simp [laws_FnExactTurned.j2])
        | succ kj61 =>
         have H := HA.out
         clear HA
         simp only [laws_FnExactTurned.j2] at H
         by_cases c73 : x92_61 = true
         ·subst c73
          have H1 : (some false) = some true := by rw [if_pos rfl] at H; exact H
          exact absurd H1 (by simp)
         replace c73 := Bool.eq_false_iff.mpr c73
         subst c73
         have H1 : ((laws_heldByteSSm.f kj61 t395 1).bind fun t434 => (if t434 < 0 then (some false) else (if t434 = t415 then (some true) else (some false)))) = some true := by rw [if_neg (show ¬ (false = true) by decide)] at H; exact H
         clear H
         have H := H1
         clear H1
         replace H := Option.bind_eq_some_iff.mp H
         obtain ⟨t434, A740, H⟩ := H
         replace H : (if t434 < 0 then (some false) else (if t434 = t415 then (some true) else (some false))) = some true := H
         have A74 := Aside0.mk A740
         clear A740
         by_cases c75 : t434 < 0
         ·rw [if_pos c75] at H
          exact absurd H (by first | simp | (unfold laws_FnExactTurned.j0; split <;> simp) | (unfold laws_FnExactTurned.j1; split <;> simp) | (unfold laws_FnExactTurned.j2; split <;> simp))
         rw [if_neg c75] at H
         have c75b0 : decide (t434 < 0) = false := decide_eq_false c75
         clear c75
         by_cases c76 : t434 = t415
         ·rw [if_pos c76] at H
          have c76b0 : (t434 == t415) = true := beq_iff_eq.mpr c76
          have c76b1 : (t434 != t415) = false := bne_eq_false_iff_eq.mpr c76
          clear c76
          clear H
          have HH0 := Aside0.mk (show laws_heldByteSS.f kj61 m2 1 = some t434 from by rw [EM2.out]; exact A74.out)
          go_wp2_with (first | ((with_reducible refine gate_callee (f := 59) rfl ?_); refine gl_ (some 95) Try.func59 #[.slice AoG m2.length coG, .int .i64 1] (h := ?_); (with_reducible refine (laws_heldByteSS.calls kj61 _ _ m2 1 t434 _ ?q1 ?q2 HH0.out).mono ?_); (case q1 => repeat (first | exact (Kd.S_reads' HRM.out).2.2 | (with_reducible refine Kd.C_alloc ?_ _) | (with_reducible refine Kd.C_drewN ?_ _) | (with_reducible refine Kd.C_drew ?_))); (case q2 => exact (Kd.S_reads' HRM.out).2.1); rintro e w' ⟨rfl, ⟨nd, rfl⟩⟩; refine ⟨_, rfl, ?_⟩))
          go_ret
          exact ⟨rz_, bel⟩
         rw [if_neg c76] at H
         exact absurd H (by first | simp | (unfold laws_FnExactTurned.j0; split <;> simp) | (unfold laws_FnExactTurned.j1; split <;> simp) | (unfold laws_FnExactTurned.j2; split <;> simp))
      rw [if_neg c59] at H
      exact absurd H (by first | simp | (unfold laws_FnExactTurned.j0; split <;> simp) | (unfold laws_FnExactTurned.j1; split <;> simp) | (unfold laws_FnExactTurned.j2; split <;> simp))
   replace c38 := Bool.eq_false_iff.mpr c38
   subst c38
   have H1 : (some false) = some true := by rw [if_neg (show ¬ (false = true) by decide)] at H; exact H
   exact absurd H1 (by simp)

/-- THE ONE PURE STATEMENT of laws_FnExactTurned. -/
def laws_FnExactTurned.Pure : Prop := ∀ (x0 : S27) (a1 : Int), okS27 x0 → (Lit.int .i64 a1).wf = true → ∃ k, laws_FnExactTurned.f k x0.f0 x0.f1 x0.f2 x0.f3 x0.f4 x0.f5 a1 = some true
theorem laws_FnExactTurned.walk (P : laws_FnExactTurned.Pure) (x0 : S27) (cs0 : List Value) (a1 : Int) (w : World) (w0 : k27.K w x0 cs0) (o0 : okS27 x0) (w1 : (Lit.int .i64 a1).wf = true) :
  Calls Try.prog 14 #[.agg ⟨cs0⟩, .int .i64 a1] w fun e w' => e = .returned (.bool true) ∧ Below w.heap.size w w' := by
 obtain ⟨A0_1, c0_1, A0_2, c0_2, A0_4, c0_4, A0_5, c0_5, rfl, m0_1, g0_1, m0_2, g0_2, m0_4, g0_4, m0_5, g0_5⟩ := k27_open w0
 obtain ⟨k, h⟩ := P x0 a1 o0 w1
 refine (laws_FnExactTurned.calls k x0.f0 _ _ x0.f1 _ _ x0.f2 x0.f3 _ _ x0.f4 _ _ x0.f5 a1 w g0_1 m0_1 g0_2 m0_2 g0_4 m0_4 g0_5 m0_5 h).mono ?_
 rintro e w' ⟨rfl, hd⟩
 exact ⟨rfl, hd⟩

end Go.Proofs.Ytdgegnakiljfjaa.PT
