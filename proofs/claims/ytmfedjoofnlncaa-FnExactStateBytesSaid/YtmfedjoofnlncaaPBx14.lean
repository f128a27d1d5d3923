-- Written for this claim by the session's program pp.py, out of the kit's print and the seat's translation.
import Derived.Test.YtmfedjoofnlncaaPBx0
import Derived.Test.YtmfedjoofnlncaaPBx1
import Derived.Test.YtmfedjoofnlncaaPBx6
import Derived.Test.YtmfedjoofnlncaaPBx7
import Derived.Test.YtmfedjoofnlncaaPBx10
import Derived.Test.YtmfedjoofnlncaaPBx11
import Derived.Test.YtmfedjoofnlncaaPBx12
import Derived.Test.YtmfedjoofnlncaaPBx13
namespace Go.Proofs.Ytmfedjoofnlncaa.PB
open Go.RowKit Go.Proofs.YtmfedjoofnlncaaW.PrintWords Go.Proofs.YtmfedjoofnlncaaW.PrintLast Go.Proofs.YtmfedjoofnlncaaW.PrintMore
attribute [local go_sem] max2_int min2_int max_two min_two max_three min_three max_four min_four   -- for this text's walks alone
set_option linter.unusedVariables false
set_option linter.unusedSimpArgs false

/-! ### laws_FnExactStateBytes: function 3 -/
mutual
def laws_FnExactStateBytes.j0 : Nat → List Int → Bool → List Int → Bool → Bool → Int → List (S79) → List (S82) → Int → List (S99) → List (S103) → Int → List (S70) → List (S85) → Int → List (S88) → List (S92) → Option (Bool)
 | 0, _, _, _, _, _, _, _, _, _, _, _, _, _, _, _, _, _ => none
 | k + 1, x4, x5, x7, x8, x40, x493000, x493001, x493002, x493003, x493004, x493005, x527000, x527001, x527002, x527003, x527004, x527005 => if x40 = true then (some false) else ((laws_toState.f k x493000 x493001 x493002 x493003 x493004 x493005).bind fun bt532 => ((laws_eqState.f k x527000 x527001 x527002 x527003 x527004 x527005 bt532.1 bt532.2.1 bt532.2.2.1 bt532.2.2.2.1 bt532.2.2.2.2.1 bt532.2.2.2.2.2).bind fun t546 => (if t546 = true then ((laws_markState.f x527000 x527001 x527002 x527003 x527004 x527005 1).bind fun t547 => (if t547 < 0 then (laws_FnExactStateBytes.j1 k x4 x5 x7 true x493000 x493001 x493002 x493003 x493004 x493005) else ((laws_eqByteS.f k x7 x4).bind fun t548 => (if t548 = true then (laws_FnExactStateBytes.j1 k x4 x5 x7 (x8 != x5) x493000 x493001 x493002 x493003 x493004 x493005) else (laws_FnExactStateBytes.j1 k x4 x5 x7 true x493000 x493001 x493002 x493003 x493004 x493005))))) else (some false))))
def laws_FnExactStateBytes.j1 : Nat → List Int → Bool → List Int → Bool → Int → List (S79) → List (S82) → Int → List (S99) → List (S103) → Option (Bool)
 | 0, _, _, _, _, _, _, _, _, _, _ => none
 | k + 1, x4, x5, x7, x61, x493000, x493001, x493002, x493003, x493004, x493005 => if x61 = true then (some false) else ((laws_markByteS.f k x7 1).bind fun bt549 => ((laws_heldByteS.f k bt549.2 1).bind fun t551 => (if t551 < 0 then (some false) else (if t551 = bt549.1 then ((laws_toState.f k x493000 x493001 x493002 x493003 x493004 x493005).bind fun bt552 => ((impl_StateBytes.f k bt552.1 bt552.2.1 bt552.2.2.1 bt552.2.2.2.1 bt552.2.2.2.2.1 bt552.2.2.2.2.2).bind fun bt566 => ((laws_eqByteS.f k bt566.1 x4).bind fun t570 => (if t570 = true then (laws_FnExactStateBytes.j2 k bt549.2 bt549.1 (bt566.2 != x5)) else (laws_FnExactStateBytes.j2 k bt549.2 bt549.1 true))))) else (some false)))))
def laws_FnExactStateBytes.j2 : Nat → List Int → Int → Bool → Option (Bool)
 | 0, _, _, _ => none
 | k + 1, x7, x10, x87 => if x87 = true then (some false) else ((laws_heldByteS.f k x7 1).bind fun t571 => (if t571 < 0 then (some false) else (if t571 = x10 then (some true) else (some false))))
end
def laws_FnExactStateBytes.f (k : Nat) (a0_0 : Int) (l0_1 : List (S79)) (l0_2 : List (S82)) (a0_3 : Int) (l0_4 : List (S99)) (l0_5 : List (S103)) : Option (Bool) := (laws_szState.f k a0_0 l0_1 l0_2 a0_3 l0_4 l0_5 1048576).bind fun t493 => (if t493 < 0 then (some true) else ((laws_toState.f k a0_0 l0_1 l0_2 a0_3 l0_4 l0_5).bind fun bt494 => ((spec_StateBytes.f k bt494.1 bt494.2.1 bt494.2.2.1 bt494.2.2.2.1 bt494.2.2.2.2.1 bt494.2.2.2.2.2).bind fun bt508 => ((laws_toState.f k a0_0 l0_1 l0_2 a0_3 l0_4 l0_5).bind fun bt512 => ((impl_StateBytes.f k bt512.1 bt512.2.1 bt512.2.2.1 bt512.2.2.2.1 bt512.2.2.2.2.1 bt512.2.2.2.2.2).bind fun bt527 => ((laws_eqByteS.f k bt527.1 bt508.1).bind fun t531 => (if t531 = true then (laws_FnExactStateBytes.j0 k bt508.1 bt508.2 bt527.1 bt527.2 (bt527.2 != bt508.2) a0_0 l0_1 l0_2 a0_3 l0_4 l0_5 bt512.1 bt512.2.1 bt512.2.2.1 bt512.2.2.2.1 bt512.2.2.2.2.1 bt512.2.2.2.2.2) else (laws_FnExactStateBytes.j0 k bt508.1 bt508.2 bt527.1 bt527.2 true a0_0 l0_1 l0_2 a0_3 l0_4 l0_5 bt512.1 bt512.2.1 bt512.2.2.1 bt512.2.2.2.1 bt512.2.2.2.2.1 bt512.2.2.2.2.2))))))))
set_option maxHeartbeats 8000000 in
set_option maxRecDepth 100000 in
theorem laws_FnExactStateBytes.calls (k : Nat) (a0_0 : Int) (A0_1 : Option Addr) (c0_1 : Nat) (l0_1 : List (S79)) (A0_2 : Option Addr) (c0_2 : Nat) (l0_2 : List (S82)) (a0_3 : Int) (A0_4 : Option Addr) (c0_4 : Nat) (l0_4 : List (S99)) (A0_5 : Option Addr) (c0_5 : Nat) (l0_5 : List (S103)) (w : World) (hr0_1 : Kd.C k79 w A0_1 l0_1.length l0_1) (hc0_1 : l0_1.length ≤ c0_1) (hr0_2 : Kd.C k82 w A0_2 l0_2.length l0_2) (hc0_2 : l0_2.length ≤ c0_2) (hr0_4 : Kd.C k99 w A0_4 l0_4.length l0_4) (hc0_4 : l0_4.length ≤ c0_4) (hr0_5 : Kd.C k103 w A0_5 l0_5.length l0_5) (hc0_5 : l0_5.length ≤ c0_5) (h : laws_FnExactStateBytes.f k a0_0 l0_1 l0_2 a0_3 l0_4 l0_5 = some true) :
  Calls Try.prog 3 #[.agg #[.int .i64 a0_0, .slice A0_1 l0_1.length c0_1, .slice A0_2 l0_2.length c0_2, .int .i64 a0_3, .slice A0_4 l0_4.length c0_4, .slice A0_5 l0_5.length c0_5]] w fun e w' => e = .returned (.bool true) ∧ Below w.heap.size w w' := by
 have hu27 := Try.underlying27
 have hu37 := Try.underlying37
 have HR0_1 := Aside0.mk hr0_1
 have HC0_1 := Aside0.mk hc0_1
 clear hr0_1 hc0_1
 have HR0_2 := Aside0.mk hr0_2
 have HC0_2 := Aside0.mk hc0_2
 clear hr0_2 hc0_2
 have HR0_4 := Aside0.mk hr0_4
 have HC0_4 := Aside0.mk hc0_4
 clear hr0_4 hc0_4
 have HR0_5 := Aside0.mk hr0_5
 have HC0_5 := Aside0.mk hc0_5
 clear hr0_5 hc0_5
 have HB := Aside0.mk (Below.refl w.heap.size w)
 have H : ((laws_szState.f k a0_0 l0_1 l0_2 a0_3 l0_4 l0_5 1048576).bind fun t493 => (if t493 < 0 then (some true) else ((laws_toState.f k a0_0 l0_1 l0_2 a0_3 l0_4 l0_5).bind fun bt494 => ((spec_StateBytes.f k bt494.1 bt494.2.1 bt494.2.2.1 bt494.2.2.2.1 bt494.2.2.2.2.1 bt494.2.2.2.2.2).bind fun bt508 => ((laws_toState.f k a0_0 l0_1 l0_2 a0_3 l0_4 l0_5).bind fun bt512 => ((impl_StateBytes.f k bt512.1 bt512.2.1 bt512.2.2.1 bt512.2.2.2.1 bt512.2.2.2.2.1 bt512.2.2.2.2.2).bind fun bt527 => ((laws_eqByteS.f k bt527.1 bt508.1).bind fun t531 => (if t531 = true then (laws_FnExactStateBytes.j0 k bt508.1 bt508.2 bt527.1 bt527.2 (bt527.2 != bt508.2) a0_0 l0_1 l0_2 a0_3 l0_4 l0_5 bt512.1 bt512.2.1 bt512.2.2.1 bt512.2.2.2.1 bt512.2.2.2.2.1 bt512.2.2.2.2.2) else (laws_FnExactStateBytes.j0 k bt508.1 bt508.2 bt527.1 bt527.2 true a0_0 l0_1 l0_2 a0_3 l0_4 l0_5 bt512.1 bt512.2.1 bt512.2.2.1 bt512.2.2.2.1 bt512.2.2.2.2.1 bt512.2.2.2.2.2))))))))) = some true := h
 clear h
 replace H := Option.bind_eq_some_iff.mp H
 obtain ⟨t493, A20, H⟩ := H
 replace H : (if t493 < 0 then (some true) else ((laws_toState.f k a0_0 l0_1 l0_2 a0_3 l0_4 l0_5).bind fun bt494 => ((spec_StateBytes.f k bt494.1 bt494.2.1 bt494.2.2.1 bt494.2.2.2.1 bt494.2.2.2.2.1 bt494.2.2.2.2.2).bind fun bt508 => ((laws_toState.f k a0_0 l0_1 l0_2 a0_3 l0_4 l0_5).bind fun bt512 => ((impl_StateBytes.f k bt512.1 bt512.2.1 bt512.2.2.1 bt512.2.2.2.1 bt512.2.2.2.2.1 bt512.2.2.2.2.2).bind fun bt527 => ((laws_eqByteS.f k bt527.1 bt508.1).bind fun t531 => (if t531 = true then (laws_FnExactStateBytes.j0 k bt508.1 bt508.2 bt527.1 bt527.2 (bt527.2 != bt508.2) a0_0 l0_1 l0_2 a0_3 l0_4 l0_5 bt512.1 bt512.2.1 bt512.2.2.1 bt512.2.2.2.1 bt512.2.2.2.2.1 bt512.2.2.2.2.2) else (laws_FnExactStateBytes.j0 k bt508.1 bt508.2 bt527.1 bt527.2 true a0_0 l0_1 l0_2 a0_3 l0_4 l0_5 bt512.1 bt512.2.1 bt512.2.2.1 bt512.2.2.2.1 bt512.2.2.2.2.1 bt512.2.2.2.2.2)))))))) = some true := H
 have A2 := Aside0.mk A20
 clear A20
 by_cases c3 : t493 < 0
 ·rw [if_pos c3] at H
  have c3b0 : decide (t493 < 0) = true := decide_eq_true c3
  clear c3
  clear H
  go_enter Try.func3, Try.ntmps3
  go_wp2_with (first | ((with_reducible refine gate_dst (N := 1) rfl ?_); refine bx_ 1 #[.int .i64 a0_0, .slice A0_1 l0_1.length c0_1, .slice A0_2 l0_2.length c0_2, .int .i64 a0_3, .slice A0_4 l0_4.length c0_4, .slice A0_5 l0_5.length c0_5] 27 (h := ?_); intro gb492 hg w4 hbox hb; have BK492 := Aside0.mk (hbox); have GW492 := Aside0.mk ((by rw [hg]; exact (below_size bel) : w.heap.size ≤ gb492)); have GE492 := GW492; replace HB := bst hb; clear hb hbox hg; obtain ⟨C5_0, C5_1, C5_2, C5_3, C5_4, C5_5, -⟩ := cells_6 BK492.out trivial; obtain ⟨F5_0, F5_1, F5_2, F5_3, F5_4, F5_5, -⟩ := frz_6 BK492.out) | ((with_reducible refine gate_callee (f := 5) rfl ?_); refine gl_ (some 16) Try.func5 #[.agg #[.int .i64 a0_0, .slice A0_1 l0_1.length c0_1, .slice A0_2 l0_2.length c0_2, .int .i64 a0_3, .slice A0_4 l0_4.length c0_4, .slice A0_5 l0_5.length c0_5], .int .i64 1048576] (h := ?_); (with_reducible refine (laws_szState.calls k a0_0 _ _ l0_1 _ _ l0_2 a0_3 _ _ l0_4 _ _ l0_5 1048576 t493 _ ?side1 ?side2 ?side3 ?side4 ?side5 ?side6 ?side7 ?side8 A2.out).mono ?_); (case side1 => exact kcb); (case side2 => exact HC0_1.out); (case side3 => exact kcb); (case side4 => exact HC0_2.out); (case side5 => exact kcb); (case side6 => exact HC0_4.out); (case side7 => exact kcb); (case side8 => exact HC0_5.out); rintro e w6 ⟨rfl, hb⟩; refine ⟨_, rfl, ?_⟩; replace BK492 := Aside0.mk (blb BK492 hb); replace HB := bst hb; (try clear hb); (try clear hb2); (try clear hk); (try clear hi)))
  go_ret
  exact ⟨rz_, bel⟩
 rw [if_neg c3] at H
 have c3b0 : decide (t493 < 0) = false := decide_eq_false c3
 clear c3
 replace H := Option.bind_eq_some_iff.mp H
 obtain ⟨⟨t494, t495, t498, t501, t502, t505⟩, A70, H⟩ := H
 replace H : ((spec_StateBytes.f k t494 t495 t498 t501 t502 t505).bind fun bt508 => ((laws_toState.f k a0_0 l0_1 l0_2 a0_3 l0_4 l0_5).bind fun bt512 => ((impl_StateBytes.f k bt512.1 bt512.2.1 bt512.2.2.1 bt512.2.2.2.1 bt512.2.2.2.2.1 bt512.2.2.2.2.2).bind fun bt527 => ((laws_eqByteS.f k bt527.1 bt508.1).bind fun t531 => (if t531 = true then (laws_FnExactStateBytes.j0 k bt508.1 bt508.2 bt527.1 bt527.2 (bt527.2 != bt508.2) a0_0 l0_1 l0_2 a0_3 l0_4 l0_5 bt512.1 bt512.2.1 bt512.2.2.1 bt512.2.2.2.1 bt512.2.2.2.2.1 bt512.2.2.2.2.2) else (laws_FnExactStateBytes.j0 k bt508.1 bt508.2 bt527.1 bt527.2 true a0_0 l0_1 l0_2 a0_3 l0_4 l0_5 bt512.1 bt512.2.1 bt512.2.2.1 bt512.2.2.2.1 bt512.2.2.2.2.1 bt512.2.2.2.2.2)))))) = some true := H
 have A7 := Aside0.mk A70
 clear A70
 replace H := Option.bind_eq_some_iff.mp H
 obtain ⟨⟨t508, t511⟩, A80, H⟩ := H
 replace H : ((laws_toState.f k a0_0 l0_1 l0_2 a0_3 l0_4 l0_5).bind fun bt512 => ((impl_StateBytes.f k bt512.1 bt512.2.1 bt512.2.2.1 bt512.2.2.2.1 bt512.2.2.2.2.1 bt512.2.2.2.2.2).bind fun bt527 => ((laws_eqByteS.f k bt527.1 t508).bind fun t531 => (if t531 = true then (laws_FnExactStateBytes.j0 k t508 t511 bt527.1 bt527.2 (bt527.2 != t511) a0_0 l0_1 l0_2 a0_3 l0_4 l0_5 bt512.1 bt512.2.1 bt512.2.2.1 bt512.2.2.2.1 bt512.2.2.2.2.1 bt512.2.2.2.2.2) else (laws_FnExactStateBytes.j0 k t508 t511 bt527.1 bt527.2 true a0_0 l0_1 l0_2 a0_3 l0_4 l0_5 bt512.1 bt512.2.1 bt512.2.2.1 bt512.2.2.2.1 bt512.2.2.2.2.1 bt512.2.2.2.2.2))))) = some true := H
 have A8 := Aside0.mk A80
 clear A80
 replace H := Option.bind_eq_some_iff.mp H
 obtain ⟨⟨t512, t513, t516, t519, t520, t523⟩, A90, H⟩ := H
 replace H : ((impl_StateBytes.f k t512 t513 t516 t519 t520 t523).bind fun bt527 => ((laws_eqByteS.f k bt527.1 t508).bind fun t531 => (if t531 = true then (laws_FnExactStateBytes.j0 k t508 t511 bt527.1 bt527.2 (bt527.2 != t511) a0_0 l0_1 l0_2 a0_3 l0_4 l0_5 t512 t513 t516 t519 t520 t523) else (laws_FnExactStateBytes.j0 k t508 t511 bt527.1 bt527.2 true a0_0 l0_1 l0_2 a0_3 l0_4 l0_5 t512 t513 t516 t519 t520 t523)))) = some true := H
 have A9 := Aside0.mk A90
 clear A90
 replace H := Option.bind_eq_some_iff.mp H
 obtain ⟨⟨t527, t530⟩, A100, H⟩ := H
 replace H : ((laws_eqByteS.f k t527 t508).bind fun t531 => (if t531 = true then (laws_FnExactStateBytes.j0 k t508 t511 t527 t530 (t530 != t511) a0_0 l0_1 l0_2 a0_3 l0_4 l0_5 t512 t513 t516 t519 t520 t523) else (laws_FnExactStateBytes.j0 k t508 t511 t527 t530 true a0_0 l0_1 l0_2 a0_3 l0_4 l0_5 t512 t513 t516 t519 t520 t523))) = some true := H
 have A10 := Aside0.mk A100
 clear A100
 have HC11 := Aside0.mk H
 clear H
 go_enter Try.func3, Try.ntmps3
 go_upto_region 8 with (first | ((with_reducible refine gate_dst (N := 1) rfl ?_); refine bx_ 1 #[.int .i64 a0_0, .slice A0_1 l0_1.length c0_1, .slice A0_2 l0_2.length c0_2, .int .i64 a0_3, .slice A0_4 l0_4.length c0_4, .slice A0_5 l0_5.length c0_5] 27 (h := ?_); intro gb492 hg w12 hbox hb; have BK492 := Aside0.mk (hbox); have GW492 := Aside0.mk ((by rw [hg]; exact (below_size bel) : w.heap.size ≤ gb492)); have GE492 := GW492; replace HB := bst hb; clear hb hbox hg; obtain ⟨C13_0, C13_1, C13_2, C13_3, C13_4, C13_5, -⟩ := cells_6 BK492.out trivial; obtain ⟨F13_0, F13_1, F13_2, F13_3, F13_4, F13_5, -⟩ := frz_6 BK492.out) | ((with_reducible refine gate_callee (f := 5) rfl ?_); refine gl_ (some 16) Try.func5 #[.agg #[.int .i64 a0_0, .slice A0_1 l0_1.length c0_1, .slice A0_2 l0_2.length c0_2, .int .i64 a0_3, .slice A0_4 l0_4.length c0_4, .slice A0_5 l0_5.length c0_5], .int .i64 1048576] (h := ?_); (with_reducible refine (laws_szState.calls k a0_0 _ _ l0_1 _ _ l0_2 a0_3 _ _ l0_4 _ _ l0_5 1048576 t493 _ ?side1 ?side2 ?side3 ?side4 ?side5 ?side6 ?side7 ?side8 A2.out).mono ?_); (case side1 => exact kcb); (case side2 => exact HC0_1.out); (case side3 => exact kcb); (case side4 => exact HC0_2.out); (case side5 => exact kcb); (case side6 => exact HC0_4.out); (case side7 => exact kcb); (case side8 => exact HC0_5.out); rintro e w14 ⟨rfl, hb⟩; refine ⟨_, rfl, ?_⟩; replace BK492 := Aside0.mk (blb BK492 hb); replace HB := bst hb; (try clear hb); (try clear hb2); (try clear hk); (try clear hi); obtain ⟨C15_0, C15_1, C15_2, C15_3, C15_4, C15_5, -⟩ := cells_6 BK492.out trivial; obtain ⟨F15_0, F15_1, F15_2, F15_3, F15_4, F15_5, -⟩ := frz_6 BK492.out) | ((with_reducible refine gate_callee (f := 7) rfl ?_); refine gl_ (some 21) Try.func7 #[.agg #[.int .i64 a0_0, .slice A0_1 l0_1.length c0_1, .slice A0_2 l0_2.length c0_2, .int .i64 a0_3, .slice A0_4 l0_4.length c0_4, .slice A0_5 l0_5.length c0_5]] (h := ?_); (with_reducible refine (laws_toState.calls k a0_0 _ _ l0_1 _ _ l0_2 a0_3 _ _ l0_4 _ _ l0_5 t494 t495 t498 t501 t502 t505 _ ?side1 ?side2 ?side3 ?side4 ?side5 ?side6 ?side7 ?side8 A7.out).mono ?_); (case side1 => exact kcb); (case side2 => exact HC0_1.out); (case side3 => exact kcb); (case side4 => exact HC0_2.out); (case side5 => exact kcb); (case side6 => exact HC0_4.out); (case side7 => exact kcb); (case side8 => exact HC0_5.out); rintro e w16 ⟨v496, v499, v503, v506, rfl, ho0, ho1, ho2, ho3, hb⟩; refine ⟨_, rfl, ?_⟩; have HO497 := Aside0.mk (Kd.S_lower ho0 (below_size bel)); have HO500 := Aside0.mk (Kd.S_lower ho1 (below_size bel)); have HO504 := Aside0.mk (Kd.R_lower ho2 (below_size bel)); have HO507 := Aside0.mk (Kd.R_lower ho3 (below_size bel)); replace BK492 := Aside0.mk (blb BK492 hb); replace HB := bst hb; (try clear hb); (try clear hb2); (try clear hk); (try clear hi); (try clear ho0); (try clear ho1); (try clear ho2); (try clear ho3); obtain ⟨Ao17, co17, eo17⟩ := Kd.S_slice HO497.out; subst eo17; obtain ⟨Ao18, co18, eo18⟩ := Kd.S_slice HO500.out; subst eo18; obtain ⟨Ao19, co19, eo19⟩ := Kd.R_slice HO504.out; subst eo19; obtain ⟨Ao20, co20, eo20⟩ := Kd.R_slice HO507.out; subst eo20) | ((with_reducible refine gate_callee (f := 6) rfl ?_); refine gl_ (some 22) Try.func6 #[.agg #[.int .i64 t494, .slice Ao17 t495.length co17, .slice Ao18 t498.length co18, .int .i64 t501, .slice Ao19 t502.length co19, .slice Ao20 t505.length co20]] (h := ?_); (with_reducible refine (spec_StateBytes.calls k t494 _ _ t495 _ _ t498 t501 _ _ t502 _ _ t505 t508 t511 _ ?side1 ?side2 ?side3 ?side4 ?side5 ?side6 ?side7 ?side8 A8.out).mono ?_); (case side1 => repeat (first | exact (Kd.S_reads' HO497.out).2.2 | (with_reducible refine Kd.C_alloc ?_ _) | (with_reducible refine Kd.C_drewN ?_ _) | (with_reducible refine Kd.C_drew ?_))); (case side2 => exact (Kd.S_reads' HO497.out).2.1); (case side3 => repeat (first | exact (Kd.S_reads' HO500.out).2.2 | (with_reducible refine Kd.C_alloc ?_ _) | (with_reducible refine Kd.C_drewN ?_ _) | (with_reducible refine Kd.C_drew ?_))); (case side4 => exact (Kd.S_reads' HO500.out).2.1); (case side5 => repeat (first | exact (Kd.R_reads' HO504.out).2.2 | (with_reducible refine Kd.C_alloc ?_ _) | (with_reducible refine Kd.C_drewN ?_ _) | (with_reducible refine Kd.C_drew ?_))); (case side6 => exact (Kd.R_reads' HO504.out).2.1); (case side7 => repeat (first | exact (Kd.R_reads' HO507.out).2.2 | (with_reducible refine Kd.C_alloc ?_ _) | (with_reducible refine Kd.C_drewN ?_ _) | (with_reducible refine Kd.C_drew ?_))); (case side8 => exact (Kd.R_reads' HO507.out).2.1); rintro e w21 ⟨v509, rfl, ho0, hb⟩; refine ⟨_, rfl, ?_⟩; have HO510 := Aside0.mk (Kd.R_lower ho0 (below_size bel)); replace HO497 := Aside0.mk (Kd.S_elder' (skp HO497) (Kd.R_base ho0) hb); replace HO500 := Aside0.mk (Kd.S_elder' (skp HO500) (Kd.R_base ho0) hb); replace HO504 := Aside0.mk (rbl HO504 hb); replace HO507 := Aside0.mk (rbl HO507 hb); replace BK492 := Aside0.mk (blb BK492 hb); replace HB := bst hb; (try clear hb); (try clear hb2); (try clear hk); (try clear hi); (try clear ho0); obtain ⟨C22_0, C22_1, C22_2, C22_3, C22_4, C22_5, -⟩ := cells_6 BK492.out trivial; obtain ⟨F22_0, F22_1, F22_2, F22_3, F22_4, F22_5, -⟩ := frz_6 BK492.out) | ((with_reducible refine gate_callee (f := 7) rfl ?_); refine gl_ (some 26) Try.func7 #[.agg #[.int .i64 a0_0, .slice A0_1 l0_1.length c0_1, .slice A0_2 l0_2.length c0_2, .int .i64 a0_3, .slice A0_4 l0_4.length c0_4, .slice A0_5 l0_5.length c0_5]] (h := ?_); (with_reducible refine (laws_toState.calls k a0_0 _ _ l0_1 _ _ l0_2 a0_3 _ _ l0_4 _ _ l0_5 t512 t513 t516 t519 t520 t523 _ ?side1 ?side2 ?side3 ?side4 ?side5 ?side6 ?side7 ?side8 A9.out).mono ?_); (case side1 => exact kcb); (case side2 => exact HC0_1.out); (case side3 => exact kcb); (case side4 => exact HC0_2.out); (case side5 => exact kcb); (case side6 => exact HC0_4.out); (case side7 => exact kcb); (case side8 => exact HC0_5.out); rintro e w23 ⟨v514, v517, v521, v524, rfl, ho0, ho1, ho2, ho3, hb⟩; refine ⟨_, rfl, ?_⟩; have HO515 := Aside0.mk (Kd.S_lower (Kd.S_new' (Kd.S_new' ho0 (Kd.S_lt (skp HO497))) (Kd.R_lt (rkp HO510))) (below_size bel)); have HO518 := Aside0.mk (Kd.S_lower (Kd.S_new' (Kd.S_new' ho1 (Kd.S_lt (skp HO500))) (Kd.R_lt (rkp HO510))) (below_size bel)); have HO522 := Aside0.mk (Kd.R_lower (Kd.R_new' ho2 (Kd.R_lt (rkp HO504))) (below_size bel)); have HO525 := Aside0.mk (Kd.R_lower (Kd.R_new' ho3 (Kd.R_lt (rkp HO507))) (below_size bel)); replace HO497 := Aside0.mk (Kd.S_elder' (skp HO497) (Kd.S_base ho0) hb); replace HO500 := Aside0.mk (Kd.S_elder' (skp HO500) (Kd.S_base ho1) hb); replace HO504 := Aside0.mk (Kd.R_elder' (rkp HO504) (Kd.R_base ho2) hb); replace HO507 := Aside0.mk (Kd.R_elder' (rkp HO507) (Kd.R_base ho3) hb); replace HO510 := Aside0.mk (rbl HO510 hb); replace BK492 := Aside0.mk (blb BK492 hb); replace HB := bst hb; (try clear hb); (try clear hb2); (try clear hk); (try clear hi); (try clear ho0); (try clear ho1); (try clear ho2); (try clear ho3)) | ((with_reducible refine gate_dst (N := 6) rfl ?_); refine bx_ 6 #[.int .i64 0, .slice none 0 0, .slice none 0 0, .int .i64 0, .slice none 0 0, .slice none 0 0] 37 (h := ?_); intro gb526 hg w24 hbox hb; have BK526 := Aside0.mk (hbox); have GW526 := Aside0.mk ((by rw [hg]; exact (below_size bel) : w.heap.size ≤ gb526)); have GE526 := GW526; have NB492_526 := Aside0.mk ((by rw [hg]; exact Nat.ne_of_lt (blt BK492) : gb492 ≠ gb526)); have NB526_492 := Aside0.mk NB492_526.out.symm; replace HO497 := Aside0.mk (Kd.S_below (skp HO497) hb); replace HO500 := Aside0.mk (Kd.S_below (skp HO500) hb); replace HO504 := Aside0.mk (rbl HO504 hb); replace HO507 := Aside0.mk (rbl HO507 hb); replace HO510 := Aside0.mk (rbl HO510 hb); replace HO515 := Aside0.mk (Kd.S_below (skp HO515) hb); replace HO518 := Aside0.mk (Kd.S_below (skp HO518) hb); replace HO522 := Aside0.mk (rbl HO522 hb); replace HO525 := Aside0.mk (rbl HO525 hb); replace BK492 := Aside0.mk (blb BK492 hb); replace HB := bst hb; clear hb hbox hg; have hnb25 := NB526_492.out; have hnc25 := NB492_526.out; obtain ⟨C26_0, C26_1, C26_2, C26_3, C26_4, C26_5, -⟩ := cells_6 BK526.out trivial; obtain ⟨F26_0, F26_1, F26_2, F26_3, F26_4, F26_5, -⟩ := frz_6 BK526.out; obtain ⟨Ao27, co27, eo27⟩ := Kd.S_slice HO515.out; subst eo27; obtain ⟨Ao28, co28, eo28⟩ := Kd.S_slice HO518.out; subst eo28; obtain ⟨Ao29, co29, eo29⟩ := Kd.R_slice HO522.out; subst eo29; obtain ⟨Ao30, co30, eo30⟩ := Kd.R_slice HO525.out; subst eo30) | ((with_reducible refine gate_callee (f := 8) rfl ?_); refine gl_ (some 29) Try.func8 #[.agg #[.int .i64 t512, .slice Ao27 t513.length co27, .slice Ao28 t516.length co28, .int .i64 t519, .slice Ao29 t520.length co29, .slice Ao30 t523.length co30]] (h := ?_); (with_reducible refine (impl_StateBytes.calls k t512 _ _ t513 _ _ t516 t519 _ _ t520 _ _ t523 t527 t530 _ ?side1 ?side2 ?side3 ?side4 ?side5 ?side6 ?side7 ?side8 A10.out).mono ?_); (case side1 => refine (Kd.S_reads' (e := 70) (base := w.heap.size) (ok := fun k_ => ((True ∧ some k_ ≠ (.slice Ao17 t495.length co17 : Value).ownBlock) ∧ some k_ ≠ (v509 : Value).ownBlock)) (n := t513.length) (c := co27) ?_).2.2; exact (by (with_reducible repeat (first | apply Kd.S_alloc | apply Kd.S_drewN | apply Kd.S_drew)); exact (Kd.S_mono (Kd.S_far (p := ⟨gb526, 5, none⟩) (Kd.S_far (p := ⟨gb526, 4, none⟩) (Kd.S_far (p := ⟨gb526, 3, none⟩) (Kd.S_far (p := ⟨gb526, 2, none⟩) (Kd.S_far (p := ⟨gb526, 1, none⟩) (Kd.S_far (p := ⟨gb526, 0, none⟩) (Kd.S_types HO515.out BK526.out (by decide)) (fun _ hk => hk.2) (.int .i64 t512)) (fun _ hk => hk.2) (.slice Ao27 t513.length co27)) (fun _ hk => hk.2) (.slice Ao28 t516.length co28)) (fun _ hk => hk.2) (.int .i64 t519)) (fun _ hk => hk.2) (.slice Ao29 t520.length co29)) (fun _ hk => hk.2) (.slice Ao30 t523.length co30)) (fun _ h_ => h_.1)))); (case side2 => exact (Kd.S_reads' HO515.out).2.1); (case side3 => refine (Kd.S_reads' (e := 85) (base := w.heap.size) (ok := fun k_ => ((True ∧ some k_ ≠ (.slice Ao18 t498.length co18 : Value).ownBlock) ∧ some k_ ≠ (v509 : Value).ownBlock)) (n := t516.length) (c := co28) ?_).2.2; exact (by (with_reducible repeat (first | apply Kd.S_alloc | apply Kd.S_drewN | apply Kd.S_drew)); exact (Kd.S_mono (Kd.S_far (p := ⟨gb526, 5, none⟩) (Kd.S_far (p := ⟨gb526, 4, none⟩) (Kd.S_far (p := ⟨gb526, 3, none⟩) (Kd.S_far (p := ⟨gb526, 2, none⟩) (Kd.S_far (p := ⟨gb526, 1, none⟩) (Kd.S_far (p := ⟨gb526, 0, none⟩) (Kd.S_types HO518.out BK526.out (by decide)) (fun _ hk => hk.2) (.int .i64 t512)) (fun _ hk => hk.2) (.slice Ao27 t513.length co27)) (fun _ hk => hk.2) (.slice Ao28 t516.length co28)) (fun _ hk => hk.2) (.int .i64 t519)) (fun _ hk => hk.2) (.slice Ao29 t520.length co29)) (fun _ hk => hk.2) (.slice Ao30 t523.length co30)) (fun _ h_ => h_.1)))); (case side4 => exact (Kd.S_reads' HO518.out).2.1); (case side5 => refine (Kd.R_reads' (e := 88) (base := w.heap.size) (ok := fun k_ => (True ∧ some k_ ≠ (.slice Ao19 t502.length co19 : Value).ownBlock)) (n := t520.length) (c := co29) ?_).2.2; exact (by (with_reducible repeat (first | apply Kd.R_alloc | apply Kd.R_drewN | apply Kd.R_drew)); exact (Kd.R_mono (Kd.R_far (p := ⟨gb526, 5, none⟩) (Kd.R_far (p := ⟨gb526, 4, none⟩) (Kd.R_far (p := ⟨gb526, 3, none⟩) (Kd.R_far (p := ⟨gb526, 2, none⟩) (Kd.R_far (p := ⟨gb526, 1, none⟩) (Kd.R_far (p := ⟨gb526, 0, none⟩) (Kd.R_types HO522.out BK526.out (by decide)) (fun _ hk => hk.2) (.int .i64 t512)) (fun _ hk => hk.2) (.slice Ao27 t513.length co27)) (fun _ hk => hk.2) (.slice Ao28 t516.length co28)) (fun _ hk => hk.2) (.int .i64 t519)) (fun _ hk => hk.2) (.slice Ao29 t520.length co29)) (fun _ hk => hk.2) (.slice Ao30 t523.length co30)) (fun _ h_ => h_.1)))); (case side6 => exact (Kd.R_reads' HO522.out).2.1); (case side7 => refine (Kd.R_reads' (e := 92) (base := w.heap.size) (ok := fun k_ => (True ∧ some k_ ≠ (.slice Ao20 t505.length co20 : Value).ownBlock)) (n := t523.length) (c := co30) ?_).2.2; exact (by (with_reducible repeat (first | apply Kd.R_alloc | apply Kd.R_drewN | apply Kd.R_drew)); exact (Kd.R_mono (Kd.R_far (p := ⟨gb526, 5, none⟩) (Kd.R_far (p := ⟨gb526, 4, none⟩) (Kd.R_far (p := ⟨gb526, 3, none⟩) (Kd.R_far (p := ⟨gb526, 2, none⟩) (Kd.R_far (p := ⟨gb526, 1, none⟩) (Kd.R_far (p := ⟨gb526, 0, none⟩) (Kd.R_types HO525.out BK526.out (by decide)) (fun _ hk => hk.2) (.int .i64 t512)) (fun _ hk => hk.2) (.slice Ao27 t513.length co27)) (fun _ hk => hk.2) (.slice Ao28 t516.length co28)) (fun _ hk => hk.2) (.int .i64 t519)) (fun _ hk => hk.2) (.slice Ao29 t520.length co29)) (fun _ hk => hk.2) (.slice Ao30 t523.length co30)) (fun _ h_ => h_.1)))); (case side8 => exact (Kd.R_reads' HO525.out).2.1); rintro e w31 ⟨v528, rfl, ho0, hb⟩; refine ⟨_, rfl, ?_⟩; have HO529 := Aside0.mk (Kd.R_lower (Kd.R_new' ho0 (Kd.R_lt (by (with_reducible repeat (first | apply Kd.R_alloc | apply Kd.R_drewN | apply Kd.R_drew)); exact (Kd.R_mono (Kd.R_far (p := ⟨gb526, 5, none⟩) (Kd.R_far (p := ⟨gb526, 4, none⟩) (Kd.R_far (p := ⟨gb526, 3, none⟩) (Kd.R_far (p := ⟨gb526, 2, none⟩) (Kd.R_far (p := ⟨gb526, 1, none⟩) (Kd.R_far (p := ⟨gb526, 0, none⟩) (Kd.R_types HO510.out BK526.out (by decide)) (fun _ hk => hk.2) (.int .i64 t512)) (fun _ hk => hk.2) (.slice Ao27 t513.length co27)) (fun _ hk => hk.2) (.slice Ao28 t516.length co28)) (fun _ hk => hk.2) (.int .i64 t519)) (fun _ hk => hk.2) (.slice Ao29 t520.length co29)) (fun _ hk => hk.2) (.slice Ao30 t523.length co30)) (fun _ h_ => h_.1))))) (below_size bel)); replace HO497 := Aside0.mk (Kd.S_elder' (by (with_reducible repeat (first | apply Kd.S_alloc | apply Kd.S_drewN | apply Kd.S_drew)); exact (Kd.S_mono (Kd.S_far (p := ⟨gb526, 5, none⟩) (Kd.S_far (p := ⟨gb526, 4, none⟩) (Kd.S_far (p := ⟨gb526, 3, none⟩) (Kd.S_far (p := ⟨gb526, 2, none⟩) (Kd.S_far (p := ⟨gb526, 1, none⟩) (Kd.S_far (p := ⟨gb526, 0, none⟩) (Kd.S_types HO497.out BK526.out (by decide)) (fun _ hk => hk.2) (.int .i64 t512)) (fun _ hk => hk.2) (.slice Ao27 t513.length co27)) (fun _ hk => hk.2) (.slice Ao28 t516.length co28)) (fun _ hk => hk.2) (.int .i64 t519)) (fun _ hk => hk.2) (.slice Ao29 t520.length co29)) (fun _ hk => hk.2) (.slice Ao30 t523.length co30)) (fun _ h_ => h_.1))) (Kd.R_base ho0) hb); replace HO500 := Aside0.mk (Kd.S_elder' (by (with_reducible repeat (first | apply Kd.S_alloc | apply Kd.S_drewN | apply Kd.S_drew)); exact (Kd.S_mono (Kd.S_far (p := ⟨gb526, 5, none⟩) (Kd.S_far (p := ⟨gb526, 4, none⟩) (Kd.S_far (p := ⟨gb526, 3, none⟩) (Kd.S_far (p := ⟨gb526, 2, none⟩) (Kd.S_far (p := ⟨gb526, 1, none⟩) (Kd.S_far (p := ⟨gb526, 0, none⟩) (Kd.S_types HO500.out BK526.out (by decide)) (fun _ hk => hk.2) (.int .i64 t512)) (fun _ hk => hk.2) (.slice Ao27 t513.length co27)) (fun _ hk => hk.2) (.slice Ao28 t516.length co28)) (fun _ hk => hk.2) (.int .i64 t519)) (fun _ hk => hk.2) (.slice Ao29 t520.length co29)) (fun _ hk => hk.2) (.slice Ao30 t523.length co30)) (fun _ h_ => h_.1))) (Kd.R_base ho0) hb); replace HO504 := Aside0.mk (Kd.R_below (by (with_reducible repeat (first | apply Kd.R_alloc | apply Kd.R_drewN | apply Kd.R_drew)); exact (Kd.R_mono (Kd.R_far (p := ⟨gb526, 5, none⟩) (Kd.R_far (p := ⟨gb526, 4, none⟩) (Kd.R_far (p := ⟨gb526, 3, none⟩) (Kd.R_far (p := ⟨gb526, 2, none⟩) (Kd.R_far (p := ⟨gb526, 1, none⟩) (Kd.R_far (p := ⟨gb526, 0, none⟩) (Kd.R_types HO504.out BK526.out (by decide)) (fun _ hk => hk.2) (.int .i64 t512)) (fun _ hk => hk.2) (.slice Ao27 t513.length co27)) (fun _ hk => hk.2) (.slice Ao28 t516.length co28)) (fun _ hk => hk.2) (.int .i64 t519)) (fun _ hk => hk.2) (.slice Ao29 t520.length co29)) (fun _ hk => hk.2) (.slice Ao30 t523.length co30)) (fun _ h_ => h_.1))) hb); replace HO507 := Aside0.mk (Kd.R_below (by (with_reducible repeat (first | apply Kd.R_alloc | apply Kd.R_drewN | apply Kd.R_drew)); exact (Kd.R_mono (Kd.R_far (p := ⟨gb526, 5, none⟩) (Kd.R_far (p := ⟨gb526, 4, none⟩) (Kd.R_far (p := ⟨gb526, 3, none⟩) (Kd.R_far (p := ⟨gb526, 2, none⟩) (Kd.R_far (p := ⟨gb526, 1, none⟩) (Kd.R_far (p := ⟨gb526, 0, none⟩) (Kd.R_types HO507.out BK526.out (by decide)) (fun _ hk => hk.2) (.int .i64 t512)) (fun _ hk => hk.2) (.slice Ao27 t513.length co27)) (fun _ hk => hk.2) (.slice Ao28 t516.length co28)) (fun _ hk => hk.2) (.int .i64 t519)) (fun _ hk => hk.2) (.slice Ao29 t520.length co29)) (fun _ hk => hk.2) (.slice Ao30 t523.length co30)) (fun _ h_ => h_.1))) hb); replace HO510 := Aside0.mk (Kd.R_elder' (by (with_reducible repeat (first | apply Kd.R_alloc | apply Kd.R_drewN | apply Kd.R_drew)); exact (Kd.R_mono (Kd.R_far (p := ⟨gb526, 5, none⟩) (Kd.R_far (p := ⟨gb526, 4, none⟩) (Kd.R_far (p := ⟨gb526, 3, none⟩) (Kd.R_far (p := ⟨gb526, 2, none⟩) (Kd.R_far (p := ⟨gb526, 1, none⟩) (Kd.R_far (p := ⟨gb526, 0, none⟩) (Kd.R_types HO510.out BK526.out (by decide)) (fun _ hk => hk.2) (.int .i64 t512)) (fun _ hk => hk.2) (.slice Ao27 t513.length co27)) (fun _ hk => hk.2) (.slice Ao28 t516.length co28)) (fun _ hk => hk.2) (.int .i64 t519)) (fun _ hk => hk.2) (.slice Ao29 t520.length co29)) (fun _ hk => hk.2) (.slice Ao30 t523.length co30)) (fun _ h_ => h_.1))) (Kd.R_base ho0) hb); replace HO515 := Aside0.mk (Kd.S_elder' (by (with_reducible repeat (first | apply Kd.S_alloc | apply Kd.S_drewN | apply Kd.S_drew)); exact (Kd.S_mono (Kd.S_far (p := ⟨gb526, 5, none⟩) (Kd.S_far (p := ⟨gb526, 4, none⟩) (Kd.S_far (p := ⟨gb526, 3, none⟩) (Kd.S_far (p := ⟨gb526, 2, none⟩) (Kd.S_far (p := ⟨gb526, 1, none⟩) (Kd.S_far (p := ⟨gb526, 0, none⟩) (Kd.S_types HO515.out BK526.out (by decide)) (fun _ hk => hk.2) (.int .i64 t512)) (fun _ hk => hk.2) (.slice Ao27 t513.length co27)) (fun _ hk => hk.2) (.slice Ao28 t516.length co28)) (fun _ hk => hk.2) (.int .i64 t519)) (fun _ hk => hk.2) (.slice Ao29 t520.length co29)) (fun _ hk => hk.2) (.slice Ao30 t523.length co30)) (fun _ h_ => h_.1))) (Kd.R_base ho0) hb); replace HO518 := Aside0.mk (Kd.S_elder' (by (with_reducible repeat (first | apply Kd.S_alloc | apply Kd.S_drewN | apply Kd.S_drew)); exact (Kd.S_mono (Kd.S_far (p := ⟨gb526, 5, none⟩) (Kd.S_far (p := ⟨gb526, 4, none⟩) (Kd.S_far (p := ⟨gb526, 3, none⟩) (Kd.S_far (p := ⟨gb526, 2, none⟩) (Kd.S_far (p := ⟨gb526, 1, none⟩) (Kd.S_far (p := ⟨gb526, 0, none⟩) (Kd.S_types HO518.out BK526.out (by decide)) (fun _ hk => hk.2) (.int .i64 t512)) (fun _ hk => hk.2) (.slice Ao27 t513.length co27)) (fun _ hk => hk.2) (.slice Ao28 t516.length co28)) (fun _ hk => hk.2) (.int .i64 t519)) (fun _ hk => hk.2) (.slice Ao29 t520.length co29)) (fun _ hk => hk.2) (.slice Ao30 t523.length co30)) (fun _ h_ => h_.1))) (Kd.R_base ho0) hb); replace HO522 := Aside0.mk (Kd.R_below (by (with_reducible repeat (first | apply Kd.R_alloc | apply Kd.R_drewN | apply Kd.R_drew)); exact (Kd.R_mono (Kd.R_far (p := ⟨gb526, 5, none⟩) (Kd.R_far (p := ⟨gb526, 4, none⟩) (Kd.R_far (p := ⟨gb526, 3, none⟩) (Kd.R_far (p := ⟨gb526, 2, none⟩) (Kd.R_far (p := ⟨gb526, 1, none⟩) (Kd.R_far (p := ⟨gb526, 0, none⟩) (Kd.R_types HO522.out BK526.out (by decide)) (fun _ hk => hk.2) (.int .i64 t512)) (fun _ hk => hk.2) (.slice Ao27 t513.length co27)) (fun _ hk => hk.2) (.slice Ao28 t516.length co28)) (fun _ hk => hk.2) (.int .i64 t519)) (fun _ hk => hk.2) (.slice Ao29 t520.length co29)) (fun _ hk => hk.2) (.slice Ao30 t523.length co30)) (fun _ h_ => h_.1))) hb); replace HO525 := Aside0.mk (Kd.R_below (by (with_reducible repeat (first | apply Kd.R_alloc | apply Kd.R_drewN | apply Kd.R_drew)); exact (Kd.R_mono (Kd.R_far (p := ⟨gb526, 5, none⟩) (Kd.R_far (p := ⟨gb526, 4, none⟩) (Kd.R_far (p := ⟨gb526, 3, none⟩) (Kd.R_far (p := ⟨gb526, 2, none⟩) (Kd.R_far (p := ⟨gb526, 1, none⟩) (Kd.R_far (p := ⟨gb526, 0, none⟩) (Kd.R_types HO525.out BK526.out (by decide)) (fun _ hk => hk.2) (.int .i64 t512)) (fun _ hk => hk.2) (.slice Ao27 t513.length co27)) (fun _ hk => hk.2) (.slice Ao28 t516.length co28)) (fun _ hk => hk.2) (.int .i64 t519)) (fun _ hk => hk.2) (.slice Ao29 t520.length co29)) (fun _ hk => hk.2) (.slice Ao30 t523.length co30)) (fun _ h_ => h_.1))) hb); replace BK492 := Aside0.mk (blk_below (g := gb492) (o := .cells #[.int .i64 a0_0, .slice A0_1 l0_1.length c0_1, .slice A0_2 l0_2.length c0_2, .int .i64 a0_3, .slice A0_4 l0_4.length c0_4, .slice A0_5 l0_5.length c0_5] 27 (0, 0)) (by (with_reducible repeat (first | refine blk_drewN ?_ _ | refine blk_drew ?_ | refine blk_alloc ?_ _)); refine blk_far ?_ NB492_526.out _; (with_reducible repeat (first | refine blk_drewN ?_ _ | refine blk_drew ?_ | refine blk_alloc ?_ _)); refine blk_far ?_ NB492_526.out _; (with_reducible repeat (first | refine blk_drewN ?_ _ | refine blk_drew ?_ | refine blk_alloc ?_ _)); refine blk_far ?_ NB492_526.out _; (with_reducible repeat (first | refine blk_drewN ?_ _ | refine blk_drew ?_ | refine blk_alloc ?_ _)); refine blk_far ?_ NB492_526.out _; (with_reducible repeat (first | refine blk_drewN ?_ _ | refine blk_drew ?_ | refine blk_alloc ?_ _)); refine blk_far ?_ NB492_526.out _; (with_reducible repeat (first | refine blk_drewN ?_ _ | refine blk_drew ?_ | refine blk_alloc ?_ _)); refine blk_far ?_ NB492_526.out _; (with_reducible repeat (first | refine blk_drewN ?_ _ | refine blk_drew ?_ | refine blk_alloc ?_ _)); exact BK492.out) hb); replace BK526 := Aside0.mk (blk_below (g := gb526) (o := .cells #[.int .i64 t512, .slice Ao27 t513.length co27, .slice Ao28 t516.length co28, .int .i64 t519, .slice Ao29 t520.length co29, .slice Ao30 t523.length co30] 37 (0, 0)) (by (with_reducible repeat (first | refine blk_drewN ?_ _ | refine blk_drew ?_ | refine blk_alloc ?_ _)); refine blk_put (cs := #[.int .i64 t512, .slice Ao27 t513.length co27, .slice Ao28 t516.length co28, .int .i64 t519, .slice Ao29 t520.length co29, .slice none 0 0]) ?_ 5 _ rfl; (with_reducible repeat (first | refine blk_drewN ?_ _ | refine blk_drew ?_ | refine blk_alloc ?_ _)); refine blk_put (cs := #[.int .i64 t512, .slice Ao27 t513.length co27, .slice Ao28 t516.length co28, .int .i64 t519, .slice none 0 0, .slice none 0 0]) ?_ 4 _ rfl; (with_reducible repeat (first | refine blk_drewN ?_ _ | refine blk_drew ?_ | refine blk_alloc ?_ _)); refine blk_put (cs := #[.int .i64 t512, .slice Ao27 t513.length co27, .slice Ao28 t516.length co28, .int .i64 0, .slice none 0 0, .slice none 0 0]) ?_ 3 _ rfl; (with_reducible repeat (first | refine blk_drewN ?_ _ | refine blk_drew ?_ | refine blk_alloc ?_ _)); refine blk_put (cs := #[.int .i64 t512, .slice Ao27 t513.length co27, .slice none 0 0, .int .i64 0, .slice none 0 0, .slice none 0 0]) ?_ 2 _ rfl; (with_reducible repeat (first | refine blk_drewN ?_ _ | refine blk_drew ?_ | refine blk_alloc ?_ _)); refine blk_put (cs := #[.int .i64 t512, .slice none 0 0, .slice none 0 0, .int .i64 0, .slice none 0 0, .slice none 0 0]) ?_ 1 _ rfl; (with_reducible repeat (first | refine blk_drewN ?_ _ | refine blk_drew ?_ | refine blk_alloc ?_ _)); refine blk_put (cs := #[.int .i64 0, .slice none 0 0, .slice none 0 0, .int .i64 0, .slice none 0 0, .slice none 0 0]) ?_ 0 _ rfl; (with_reducible repeat (first | refine blk_drewN ?_ _ | refine blk_drew ?_ | refine blk_alloc ?_ _)); exact BK526.out) hb); replace HB := bst hb; (try clear hb); (try clear hb2); (try clear hk); (try clear hi); (try clear ho0)))
 (try simp only [Act.put, List.setIfInBounds_toArray, List.set_cons_zero, List.set_cons_succ])
 go_cut [40] (fun v40 wc => ∃ (kq : Nat) (x40_10 : Bool), v40 = .bool x40_10 ∧ Aside0 (laws_FnExactStateBytes.j0 kq t508 t511 t527 t530 x40_10 a0_0 l0_1 l0_2 a0_3 l0_4 l0_5 t512 t513 t516 t519 t520 t523 = some true) ∧ Aside0 (kq ≤ k) ∧ Aside0 (Kd.R (Kd.int .u8) 5 wc w.heap.size (fun k_ => some k_ ≠ (v528 : Value).ownBlock) v509 t508) ∧ Aside0 (Kd.R (Kd.int .u8) 5 wc w.heap.size (fun k_ => some k_ ≠ (v509 : Value).ownBlock) v528 t527) ∧ Aside0 (Kd.S k70 70 wc w.heap.size (fun k_ => some k_ ≠ (v509 : Value).ownBlock ∧ some k_ ≠ (v528 : Value).ownBlock) (.slice Ao27 t513.length co27) t513) ∧ Aside0 (Kd.S k85 85 wc w.heap.size (fun k_ => some k_ ≠ (v509 : Value).ownBlock ∧ some k_ ≠ (v528 : Value).ownBlock) (.slice Ao28 t516.length co28) t516) ∧ Aside0 (Kd.R k88 88 wc w.heap.size (fun _ => True) (.slice Ao29 t520.length co29) t520) ∧ Aside0 (Kd.R k92 92 wc w.heap.size (fun _ => True) (.slice Ao30 t523.length co30) t523) ∧ Aside0 (wc.heap[gb492]? = some (.cells #[.int .i64 a0_0, (.slice A0_1 l0_1.length c0_1), (.slice A0_2 l0_2.length c0_2), .int .i64 a0_3, (.slice A0_4 l0_4.length c0_4), (.slice A0_5 l0_5.length c0_5)] 27 (0, 0))) ∧ Aside0 (wc.heap[gb526]? = some (.cells #[.int .i64 t512, (.slice Ao27 t513.length co27), (.slice Ao28 t516.length co28), .int .i64 t519, (.slice Ao29 t520.length co29), (.slice Ao30 t523.length co30)] 37 (0, 0))) ∧ Aside0 (Below w.heap.size w wc))
 case first =>
  have H := HC11.out
  clear HC11
  replace H := Option.bind_eq_some_iff.mp H
  obtain ⟨t531, A320, H⟩ := H
  replace H : (if t531 = true then (laws_FnExactStateBytes.j0 k t508 t511 t527 t530 (t530 != t511) a0_0 l0_1 l0_2 a0_3 l0_4 l0_5 t512 t513 t516 t519 t520 t523) else (laws_FnExactStateBytes.j0 k t508 t511 t527 t530 true a0_0 l0_1 l0_2 a0_3 l0_4 l0_5 t512 t513 t516 t519 t520 t523)) = some true := H
  have A32 := Aside0.mk A320
  clear A320
  by_cases c33 : t531 = true
  ·subst c33
   have H1 : (laws_FnExactStateBytes.j0 k t508 t511 t527 t530 (t530 != t511) a0_0 l0_1 l0_2 a0_3 l0_4 l0_5 t512 t513 t516 t519 t520 t523) = some true := by rw [if_pos rfl] at H; exact H
   clear H
   have H := H1
   clear H1
   have H' := Aside0.mk H
   clear H
   obtain ⟨Ao34, co34, eo34⟩ := Kd.R_slice HO529.out
   subst eo34
   obtain ⟨Ao35, co35, eo35⟩ := Kd.R_slice HO510.out
   subst eo35
   go_wp2_with (first | ((with_reducible refine gate_callee (f := 9) rfl ?_); refine gl_ (some 34) Try.func9 #[.slice Ao34 t527.length co34, .slice Ao35 t508.length co35] (h := ?_); (with_reducible refine (laws_eqByteS.calls k _ _ t527 _ _ t508 true _ ?side1 ?side2 ?side3 ?side4 A32.out).mono ?_); (case side1 => repeat (first | exact (Kd.R_reads' HO529.out).2.2 | (with_reducible refine Kd.C_alloc ?_ _) | (with_reducible refine Kd.C_drewN ?_ _) | (with_reducible refine Kd.C_drew ?_))); (case side2 => exact (Kd.R_reads' HO529.out).2.1); (case side3 => repeat (first | exact (Kd.R_reads' HO510.out).2.2 | (with_reducible refine Kd.C_alloc ?_ _) | (with_reducible refine Kd.C_drewN ?_ _) | (with_reducible refine Kd.C_drew ?_))); (case side4 => exact (Kd.R_reads' HO510.out).2.1); rintro e w' ⟨rfl, ⟨nd, rfl⟩⟩; refine ⟨_, rfl, ?_⟩))
   go_meet
   case rel => exact ⟨_, ((t530 != t511)), rs_, H', ⟨by first | omega | exact Nat.le_refl _⟩, ⟨by (with_reducible repeat (first | apply Kd.R_alloc | apply Kd.R_drewN | apply Kd.R_drew)); exact Kd.R_mono HO510.out (fun _ hk => hk.2)⟩, ⟨by (with_reducible repeat (first | apply Kd.R_alloc | apply Kd.R_drewN | apply Kd.R_drew)); exact Kd.R_mono HO529.out (fun _ hk => hk.2)⟩, ⟨by (with_reducible repeat (first | apply Kd.S_alloc | apply Kd.S_drewN | apply Kd.S_drew)); exact Kd.S_mono HO515.out (fun _ hk => ⟨hk.1.2, hk.2⟩)⟩, ⟨by (with_reducible repeat (first | apply Kd.S_alloc | apply Kd.S_drewN | apply Kd.S_drew)); exact Kd.S_mono HO518.out (fun _ hk => ⟨hk.1.2, hk.2⟩)⟩, ⟨by (with_reducible repeat (first | apply Kd.R_alloc | apply Kd.R_drewN | apply Kd.R_drew)); exact Kd.R_mono HO522.out (fun _ hk => trivial)⟩, ⟨by (with_reducible repeat (first | apply Kd.R_alloc | apply Kd.R_drewN | apply Kd.R_drew)); exact Kd.R_mono HO525.out (fun _ hk => trivial)⟩, ⟨bkp BK492⟩, ⟨bkp BK526⟩, ⟨bel⟩⟩
  replace c33 := Bool.eq_false_iff.mpr c33
  subst c33
  have H1 : (laws_FnExactStateBytes.j0 k t508 t511 t527 t530 true a0_0 l0_1 l0_2 a0_3 l0_4 l0_5 t512 t513 t516 t519 t520 t523) = some true := by rw [if_neg (show ¬ (false = true) by decide)] at H; exact H
  clear H
  have H := H1
  clear H1
  have H' := Aside0.mk H
  clear H
  obtain ⟨Ao36, co36, eo36⟩ := Kd.R_slice HO529.out
  subst eo36
  obtain ⟨Ao37, co37, eo37⟩ := Kd.R_slice HO510.out
  subst eo37
  go_wp2_with (first | ((with_reducible refine gate_callee (f := 9) rfl ?_); refine gl_ (some 34) Try.func9 #[.slice Ao36 t527.length co36, .slice Ao37 t508.length co37] (h := ?_); (with_reducible refine (laws_eqByteS.calls k _ _ t527 _ _ t508 false _ ?side1 ?side2 ?side3 ?side4 A32.out).mono ?_); (case side1 => repeat (first | exact (Kd.R_reads' HO529.out).2.2 | (with_reducible refine Kd.C_alloc ?_ _) | (with_reducible refine Kd.C_drewN ?_ _) | (with_reducible refine Kd.C_drew ?_))); (case side2 => exact (Kd.R_reads' HO529.out).2.1); (case side3 => repeat (first | exact (Kd.R_reads' HO510.out).2.2 | (with_reducible refine Kd.C_alloc ?_ _) | (with_reducible refine Kd.C_drewN ?_ _) | (with_reducible refine Kd.C_drew ?_))); (case side4 => exact (Kd.R_reads' HO510.out).2.1); rintro e w' ⟨rfl, ⟨nd, rfl⟩⟩; refine ⟨_, rfl, ?_⟩))
  go_meet
  case rel => exact ⟨_, (true), rs_, H', ⟨by first | omega | exact Nat.le_refl _⟩, ⟨by (with_reducible repeat (first | apply Kd.R_alloc | apply Kd.R_drewN | apply Kd.R_drew)); exact Kd.R_mono HO510.out (fun _ hk => hk.2)⟩, ⟨by (with_reducible repeat (first | apply Kd.R_alloc | apply Kd.R_drewN | apply Kd.R_drew)); exact Kd.R_mono HO529.out (fun _ hk => hk.2)⟩, ⟨by (with_reducible repeat (first | apply Kd.S_alloc | apply Kd.S_drewN | apply Kd.S_drew)); exact Kd.S_mono HO515.out (fun _ hk => ⟨hk.1.2, hk.2⟩)⟩, ⟨by (with_reducible repeat (first | apply Kd.S_alloc | apply Kd.S_drewN | apply Kd.S_drew)); exact Kd.S_mono HO518.out (fun _ hk => ⟨hk.1.2, hk.2⟩)⟩, ⟨by (with_reducible repeat (first | apply Kd.R_alloc | apply Kd.R_drewN | apply Kd.R_drew)); exact Kd.R_mono HO522.out (fun _ hk => trivial)⟩, ⟨by (with_reducible repeat (first | apply Kd.R_alloc | apply Kd.R_drewN | apply Kd.R_drew)); exact Kd.R_mono HO525.out (fun _ hk => trivial)⟩, ⟨bkp BK492⟩, ⟨bkp BK526⟩, ⟨bel⟩⟩
 case rest =>
  clear HC11
  try clear c2; try clear p2; try clear c3; try clear c3b0; try clear c5; try clear c6; try clear c7; try clear c8; try clear c9; try clear c25; try clear c33; try clear C13_0 C13_1 C13_2 C13_3 C13_4 C13_5; try clear C15_0 C15_1 C15_2 C15_3 C15_4 C15_5; try clear C22_0 C22_1 C22_2 C22_3 C22_4 C22_5; try clear C26_0 C26_1 C26_2 C26_3 C26_4 C26_5; try clear C5_0 C5_1 C5_2 C5_3 C5_4 C5_5; try clear F13_0 F13_1 F13_2 F13_3 F13_4 F13_5; try clear F15_0 F15_1 F15_2 F15_3 F15_4 F15_5; try clear F22_0 F22_1 F22_2 F22_3 F22_4 F22_5; try clear F26_0 F26_1 F26_2 F26_3 F26_4 F26_5; try clear F5_0 F5_1 F5_2 F5_3 F5_4 F5_5
  obtain ⟨kq, x40_10, rfl, HA, HJ10, HO_4, HO_7, HO_527001, HO_527002, HO_527004, HO_527005, BK492, BK526, HB⟩ := hcut
  cases kq with
  | zero => exact absurd HA.out (by simp [laws_FnExactStateBytes.j0])
  | succ kj10 =>
   have H := HA.out
   clear HA
   simp only [laws_FnExactStateBytes.j0] at H
   by_cases c38 : x40_10 = true
   ·subst c38
    have H1 : (some false) = some true := by rw [if_pos rfl] at H; exact H
    exact absurd H1 (by simp)
   replace c38 := Bool.eq_false_iff.mpr c38
   subst c38
   have H1 : ((laws_toState.f kj10 a0_0 l0_1 l0_2 a0_3 l0_4 l0_5).bind fun bt532 => ((laws_eqState.f kj10 t512 t513 t516 t519 t520 t523 bt532.1 bt532.2.1 bt532.2.2.1 bt532.2.2.2.1 bt532.2.2.2.2.1 bt532.2.2.2.2.2).bind fun t546 => (if t546 = true then ((laws_markState.f t512 t513 t516 t519 t520 t523 1).bind fun t547 => (if t547 < 0 then (laws_FnExactStateBytes.j1 kj10 t508 t511 t527 true a0_0 l0_1 l0_2 a0_3 l0_4 l0_5) else ((laws_eqByteS.f kj10 t527 t508).bind fun t548 => (if t548 = true then (laws_FnExactStateBytes.j1 kj10 t508 t511 t527 (t530 != t511) a0_0 l0_1 l0_2 a0_3 l0_4 l0_5) else (laws_FnExactStateBytes.j1 kj10 t508 t511 t527 true a0_0 l0_1 l0_2 a0_3 l0_4 l0_5))))) else (some false)))) = some true := by rw [if_neg (show ¬ (false = true) by decide)] at H; exact H
   clear H
   have H := H1
   clear H1
   replace H := Option.bind_eq_some_iff.mp H
   obtain ⟨⟨t532, t533, t536, t539, t540, t543⟩, A390, H⟩ := H
   replace H : ((laws_eqState.f kj10 t512 t513 t516 t519 t520 t523 t532 t533 t536 t539 t540 t543).bind fun t546 => (if t546 = true then ((laws_markState.f t512 t513 t516 t519 t520 t523 1).bind fun t547 => (if t547 < 0 then (laws_FnExactStateBytes.j1 kj10 t508 t511 t527 true a0_0 l0_1 l0_2 a0_3 l0_4 l0_5) else ((laws_eqByteS.f kj10 t527 t508).bind fun t548 => (if t548 = true then (laws_FnExactStateBytes.j1 kj10 t508 t511 t527 (t530 != t511) a0_0 l0_1 l0_2 a0_3 l0_4 l0_5) else (laws_FnExactStateBytes.j1 kj10 t508 t511 t527 true a0_0 l0_1 l0_2 a0_3 l0_4 l0_5))))) else (some false))) = some true := H
   have A39 := Aside0.mk A390
   clear A390
   replace H := Option.bind_eq_some_iff.mp H
   obtain ⟨t546, A400, H⟩ := H
   replace H : (if t546 = true then ((laws_markState.f t512 t513 t516 t519 t520 t523 1).bind fun t547 => (if t547 < 0 then (laws_FnExactStateBytes.j1 kj10 t508 t511 t527 true a0_0 l0_1 l0_2 a0_3 l0_4 l0_5) else ((laws_eqByteS.f kj10 t527 t508).bind fun t548 => (if t548 = true then (laws_FnExactStateBytes.j1 kj10 t508 t511 t527 (t530 != t511) a0_0 l0_1 l0_2 a0_3 l0_4 l0_5) else (laws_FnExactStateBytes.j1 kj10 t508 t511 t527 true a0_0 l0_1 l0_2 a0_3 l0_4 l0_5))))) else (some false)) = some true := H
   have A40 := Aside0.mk A400
   clear A400
   by_cases c41 : t546 = true
   ·subst c41
    have H1 : ((laws_markState.f t512 t513 t516 t519 t520 t523 1).bind fun t547 => (if t547 < 0 then (laws_FnExactStateBytes.j1 kj10 t508 t511 t527 true a0_0 l0_1 l0_2 a0_3 l0_4 l0_5) else ((laws_eqByteS.f kj10 t527 t508).bind fun t548 => (if t548 = true then (laws_FnExactStateBytes.j1 kj10 t508 t511 t527 (t530 != t511) a0_0 l0_1 l0_2 a0_3 l0_4 l0_5) else (laws_FnExactStateBytes.j1 kj10 t508 t511 t527 true a0_0 l0_1 l0_2 a0_3 l0_4 l0_5))))) = some true := by rw [if_pos rfl] at H; exact H
    clear H
    have H := H1
    clear H1
    replace H := Option.bind_eq_some_iff.mp H
    obtain ⟨t547, A420, H⟩ := H
    replace H : (if t547 < 0 then (laws_FnExactStateBytes.j1 kj10 t508 t511 t527 true a0_0 l0_1 l0_2 a0_3 l0_4 l0_5) else ((laws_eqByteS.f kj10 t527 t508).bind fun t548 => (if t548 = true then (laws_FnExactStateBytes.j1 kj10 t508 t511 t527 (t530 != t511) a0_0 l0_1 l0_2 a0_3 l0_4 l0_5) else (laws_FnExactStateBytes.j1 kj10 t508 t511 t527 true a0_0 l0_1 l0_2 a0_3 l0_4 l0_5)))) = some true := H
    have A42 := Aside0.mk A420
    clear A420
    have HC43 := Aside0.mk H
    clear H
    try go_wp2
    replace HO_4 := Aside0.mk (Kd.R_drew HO_4.out)
    replace HO_7 := Aside0.mk (Kd.R_drew HO_7.out)
    replace HO_527001 := Aside0.mk (Kd.S_drew HO_527001.out)
    replace HO_527002 := Aside0.mk (Kd.S_drew HO_527002.out)
    replace HO_527004 := Aside0.mk (Kd.R_drew HO_527004.out)
    replace HO_527005 := Aside0.mk (Kd.R_drew HO_527005.out)
    replace BK492 := Aside0.mk (blk_drew BK492.out)
    replace BK526 := Aside0.mk (blk_drew BK526.out)
    replace HB := Aside0.mk (below_drew1 HB.out)
    refine start_ (n := 5) (S := fun w' => w'.cell? ⟨gb526, 0, none⟩ = some (.int .i64 t512) ∧ w'.cell? ⟨gb526, 1, none⟩ = some (.slice Ao27 t513.length co27) ∧ w'.cell? ⟨gb526, 2, none⟩ = some (.slice Ao28 t516.length co28) ∧ w'.cell? ⟨gb526, 3, none⟩ = some (.int .i64 t519) ∧ w'.cell? ⟨gb526, 4, none⟩ = some (.slice Ao29 t520.length co29) ∧ w'.cell? ⟨gb526, 5, none⟩ = some (.slice Ao30 t523.length co30) ∧ w'.cell? ⟨gb492, 0, none⟩ = some (.int .i64 a0_0) ∧ w'.cell? ⟨gb492, 1, none⟩ = some (.slice A0_1 l0_1.length c0_1) ∧ w'.cell? ⟨gb492, 2, none⟩ = some (.slice A0_2 l0_2.length c0_2) ∧ w'.cell? ⟨gb492, 3, none⟩ = some (.int .i64 a0_3) ∧ w'.cell? ⟨gb492, 4, none⟩ = some (.slice A0_4 l0_4.length c0_4) ∧ w'.cell? ⟨gb492, 5, none⟩ = some (.slice A0_5 l0_5.length c0_5)) (ds := []) #[false, false, false, false, false] (by kernel_rfl) rfl rfl (cells_6 BK526.out (cellz_6 BK492.out)) (fun hHeld => ?_)
    generalize wc.drew = w44 at HO_4 HO_7 HO_527001 HO_527002 HO_527004 HO_527005 BK492 BK526 HB hHeld ⊢
    refine take_ (i := 0) (N := some 41) (v := ?_) (a' := ?_) #[true, false, false, false, false] rfl rfl (by kernel_rfl) (fun _ _ _ h => h) (Or.inl ⟨by rfl, ?_⟩) hHeld ?_ ?_
    rotate_left
    ·rintro w' ⟨s0, s1, s2, s3, s4, s5, s6, s7, s8, s9, s10, s11⟩
     go_simp
     with_reducible rfl
    rotate_left
    ·simp only [Act.put, List.setIfInBounds_toArray, List.set_cons_zero, List.set_cons_succ, i64_w, i32_w]
     rfl
    refine take_ (i := 1) (N := some 42) (v := ?_) (a' := ?_) #[true, true, false, false, false] rfl rfl (by kernel_rfl) (fun _ _ _ h => h) (Or.inl ⟨by rfl, ?_⟩) hHeld ?_ ?_
    rotate_left
    ·rintro w' ⟨s0, s1, s2, s3, s4, s5, s6, s7, s8, s9, s10, s11⟩
     go_simp
     with_reducible rfl
    rotate_left
    ·simp only [Act.put, List.setIfInBounds_toArray, List.set_cons_zero, List.set_cons_succ, i64_w, i32_w]
     rfl
    refine one_ (i := 2) (N := some 43) #[true, true, true, false, false] rfl rfl (by kernel_rfl) (by decide) (fun K hK => ?_)
    refine gs_ Try.func7 #[.agg #[.int .i64 a0_0, .slice A0_1 l0_1.length c0_1, .slice A0_2 l0_2.length c0_2, .int .i64 a0_3, .slice A0_4 l0_4.length c0_4, .slice A0_5 l0_5.length c0_5]] (h := ?_)
    with_reducible refine (laws_toState.calls kj10 a0_0 _ _ l0_1 _ _ l0_2 a0_3 _ _ l0_4 _ _ l0_5 t532 t533 t536 t539 t540 t543 _ ?side1 ?side2 ?side3 ?side4 ?side5 ?side6 ?side7 ?side8 A39.out).mono ?_
    (case side1 => exact kcb)
    (case side2 => exact HC0_1.out)
    (case side3 => exact kcb)
    (case side4 => exact HC0_2.out)
    (case side5 => exact kcb)
    (case side6 => exact HC0_4.out)
    (case side7 => exact kcb)
    (case side8 => exact HC0_5.out)
    rintro e w45 ⟨v534, v537, v541, v544, rfl, ho0, ho1, ho2, ho3, hb⟩
    refine ⟨_, rfl, ?_⟩
    have HO535 := Aside0.mk (Kd.S_lower (Kd.S_new' (Kd.S_new' (Kd.S_new' ho0 (Kd.R_lt (rkp HO_4))) (Kd.R_lt (rkp HO_7))) (Kd.S_lt (skp HO_527001))) (below_size bel))
    have HO538 := Aside0.mk (Kd.S_lower (Kd.S_new' (Kd.S_new' (Kd.S_new' ho1 (Kd.R_lt (rkp HO_4))) (Kd.R_lt (rkp HO_7))) (Kd.S_lt (skp HO_527002))) (below_size bel))
    have HO542 := Aside0.mk (Kd.R_lower (Kd.R_new' ho2 (Kd.R_lt (rkp HO_527004))) (below_size bel))
    have HO545 := Aside0.mk (Kd.R_lower (Kd.R_new' ho3 (Kd.R_lt (rkp HO_527005))) (below_size bel))
    replace HO_4 := Aside0.mk (rbl HO_4 hb)
    replace HO_7 := Aside0.mk (rbl HO_7 hb)
    replace HO_527001 := Aside0.mk (Kd.S_elder' (skp HO_527001) (Kd.S_base ho0) hb)
    replace HO_527002 := Aside0.mk (Kd.S_elder' (skp HO_527002) (Kd.S_base ho1) hb)
    replace HO_527004 := Aside0.mk (Kd.R_elder' (rkp HO_527004) (Kd.R_base ho2) hb)
    replace HO_527005 := Aside0.mk (Kd.R_elder' (rkp HO_527005) (Kd.R_base ho3) hb)
    replace BK492 := Aside0.mk (blb BK492 hb)
    replace BK526 := Aside0.mk (blb BK526 hb)
    replace HB := bst hb
    (try clear hb)
    (try clear hb2)
    (try clear hk)
    (try clear hi)
    (try clear ho0)
    (try clear ho1)
    (try clear ho2)
    (try clear ho3)
    obtain ⟨Ao46, co46, eo46⟩ := Kd.S_slice HO535.out
    (first | subst eo46 | (injection eo46 with f1_ f2_ f3_; have f4_ := f1_.symm; have f5_ := f3_.symm; clear f1_ f2_ f3_; subst f4_; subst f5_))
    obtain ⟨Ao47, co47, eo47⟩ := Kd.S_slice HO538.out
    (first | subst eo47 | (injection eo47 with f1_ f2_ f3_; have f4_ := f1_.symm; have f5_ := f3_.symm; clear f1_ f2_ f3_; subst f4_; subst f5_))
    obtain ⟨Ao48, co48, eo48⟩ := Kd.R_slice HO542.out
    (first | subst eo48 | (injection eo48 with f1_ f2_ f3_; have f4_ := f1_.symm; have f5_ := f3_.symm; clear f1_ f2_ f3_; subst f4_; subst f5_))
    obtain ⟨Ao49, co49, eo49⟩ := Kd.R_slice HO545.out
    (first | subst eo49 | (injection eo49 with f1_ f2_ f3_; have f4_ := f1_.symm; have f5_ := f3_.symm; clear f1_ f2_ f3_; subst f4_; subst f5_))
    refine hK.out _ _ (cells_6 BK526.out (cellz_6 BK492.out)) (fun hHeld => ?_)
    clear hK K
    refine nrm_ (some 43) (h := ?_)
    refine one_ (i := 3) (N := some 44) #[true, true, true, true, false] rfl rfl (by kernel_rfl) (by decide) (fun K hK => ?_)
    refine gs_ Try.func10 #[.agg #[.int .i64 t512, .slice Ao27 t513.length co27, .slice Ao28 t516.length co28, .int .i64 t519, .slice Ao29 t520.length co29, .slice Ao30 t523.length co30], .agg #[.int .i64 t532, .slice Ao46 t533.length co46, .slice Ao47 t536.length co47, .int .i64 t539, .slice Ao48 t540.length co48, .slice Ao49 t543.length co49]] (h := ?_)
    with_reducible refine (laws_eqState.calls kj10 t512 _ _ t513 _ _ t516 t519 _ _ t520 _ _ t523 t532 _ _ t533 _ _ t536 t539 _ _ t540 _ _ t543 true _ ?side1 ?side2 ?side3 ?side4 ?side5 ?side6 ?side7 ?side8 ?side9 ?side10 ?side11 ?side12 ?side13 ?side14 ?side15 ?side16 A40.out).mono ?_
    (case side1 => repeat (first | exact (Kd.S_reads' HO_527001.out).2.2 | (with_reducible refine Kd.C_alloc ?_ _) | (with_reducible refine Kd.C_drewN ?_ _) | (with_reducible refine Kd.C_drew ?_)))
    (case side2 => exact (Kd.S_reads' HO_527001.out).2.1)
    (case side3 => repeat (first | exact (Kd.S_reads' HO_527002.out).2.2 | (with_reducible refine Kd.C_alloc ?_ _) | (with_reducible refine Kd.C_drewN ?_ _) | (with_reducible refine Kd.C_drew ?_)))
    (case side4 => exact (Kd.S_reads' HO_527002.out).2.1)
    (case side5 => repeat (first | exact (Kd.R_reads' HO_527004.out).2.2 | (with_reducible refine Kd.C_alloc ?_ _) | (with_reducible refine Kd.C_drewN ?_ _) | (with_reducible refine Kd.C_drew ?_)))
    (case side6 => exact (Kd.R_reads' HO_527004.out).2.1)
    (case side7 => repeat (first | exact (Kd.R_reads' HO_527005.out).2.2 | (with_reducible refine Kd.C_alloc ?_ _) | (with_reducible refine Kd.C_drewN ?_ _) | (with_reducible refine Kd.C_drew ?_)))
    (case side8 => exact (Kd.R_reads' HO_527005.out).2.1)
    (case side9 => repeat (first | exact (Kd.S_reads' HO535.out).2.2 | (with_reducible refine Kd.C_alloc ?_ _) | (with_reducible refine Kd.C_drewN ?_ _) | (with_reducible refine Kd.C_drew ?_)))
    (case side10 => exact (Kd.S_reads' HO535.out).2.1)
    (case side11 => repeat (first | exact (Kd.S_reads' HO538.out).2.2 | (with_reducible refine Kd.C_alloc ?_ _) | (with_reducible refine Kd.C_drewN ?_ _) | (with_reducible refine Kd.C_drew ?_)))
    (case side12 => exact (Kd.S_reads' HO538.out).2.1)
    (case side13 => repeat (first | exact (Kd.R_reads' HO542.out).2.2 | (with_reducible refine Kd.C_alloc ?_ _) | (with_reducible refine Kd.C_drewN ?_ _) | (with_reducible refine Kd.C_drew ?_)))
    (case side14 => exact (Kd.R_reads' HO542.out).2.1)
    (case side15 => repeat (first | exact (Kd.R_reads' HO545.out).2.2 | (with_reducible refine Kd.C_alloc ?_ _) | (with_reducible refine Kd.C_drewN ?_ _) | (with_reducible refine Kd.C_drew ?_)))
    (case side16 => exact (Kd.R_reads' HO545.out).2.1)
    rintro e w50 ⟨rfl, hb⟩
    refine ⟨_, rfl, ?_⟩
    replace HO_4 := Aside0.mk (rbl HO_4 hb)
    replace HO_7 := Aside0.mk (rbl HO_7 hb)
    replace HO_527001 := Aside0.mk (Kd.S_below (skp HO_527001) hb)
    replace HO_527002 := Aside0.mk (Kd.S_below (skp HO_527002) hb)
    replace HO_527004 := Aside0.mk (rbl HO_527004 hb)
    replace HO_527005 := Aside0.mk (rbl HO_527005 hb)
    replace HO535 := Aside0.mk (Kd.S_below (skp HO535) hb)
    replace HO538 := Aside0.mk (Kd.S_below (skp HO538) hb)
    replace HO542 := Aside0.mk (rbl HO542 hb)
    replace HO545 := Aside0.mk (rbl HO545 hb)
    replace BK492 := Aside0.mk (blb BK492 hb)
    replace BK526 := Aside0.mk (blb BK526 hb)
    replace HB := bst hb
    (try clear hb)
    (try clear hb2)
    (try clear hk)
    (try clear hi)
    refine hK.out _ _ (cells_6 BK526.out (cellz_6 BK492.out)) (fun hHeld => ?_)
    clear hK K
    refine nrm_ (some 44) (h := ?_)
    refine pure_ (i := 4) (N := some 45) (v := ?_) (a' := ?_) #[true, true, true, true, true] rfl rfl (by kernel_rfl) (fun _ _ _ h => h) (Or.inl ⟨by rfl, ?_⟩) ?_ ?_
    rotate_left
    ·intro w'
     go_simp
     with_reducible rfl
    rotate_left
    ·simp only [Act.put, List.setIfInBounds_toArray, List.set_cons_zero, List.set_cons_succ, i64_w, i32_w]
     rfl
    refine done_ (by kernel_rfl) ?_
    have hnb51 := NB526_492.out
    have hnc51 := NB492_526.out
    obtain ⟨C52_0, C52_1, C52_2, C52_3, C52_4, C52_5, -⟩ := cells_6 BK526.out trivial
    obtain ⟨F52_0, F52_1, F52_2, F52_3, F52_4, F52_5, -⟩ := frz_6 BK526.out
    go_upto_region 14 with (first | ((with_reducible refine gate_callee (f := 11) rfl ?_); refine gl_ (some 48) Try.func11 #[.agg #[.int .i64 t512, .slice Ao27 t513.length co27, .slice Ao28 t516.length co28, .int .i64 t519, .slice Ao29 t520.length co29, .slice Ao30 t523.length co30], .int .i64 1] (h := ?_); (with_reducible refine (laws_markState.calls t512 (fun k_ => (((((some k_ ≠ (v509 : Value).ownBlock ∧ some k_ ≠ (v528 : Value).ownBlock) ∧ some k_ ≠ (.slice Ao46 t533.length co46 : Value).ownBlock)) ∧ k_ ≠ gb492) ∧ k_ ≠ gb526) ∧ ∃ q_, q_ ∈ 70 :: (k70).E ∧ ∃ c_, w50.heap[k_]? = some (.cells c_ q_ (0, 0))) (.slice Ao27 t513.length co27) t513 (fun k_ => (((((some k_ ≠ (v509 : Value).ownBlock ∧ some k_ ≠ (v528 : Value).ownBlock) ∧ some k_ ≠ (.slice Ao47 t536.length co47 : Value).ownBlock)) ∧ k_ ≠ gb492) ∧ k_ ≠ gb526) ∧ ∃ q_, q_ ∈ 85 :: (k85).E ∧ ∃ c_, w50.heap[k_]? = some (.cells c_ q_ (0, 0))) (.slice Ao28 t516.length co28) t516 t519 (fun k_ => some k_ = (.slice Ao29 t520.length co29 : Value).ownBlock) (.slice Ao29 t520.length co29) t520 (fun k_ => some k_ = (.slice Ao30 t523.length co30 : Value).ownBlock) (.slice Ao30 t523.length co30) t523 1 t547 w _ ?side1 ?side2 ?side3 ?side4 ?side5 A42.out).mono ?_); (case side1 => repeat (first | (with_reducible first | exact HB.out | apply below_alloc | apply pw_below_drewN | apply below_drew1 | refine below_set ?_ GE492.out | refine below_set ?_ GE526.out) | exact HB.out)); (case side2 => (with_reducible repeat (first | apply Kd.R_alloc | apply Kd.R_drewN | apply Kd.R_drew)); exact (Kd.R_mono (Kd.R_bound (Kd.R_types (Kd.R_types (Kd.S_R HO_527001.out) BK492.out (by decide)) BK526.out (by decide))) (fun _ h_ => ⟨h_.1, h_.2.2.2⟩))); (case side3 => (with_reducible repeat (first | apply Kd.R_alloc | apply Kd.R_drewN | apply Kd.R_drew)); exact (Kd.R_mono (Kd.R_bound (Kd.R_types (Kd.R_types (Kd.S_R HO_527002.out) BK492.out (by decide)) BK526.out (by decide))) (fun _ h_ => ⟨h_.1, h_.2.2.2⟩))); (case side4 => exact Kd.R_tight rfl HO_527004.out); (case side5 => exact Kd.R_tight rfl HO_527005.out); rintro e w53 ⟨rfl, hb, hkp⟩; refine ⟨_, rfl, ?_⟩; have n0_ := Aside0.mk (Kd.R_mono (ok' := fun k_ => some k_ ≠ (v528 : Value).ownBlock) (Kd.R_keptB ((Kd.R_apart' (Kd.R_apart' (Kd.R_tight2 rfl HO_4.out) (Kd.R_typed HO_527004.out) (by decide)) (Kd.R_typed HO_527005.out) (by decide))) hkp (fun k_ hk_ hs_ => Or.elim hs_ (fun e_ => (fun p_ => (p_.1.1.1.1.1) hk_.1.1.1) e_) (fun e_ => Or.elim e_ (fun e_ => (fun p_ => (p_.1.1.1.1.1) hk_.1.1.1) e_) (fun e_ => Or.elim e_ (fun e_ => (hk_.1.2) e_) (fun e_ => (hk_.2) e_))))) (fun k_ hk_ => hk_.1.1.1.2)); have n1_ := Aside0.mk (Kd.R_mono (ok' := fun k_ => some k_ ≠ (v509 : Value).ownBlock) (Kd.R_keptB ((Kd.R_apart' (Kd.R_apart' (Kd.R_tight2 rfl HO_7.out) (Kd.R_typed HO_527004.out) (by decide)) (Kd.R_typed HO_527005.out) (by decide))) hkp (fun k_ hk_ hs_ => Or.elim hs_ (fun e_ => (fun p_ => (p_.1.1.1.1.2) hk_.1.1.1) e_) (fun e_ => Or.elim e_ (fun e_ => (fun p_ => (p_.1.1.1.1.2) hk_.1.1.1) e_) (fun e_ => Or.elim e_ (fun e_ => (hk_.1.2) e_) (fun e_ => (hk_.2) e_))))) (fun k_ hk_ => hk_.1.1.1.2)); have n2_ := Aside0.mk (blk_kept (bkp BK492) hkp (fun hs_ => Or.elim hs_ (fun e_ => (fun p_ => (p_.1.1.2) rfl) e_) (fun e_ => Or.elim e_ (fun e_ => (fun p_ => (p_.1.1.2) rfl) e_) (fun e_ => Or.elim e_ (fun e_ => (fun e_ => (Kd.R_ne HO_527004.out BK492.out (by decide)) e_) e_) (fun e_ => (fun e_ => (Kd.R_ne HO_527005.out BK492.out (by decide)) e_) e_))))); have n3_ := Aside0.mk (blk_kept (bkp BK526) hkp (fun hs_ => Or.elim hs_ (fun e_ => (fun p_ => (p_.1.2) rfl) e_) (fun e_ => Or.elim e_ (fun e_ => (fun p_ => (p_.1.2) rfl) e_) (fun e_ => Or.elim e_ (fun e_ => (fun e_ => (Kd.R_ne HO_527004.out BK526.out (by decide)) e_) e_) (fun e_ => (fun e_ => (Kd.R_ne HO_527005.out BK526.out (by decide)) e_) e_))))); have n4_ := Aside0.mk (Kd.R_mono (ok' := fun k_ => True) (Kd.R_keptB ((Kd.R_apart' (Kd.R_tight2 rfl HO542.out) (Kd.R_typed HO_527005.out) (by decide))) hkp (fun k_ hk_ hs_ => Or.elim hs_ (fun e_ => (fun p_ => typ_ne_ (Kd.R_typed HO542.out) p_.2 (by decide) (hk_.1.1)) e_) (fun e_ => Or.elim e_ (fun e_ => (fun p_ => typ_ne_ (Kd.R_typed HO542.out) p_.2 (by decide) (hk_.1.1)) e_) (fun e_ => Or.elim e_ (fun e_ => (hk_.1.2.2) e_) (fun e_ => (hk_.2) e_))))) (fun k_ hk_ => trivial)); have n5_ := Aside0.mk (Kd.R_mono (ok' := fun k_ => True) (Kd.R_keptB ((Kd.R_apart' (Kd.R_tight2 rfl HO545.out) (Kd.R_typed HO_527004.out) (by decide))) hkp (fun k_ hk_ hs_ => Or.elim hs_ (fun e_ => (fun p_ => typ_ne_ (Kd.R_typed HO545.out) p_.2 (by decide) (hk_.1.1)) e_) (fun e_ => Or.elim e_ (fun e_ => (fun p_ => typ_ne_ (Kd.R_typed HO545.out) p_.2 (by decide) (hk_.1.1)) e_) (fun e_ => Or.elim e_ (fun e_ => (hk_.2) e_) (fun e_ => (hk_.1.2.2) e_))))) (fun k_ hk_ => trivial)); have n6_ := Aside0.mk (hb); clear HO_4; clear HO_7; clear BK492; clear BK526; clear HO542; clear HO545; clear HB; clear HO535; clear HO538; clear HO_527001; clear HO_527002; clear HO_527004; clear HO_527005; have HO_4 := n0_; have HO_7 := n1_; have BK492 := n2_; have BK526 := n3_; have HO542 := n4_; have HO545 := n5_; have HB := n6_; clear n0_ n1_ n2_ n3_ n4_ n5_ n6_; (try clear hb); (try clear hkp)))
    (try simp only [Act.put, List.setIfInBounds_toArray, List.set_cons_zero, List.set_cons_succ])
    go_cut [61] (fun v61 wc => ∃ (kq : Nat) (x61_42 : Bool), v61 = .bool x61_42 ∧ Aside0 (laws_FnExactStateBytes.j1 kq t508 t511 t527 x61_42 a0_0 l0_1 l0_2 a0_3 l0_4 l0_5 = some true) ∧ Aside0 (kq ≤ kj10) ∧ Aside0 (Kd.R (Kd.int .u8) 5 wc w.heap.size (fun k_ => some k_ ≠ (v528 : Value).ownBlock) v509 t508) ∧ Aside0 (Kd.R (Kd.int .u8) 5 wc w.heap.size (fun k_ => some k_ ≠ (v509 : Value).ownBlock) v528 t527) ∧ Aside0 (wc.heap[gb492]? = some (.cells #[.int .i64 a0_0, (.slice A0_1 l0_1.length c0_1), (.slice A0_2 l0_2.length c0_2), .int .i64 a0_3, (.slice A0_4 l0_4.length c0_4), (.slice A0_5 l0_5.length c0_5)] 27 (0, 0))) ∧ Aside0 (Below w.heap.size w wc))
    case first =>
     have H := HC43.out
     clear HC43
     by_cases c54 : t547 < 0
     ·rw [if_pos c54] at H
      exact absurd H (by first | simp | (unfold laws_FnExactStateBytes.j0; split <;> simp) | (unfold laws_FnExactStateBytes.j1; split <;> simp) | (unfold laws_FnExactStateBytes.j2; split <;> simp))
     rw [if_neg c54] at H
     have c54b0 : decide (t547 < 0) = false := decide_eq_false c54
     clear c54
     (first | rw [c54b0] | (simp only [i64_w, i32_w]; rw [c54b0]) | skip)
     replace H := Option.bind_eq_some_iff.mp H
     obtain ⟨t548, A550, H⟩ := H
     replace H : (if t548 = true then (laws_FnExactStateBytes.j1 kj10 t508 t511 t527 (t530 != t511) a0_0 l0_1 l0_2 a0_3 l0_4 l0_5) else (laws_FnExactStateBytes.j1 kj10 t508 t511 t527 true a0_0 l0_1 l0_2 a0_3 l0_4 l0_5)) = some true := H
     have A55 := Aside0.mk A550
     clear A550
     by_cases c56 : t548 = true
     ·subst c56
      have H1 : (laws_FnExactStateBytes.j1 kj10 t508 t511 t527 (t530 != t511) a0_0 l0_1 l0_2 a0_3 l0_4 l0_5) = some true := by rw [if_pos rfl] at H; exact H
      clear H
      have H := H1
      clear H1
      have H' := Aside0.mk H
      clear H
      obtain ⟨Ao57, co57, eo57⟩ := Kd.R_slice HO_7.out
      subst eo57
      obtain ⟨Ao58, co58, eo58⟩ := Kd.R_slice HO_4.out
      subst eo58
      go_wp2_with (first | (go_at_call 9; (with_reducible refine (laws_eqByteS.calls kj10 _ _ t527 _ _ t508 true _ ?side1 ?side2 ?side3 ?side4 A55.out).mono ?_); (case side1 => repeat (first | exact (Kd.R_reads' HO_7.out).2.2 | (with_reducible refine Kd.C_alloc ?_ _) | (with_reducible refine Kd.C_drewN ?_ _) | (with_reducible refine Kd.C_drew ?_))); (case side2 => exact (Kd.R_reads' HO_7.out).2.1); (case side3 => repeat (first | exact (Kd.R_reads' HO_4.out).2.2 | (with_reducible refine Kd.C_alloc ?_ _) | (with_reducible refine Kd.C_drewN ?_ _) | (with_reducible refine Kd.C_drew ?_))); (case side4 => exact (Kd.R_reads' HO_4.out).2.1); rintro e w' ⟨rfl, ⟨nd, rfl⟩⟩))
      go_meet
      case rel => exact ⟨_, ((t530 != t511)), rs_, H', ⟨by have := HJ10.out; first | omega | exact Nat.le_refl _⟩, ⟨rkp HO_4⟩, ⟨rkp HO_7⟩, ⟨bkp BK492⟩, ⟨bel⟩⟩
     replace c56 := Bool.eq_false_iff.mpr c56
     subst c56
     have H1 : (laws_FnExactStateBytes.j1 kj10 t508 t511 t527 true a0_0 l0_1 l0_2 a0_3 l0_4 l0_5) = some true := by rw [if_neg (show ¬ (false = true) by decide)] at H; exact H
     clear H
     have H := H1
     clear H1
     have H' := Aside0.mk H
     clear H
     obtain ⟨Ao59, co59, eo59⟩ := Kd.R_slice HO_7.out
     subst eo59
     obtain ⟨Ao60, co60, eo60⟩ := Kd.R_slice HO_4.out
     subst eo60
     go_wp2_with (first | (go_at_call 9; (with_reducible refine (laws_eqByteS.calls kj10 _ _ t527 _ _ t508 false _ ?side1 ?side2 ?side3 ?side4 A55.out).mono ?_); (case side1 => repeat (first | exact (Kd.R_reads' HO_7.out).2.2 | (with_reducible refine Kd.C_alloc ?_ _) | (with_reducible refine Kd.C_drewN ?_ _) | (with_reducible refine Kd.C_drew ?_))); (case side2 => exact (Kd.R_reads' HO_7.out).2.1); (case side3 => repeat (first | exact (Kd.R_reads' HO_4.out).2.2 | (with_reducible refine Kd.C_alloc ?_ _) | (with_reducible refine Kd.C_drewN ?_ _) | (with_reducible refine Kd.C_drew ?_))); (case side4 => exact (Kd.R_reads' HO_4.out).2.1); rintro e w' ⟨rfl, ⟨nd, rfl⟩⟩))
     go_meet
     case rel => exact ⟨_, (true), rs_, H', ⟨by have := HJ10.out; first | omega | exact Nat.le_refl _⟩, ⟨rkp HO_4⟩, ⟨rkp HO_7⟩, ⟨bkp BK492⟩, ⟨bel⟩⟩
    case rest =>
     clear HC43
     try clear c1; try clear c2; try clear p2; try clear c3; try clear c3b0; try clear c4; try clear c5; try clear c6; try clear c7; try clear c8; try clear c9; try clear c10; try clear c11; try clear c25; try clear c33; try clear c38; try clear c41; try clear c51; try clear c54; try clear c54b0; try clear c56; try clear C13_0 C13_1 C13_2 C13_3 C13_4 C13_5; try clear C15_0 C15_1 C15_2 C15_3 C15_4 C15_5; try clear C22_0 C22_1 C22_2 C22_3 C22_4 C22_5; try clear C26_0 C26_1 C26_2 C26_3 C26_4 C26_5; try clear C52_0 C52_1 C52_2 C52_3 C52_4 C52_5; try clear C5_0 C5_1 C5_2 C5_3 C5_4 C5_5; try clear F13_0 F13_1 F13_2 F13_3 F13_4 F13_5; try clear F15_0 F15_1 F15_2 F15_3 F15_4 F15_5; try clear F22_0 F22_1 F22_2 F22_3 F22_4 F22_5; try clear F26_0 F26_1 F26_2 F26_3 F26_4 F26_5; try clear F52_0 F52_1 F52_2 F52_3 F52_4 F52_5; try clear F5_0 F5_1 F5_2 F5_3 F5_4 F5_5; try clear p2
     obtain ⟨kq, x61_42, rfl, HA, HJ42, HO_4, HO_7, BK492, HB⟩ := hcut
     cases kq with
     | zero => exact absurd HA.out (by simp [laws_FnExactStateBytes.j1])
     | succ kj42 =>
      have H := HA.out
      clear HA
      simp only [laws_FnExactStateBytes.j1] at H
      by_cases c61 : x61_42 = true
      ·subst c61
       have H1 : (some false) = some true := by rw [if_pos rfl] at H; exact H
       exact absurd H1 (by simp)
      replace c61 := Bool.eq_false_iff.mpr c61
      subst c61
      have H1 : ((laws_markByteS.f kj42 t527 1).bind fun bt549 => ((laws_heldByteS.f kj42 bt549.2 1).bind fun t551 => (if t551 < 0 then (some false) else (if t551 = bt549.1 then ((laws_toState.f kj42 a0_0 l0_1 l0_2 a0_3 l0_4 l0_5).bind fun bt552 => ((impl_StateBytes.f kj42 bt552.1 bt552.2.1 bt552.2.2.1 bt552.2.2.2.1 bt552.2.2.2.2.1 bt552.2.2.2.2.2).bind fun bt566 => ((laws_eqByteS.f kj42 bt566.1 t508).bind fun t570 => (if t570 = true then (laws_FnExactStateBytes.j2 kj42 bt549.2 bt549.1 (bt566.2 != t511)) else (laws_FnExactStateBytes.j2 kj42 bt549.2 bt549.1 true))))) else (some false))))) = some true := by rw [if_neg (show ¬ (false = true) by decide)] at H; exact H
      clear H
      have H := H1
      clear H1
      replace H := Option.bind_eq_some_iff.mp H
      obtain ⟨⟨t549, t550⟩, A620, H⟩ := H
      replace H : ((laws_heldByteS.f kj42 t550 1).bind fun t551 => (if t551 < 0 then (some false) else (if t551 = t549 then ((laws_toState.f kj42 a0_0 l0_1 l0_2 a0_3 l0_4 l0_5).bind fun bt552 => ((impl_StateBytes.f kj42 bt552.1 bt552.2.1 bt552.2.2.1 bt552.2.2.2.1 bt552.2.2.2.2.1 bt552.2.2.2.2.2).bind fun bt566 => ((laws_eqByteS.f kj42 bt566.1 t508).bind fun t570 => (if t570 = true then (laws_FnExactStateBytes.j2 kj42 t550 t549 (bt566.2 != t511)) else (laws_FnExactStateBytes.j2 kj42 t550 t549 true))))) else (some false)))) = some true := H
      have A62 := Aside0.mk A620
      clear A620
      replace H := Option.bind_eq_some_iff.mp H
      obtain ⟨t551, A630, H⟩ := H
      replace H : (if t551 < 0 then (some false) else (if t551 = t549 then ((laws_toState.f kj42 a0_0 l0_1 l0_2 a0_3 l0_4 l0_5).bind fun bt552 => ((impl_StateBytes.f kj42 bt552.1 bt552.2.1 bt552.2.2.1 bt552.2.2.2.1 bt552.2.2.2.2.1 bt552.2.2.2.2.2).bind fun bt566 => ((laws_eqByteS.f kj42 bt566.1 t508).bind fun t570 => (if t570 = true then (laws_FnExactStateBytes.j2 kj42 t550 t549 (bt566.2 != t511)) else (laws_FnExactStateBytes.j2 kj42 t550 t549 true))))) else (some false))) = some true := H
      have A63 := Aside0.mk A630
      clear A630
      by_cases c64 : t551 < 0
      ·rw [if_pos c64] at H
       exact absurd H (by first | simp | (unfold laws_FnExactStateBytes.j0; split <;> simp) | (unfold laws_FnExactStateBytes.j1; split <;> simp) | (unfold laws_FnExactStateBytes.j2; split <;> simp))
      rw [if_neg c64] at H
      have c64b0 : decide (t551 < 0) = false := decide_eq_false c64
      clear c64
      by_cases c67 : t551 = t549
      ·rw [if_pos c67] at H
       have c67b0 : (t551 == t549) = true := beq_iff_eq.mpr c67
       have c67b1 : (t551 != t549) = false := bne_eq_false_iff_eq.mpr c67
       clear c67
       replace H := Option.bind_eq_some_iff.mp H
       obtain ⟨⟨t552, t553, t556, t559, t560, t563⟩, A680, H⟩ := H
       replace H : ((impl_StateBytes.f kj42 t552 t553 t556 t559 t560 t563).bind fun bt566 => ((laws_eqByteS.f kj42 bt566.1 t508).bind fun t570 => (if t570 = true then (laws_FnExactStateBytes.j2 kj42 t550 t549 (bt566.2 != t511)) else (laws_FnExactStateBytes.j2 kj42 t550 t549 true)))) = some true := H
       have A68 := Aside0.mk A680
       clear A680
       replace H := Option.bind_eq_some_iff.mp H
       obtain ⟨⟨t566, t569⟩, A690, H⟩ := H
       replace H : ((laws_eqByteS.f kj42 t566 t508).bind fun t570 => (if t570 = true then (laws_FnExactStateBytes.j2 kj42 t550 t549 (t569 != t511)) else (laws_FnExactStateBytes.j2 kj42 t550 t549 true))) = some true := H
       have A69 := Aside0.mk A690
       clear A690
       have HC70 := Aside0.mk H
       clear H
       obtain ⟨Ao71, co71, eo71⟩ := Kd.R_slice HO_7.out
       subst eo71
       go_upto_region 25 with (first | ((with_reducible refine gate_callee (f := 12) rfl ?_); refine gl_ (some 64) Try.func12 #[.slice Ao71 t527.length co71, .int .i64 1] (h := ?_); (with_reducible refine (laws_markByteS.calls kj42 (fun k_ => some k_ = (.slice Ao71 t527.length co71 : Value).ownBlock) (.slice Ao71 t527.length co71) t527 1 t549 t550 w _ ?side1 ?side2 A62.out).mono ?_); (case side1 => repeat (first | (with_reducible first | exact HB.out | apply below_alloc | apply pw_below_drewN | apply below_drew1 | refine below_set ?_ GE492.out) | exact HB.out)); (case side2 => exact Kd.R_tight rfl HO_7.out); rintro e w72 ⟨rfl, hy0, hb, hkp⟩; refine ⟨_, rfl, ?_⟩; replace HO_4 := Aside0.mk (Kd.R_mono (ok' := fun k_ => some k_ ≠ (.slice Ao71 t527.length co71 : Value).ownBlock) (Kd.R_keptB (HO_4.out) hkp (fun k_ hk_ hs_ => (hk_) hs_)) (fun k_ hk_ => hk_.1)); replace BK492 := Aside0.mk (blk_kept (bkp BK492) hkp (fun hs_ => (fun e_ => (Kd.R_ne HO_7.out BK492.out (by decide)) e_) hs_)); replace HO_7 := Aside0.mk (Kd.R_reok rfl hy0 (fun k_ e_ => HO_7.out.1 k_ e_)); replace HB := Aside0.mk (hb); (try clear hb); (try clear hkp); (try clear hy0)) | ((with_reducible refine gate_callee (f := 13) rfl ?_); refine goesL_ (some 67) rfl rfl Try.func13 (by kernel_rfl) rfl #[.slice Ao71 t550.length co71, .int .i64 1] rfl (by (try simp only [List.map_toArray, List.map_cons, List.map_nil]); first | done | (rw [show t550.length = t527.length from (Kd.R_reads' HO_7.out).1.symm] <;> rfl) | rfl | (simp only [List.length_drop, List.length_take]; rfl)) ?_; (with_reducible refine (laws_heldByteS.calls kj42 _ _ t550 1 t551 _ ?side1 ?side2 A63.out).mono ?_); (case side1 => repeat (first | exact (Kd.R_reads' HO_7.out).2.2 | (with_reducible refine Kd.C_alloc ?_ _) | (with_reducible refine Kd.C_drewN ?_ _) | (with_reducible refine Kd.C_drew ?_))); (case side2 => rw [show t550.length = t527.length from (Kd.R_reads' HO_7.out).1.symm]; exact (Kd.R_reads' HO_7.out).2.1); rintro e w' ⟨rfl, ⟨nd, rfl⟩⟩; refine ⟨_, rfl, ?_⟩; obtain ⟨C73_0, C73_1, C73_2, C73_3, C73_4, C73_5, -⟩ := cells_6 BK492.out trivial; obtain ⟨F73_0, F73_1, F73_2, F73_3, F73_4, F73_5, -⟩ := frz_6 BK492.out) | ((with_reducible refine gate_callee (f := 7) rfl ?_); refine gl_ (some 75) Try.func7 #[.agg #[.int .i64 a0_0, .slice A0_1 l0_1.length c0_1, .slice A0_2 l0_2.length c0_2, .int .i64 a0_3, .slice A0_4 l0_4.length c0_4, .slice A0_5 l0_5.length c0_5]] (h := ?_); (with_reducible refine (laws_toState.calls kj42 a0_0 _ _ l0_1 _ _ l0_2 a0_3 _ _ l0_4 _ _ l0_5 t552 t553 t556 t559 t560 t563 _ ?side1 ?side2 ?side3 ?side4 ?side5 ?side6 ?side7 ?side8 A68.out).mono ?_); (case side1 => exact kcb); (case side2 => exact HC0_1.out); (case side3 => exact kcb); (case side4 => exact HC0_2.out); (case side5 => exact kcb); (case side6 => exact HC0_4.out); (case side7 => exact kcb); (case side8 => exact HC0_5.out); rintro e w74 ⟨v554, v557, v561, v564, rfl, ho0, ho1, ho2, ho3, hb⟩; refine ⟨_, rfl, ?_⟩; have HO555 := Aside0.mk (Kd.S_lower (Kd.S_new' (Kd.S_new' ho0 (Kd.R_lt (rkp HO_4))) (Kd.R_lt (rkp HO_7))) (below_size bel)); have HO558 := Aside0.mk (Kd.S_lower (Kd.S_new' (Kd.S_new' ho1 (Kd.R_lt (rkp HO_4))) (Kd.R_lt (rkp HO_7))) (below_size bel)); have HO562 := Aside0.mk (Kd.R_lower ho2 (below_size bel)); have HO565 := Aside0.mk (Kd.R_lower ho3 (below_size bel)); replace HO_4 := Aside0.mk (rbl HO_4 hb); replace HO_7 := Aside0.mk (rbl HO_7 hb); replace BK492 := Aside0.mk (blb BK492 hb); replace HB := bst hb; (try clear hb); (try clear hb2); (try clear hk); (try clear hi); (try clear ho0); (try clear ho1); (try clear ho2); (try clear ho3); obtain ⟨Ao75, co75, eo75⟩ := Kd.S_slice HO555.out; subst eo75; obtain ⟨Ao76, co76, eo76⟩ := Kd.S_slice HO558.out; subst eo76; obtain ⟨Ao77, co77, eo77⟩ := Kd.R_slice HO562.out; subst eo77; obtain ⟨Ao78, co78, eo78⟩ := Kd.R_slice HO565.out; subst eo78) | ((with_reducible refine gate_callee (f := 8) rfl ?_); refine gl_ (some 76) Try.func8 #[.agg #[.int .i64 t552, .slice Ao75 t553.length co75, .slice Ao76 t556.length co76, .int .i64 t559, .slice Ao77 t560.length co77, .slice Ao78 t563.length co78]] (h := ?_); (with_reducible refine (impl_StateBytes.calls kj42 t552 _ _ t553 _ _ t556 t559 _ _ t560 _ _ t563 t566 t569 _ ?side1 ?side2 ?side3 ?side4 ?side5 ?side6 ?side7 ?side8 A69.out).mono ?_); (case side1 => repeat (first | exact (Kd.S_reads' HO555.out).2.2 | (with_reducible refine Kd.C_alloc ?_ _) | (with_reducible refine Kd.C_drewN ?_ _) | (with_reducible refine Kd.C_drew ?_))); (case side2 => exact (Kd.S_reads' HO555.out).2.1); (case side3 => repeat (first | exact (Kd.S_reads' HO558.out).2.2 | (with_reducible refine Kd.C_alloc ?_ _) | (with_reducible refine Kd.C_drewN ?_ _) | (with_reducible refine Kd.C_drew ?_))); (case side4 => exact (Kd.S_reads' HO558.out).2.1); (case side5 => repeat (first | exact (Kd.R_reads' HO562.out).2.2 | (with_reducible refine Kd.C_alloc ?_ _) | (with_reducible refine Kd.C_drewN ?_ _) | (with_reducible refine Kd.C_drew ?_))); (case side6 => exact (Kd.R_reads' HO562.out).2.1); (case side7 => repeat (first | exact (Kd.R_reads' HO565.out).2.2 | (with_reducible refine Kd.C_alloc ?_ _) | (with_reducible refine Kd.C_drewN ?_ _) | (with_reducible refine Kd.C_drew ?_))); (case side8 => exact (Kd.R_reads' HO565.out).2.1); rintro e w79 ⟨v567, rfl, ho0, hb⟩; refine ⟨_, rfl, ?_⟩; have HO568 := Aside0.mk (Kd.R_lower (Kd.R_new' (Kd.R_new' ho0 (Kd.R_lt (rkp HO_4))) (Kd.R_lt (rkp HO_7))) (below_size bel)); replace HO_4 := Aside0.mk (Kd.R_elder' (rkp HO_4) (Kd.R_base ho0) hb); replace HO_7 := Aside0.mk (Kd.R_elder' (rkp HO_7) (Kd.R_base ho0) hb); replace HO555 := Aside0.mk (Kd.S_elder' (skp HO555) (Kd.R_base ho0) hb); replace HO558 := Aside0.mk (Kd.S_elder' (skp HO558) (Kd.R_base ho0) hb); replace HO562 := Aside0.mk (rbl HO562 hb); replace HO565 := Aside0.mk (rbl HO565 hb); replace BK492 := Aside0.mk (blb BK492 hb); replace HB := bst hb; (try clear hb); (try clear hb2); (try clear hk); (try clear hi); (try clear ho0)))
       (try simp only [Act.put, List.setIfInBounds_toArray, List.set_cons_zero, List.set_cons_succ])
       go_cut [87] (fun v87 wc => ∃ (kq : Nat) (x87_69 : Bool), v87 = .bool x87_69 ∧ Aside0 (laws_FnExactStateBytes.j2 kq t550 t549 x87_69 = some true) ∧ Aside0 (kq ≤ kj42) ∧ Aside0 (Kd.R (Kd.int .u8) 5 wc w.heap.size (fun _ => True) (.slice Ao71 t527.length co71) t550) ∧ Aside0 (wc.heap[gb492]? = some (.cells #[.int .i64 a0_0, (.slice A0_1 l0_1.length c0_1), (.slice A0_2 l0_2.length c0_2), .int .i64 a0_3, (.slice A0_4 l0_4.length c0_4), (.slice A0_5 l0_5.length c0_5)] 27 (0, 0))) ∧ Aside0 (Below w.heap.size w wc))
       case first =>
        have H := HC70.out
        clear HC70
        replace H := Option.bind_eq_some_iff.mp H
        obtain ⟨t570, A800, H⟩ := H
        replace H : (if t570 = true then (laws_FnExactStateBytes.j2 kj42 t550 t549 (t569 != t511)) else (laws_FnExactStateBytes.j2 kj42 t550 t549 true)) = some true := H
        have A80 := Aside0.mk A800
        clear A800
        by_cases c81 : t570 = true
        ·subst c81
         have H1 : (laws_FnExactStateBytes.j2 kj42 t550 t549 (t569 != t511)) = some true := by rw [if_pos rfl] at H; exact H
         clear H
         have H := H1
         clear H1
         have H' := Aside0.mk H
         clear H
         obtain ⟨Ao82, co82, eo82⟩ := Kd.R_slice HO568.out
         subst eo82
         obtain ⟨Ao83, co83, eo83⟩ := Kd.R_slice HO_4.out
         subst eo83
         go_wp2_with (first | ((with_reducible refine gate_callee (f := 9) rfl ?_); refine gl_ (some 81) Try.func9 #[.slice Ao82 t566.length co82, .slice Ao83 t508.length co83] (h := ?_); (with_reducible refine (laws_eqByteS.calls kj42 _ _ t566 _ _ t508 true _ ?side1 ?side2 ?side3 ?side4 A80.out).mono ?_); (case side1 => repeat (first | exact (Kd.R_reads' HO568.out).2.2 | (with_reducible refine Kd.C_alloc ?_ _) | (with_reducible refine Kd.C_drewN ?_ _) | (with_reducible refine Kd.C_drew ?_))); (case side2 => exact (Kd.R_reads' HO568.out).2.1); (case side3 => repeat (first | exact (Kd.R_reads' HO_4.out).2.2 | (with_reducible refine Kd.C_alloc ?_ _) | (with_reducible refine Kd.C_drewN ?_ _) | (with_reducible refine Kd.C_drew ?_))); (case side4 => exact (Kd.R_reads' HO_4.out).2.1); rintro e w' ⟨rfl, ⟨nd, rfl⟩⟩; refine ⟨_, rfl, ?_⟩))
         go_meet
         case rel => exact ⟨_, ((t569 != t511)), rs_, H', ⟨by have := HJ10.out; have := HJ42.out; first | omega | exact Nat.le_refl _⟩, ⟨by (with_reducible repeat (first | apply Kd.R_alloc | apply Kd.R_drewN | apply Kd.R_drew)); exact Kd.R_mono HO_7.out (fun _ hk => trivial)⟩, ⟨bkp BK492⟩, ⟨bel⟩⟩
        replace c81 := Bool.eq_false_iff.mpr c81
        subst c81
        have H1 : (laws_FnExactStateBytes.j2 kj42 t550 t549 true) = some true := by rw [if_neg (show ¬ (false = true) by decide)] at H; exact H
        clear H
        have H := H1
        clear H1
        have H' := Aside0.mk H
        clear H
        obtain ⟨Ao84, co84, eo84⟩ := Kd.R_slice HO568.out
        subst eo84
        obtain ⟨Ao85, co85, eo85⟩ := Kd.R_slice HO_4.out
        subst eo85
        go_wp2_with (first | ((with_reducible refine gate_callee (f := 9) rfl ?_); refine gl_ (some 81) Try.func9 #[.slice Ao84 t566.length co84, .slice Ao85 t508.length co85] (h := ?_); (with_reducible refine (laws_eqByteS.calls kj42 _ _ t566 _ _ t508 false _ ?side1 ?side2 ?side3 ?side4 A80.out).mono ?_); (case side1 => repeat (first | exact (Kd.R_reads' HO568.out).2.2 | (with_reducible refine Kd.C_alloc ?_ _) | (with_reducible refine Kd.C_drewN ?_ _) | (with_reducible refine Kd.C_drew ?_))); (case side2 => exact (Kd.R_reads' HO568.out).2.1); (case side3 => repeat (first | exact (Kd.R_reads' HO_4.out).2.2 | (with_reducible refine Kd.C_alloc ?_ _) | (with_reducible refine Kd.C_drewN ?_ _) | (with_reducible refine Kd.C_drew ?_))); (case side4 => exact (Kd.R_reads' HO_4.out).2.1); rintro e w' ⟨rfl, ⟨nd, rfl⟩⟩; refine ⟨_, rfl, ?_⟩))
        go_meet
        case rel => exact ⟨_, (true), rs_, H', ⟨by have := HJ10.out; have := HJ42.out; first | omega | exact Nat.le_refl _⟩, ⟨by (with_reducible repeat (first | apply Kd.R_alloc | apply Kd.R_drewN | apply Kd.R_drew)); exact Kd.R_mono HO_7.out (fun _ hk => trivial)⟩, ⟨bkp BK492⟩, ⟨bel⟩⟩
       case rest =>
        clear HC70
        try clear c1; try clear c2; try clear p2; try clear c3; try clear c3b0; try clear c4; try clear c5; try clear c6; try clear c7; try clear c8; try clear c9; try clear c10; try clear c11; try clear c12; try clear c13; try clear c25; try clear c33; try clear c38; try clear c41; try clear c51; try clear c54; try clear c54b0; try clear c56; try clear c61; try clear c64; try clear c64b0; try clear c67; try clear c67b0; try clear c67b1; try clear c81; try clear C13_0 C13_1 C13_2 C13_3 C13_4 C13_5; try clear C15_0 C15_1 C15_2 C15_3 C15_4 C15_5; try clear C22_0 C22_1 C22_2 C22_3 C22_4 C22_5; try clear C26_0 C26_1 C26_2 C26_3 C26_4 C26_5; try clear C52_0 C52_1 C52_2 C52_3 C52_4 C52_5; try clear C5_0 C5_1 C5_2 C5_3 C5_4 C5_5; try clear C73_0 C73_1 C73_2 C73_3 C73_4 C73_5; try clear F13_0 F13_1 F13_2 F13_3 F13_4 F13_5; try clear F15_0 F15_1 F15_2 F15_3 F15_4 F15_5; try clear F22_0 F22_1 F22_2 F22_3 F22_4 F22_5; try clear F26_0 F26_1 F26_2 F26_3 F26_4 F26_5; try clear F52_0 F52_1 F52_2 F52_3 F52_4 F52_5; try clear F5_0 F5_1 F5_2 F5_3 F5_4 F5_5; try clear F73_0 F73_1 F73_2 F73_3 F73_4 F73_5; try clear p2
        obtain ⟨kq, x87_69, rfl, HA, HJ69, HO_7, BK492, HB⟩ := hcut
        have hl7_69 := (Kd.R_reads' HO_7.out).1
        rw [hl7_69] at HO_7
        (try simp only [hl7_69])
        (try simp only [hl7_69] at BK492)
        cases kq with
        | zero => exact absurd HA.out (by simp [laws_FnExactStateBytes.j2])
        | succ kj69 =>
         have H := HA.out
         clear HA
         simp only [laws_FnExactStateBytes.j2] at H
         by_cases c86 : x87_69 = true
         ·subst c86
          have H1 : (some false) = some true := by rw [if_pos rfl] at H; exact H
          exact absurd H1 (by simp)
         replace c86 := Bool.eq_false_iff.mpr c86
         subst c86
         have H1 : ((laws_heldByteS.f kj69 t550 1).bind fun t571 => (if t571 < 0 then (some false) else (if t571 = t549 then (some true) else (some false)))) = some true := by rw [if_neg (show ¬ (false = true) by decide)] at H; exact H
         clear H
         have H := H1
         clear H1
         replace H := Option.bind_eq_some_iff.mp H
         obtain ⟨t571, A870, H⟩ := H
         replace H : (if t571 < 0 then (some false) else (if t571 = t549 then (some true) else (some false))) = some true := H
         have A87 := Aside0.mk A870
         clear A870
         by_cases c88 : t571 < 0
         ·rw [if_pos c88] at H
          exact absurd H (by first | simp | (unfold laws_FnExactStateBytes.j0; split <;> simp) | (unfold laws_FnExactStateBytes.j1; split <;> simp) | (unfold laws_FnExactStateBytes.j2; split <;> simp))
         rw [if_neg c88] at H
         have c88b0 : decide (t571 < 0) = false := decide_eq_false c88
         clear c88
         by_cases c89 : t571 = t549
         ·rw [if_pos c89] at H
          have c89b0 : (t571 == t549) = true := beq_iff_eq.mpr c89
          have c89b1 : (t571 != t549) = false := bne_eq_false_iff_eq.mpr c89
          clear c89
          clear H
          go_wp2_with (first | ((with_reducible refine gate_callee (f := 13) rfl ?_); refine gl_ (some 90) Try.func13 #[.slice Ao71 t550.length co71, .int .i64 1] (h := ?_); (with_reducible refine (laws_heldByteS.calls kj69 _ _ t550 1 t571 _ ?side1 ?side2 A87.out).mono ?_); (case side1 => repeat (first | exact (Kd.R_reads' HO_7.out).2.2 | (with_reducible refine Kd.C_alloc ?_ _) | (with_reducible refine Kd.C_drewN ?_ _) | (with_reducible refine Kd.C_drew ?_))); (case side2 => exact (Kd.R_reads' HO_7.out).2.1); rintro e w' ⟨rfl, ⟨nd, rfl⟩⟩; refine ⟨_, rfl, ?_⟩))
          go_ret
          exact ⟨rz_, bel⟩
         rw [if_neg c89] at H
         exact absurd H (by first | simp | (unfold laws_FnExactStateBytes.j0; split <;> simp) | (unfold laws_FnExactStateBytes.j1; split <;> simp) | (unfold laws_FnExactStateBytes.j2; split <;> simp))
      rw [if_neg c67] at H
      exact absurd H (by first | simp | (unfold laws_FnExactStateBytes.j0; split <;> simp) | (unfold laws_FnExactStateBytes.j1; split <;> simp) | (unfold laws_FnExactStateBytes.j2; split <;> simp))
   replace c41 := Bool.eq_false_iff.mpr c41
   subst c41
   have H1 : (some false) = some true := by rw [if_neg (show ¬ (false = true) by decide)] at H; exact H
   exact absurd H1 (by simp)

/-- THE ONE PURE STATEMENT of laws_FnExactStateBytes. -/
def laws_FnExactStateBytes.Pure : Prop := ∀ (x0 : S27), okS27 x0 → ∃ k, laws_FnExactStateBytes.f k x0.f0 x0.f1 x0.f2 x0.f3 x0.f4 x0.f5 = some true
theorem laws_FnExactStateBytes.walk (P : laws_FnExactStateBytes.Pure) (x0 : S27) (cs0 : List Value) (w : World) (w0 : k27.K w x0 cs0) (o0 : okS27 x0) :
  Calls Try.prog 3 #[.agg ⟨cs0⟩] w fun e w' => e = .returned (.bool true) ∧ Below w.heap.size w w' := by
 obtain ⟨A0_1, c0_1, A0_2, c0_2, A0_4, c0_4, A0_5, c0_5, rfl, m0_1, g0_1, m0_2, g0_2, m0_4, g0_4, m0_5, g0_5⟩ := k27_open w0
 obtain ⟨k, h⟩ := P x0 o0
 refine (laws_FnExactStateBytes.calls k x0.f0 _ _ x0.f1 _ _ x0.f2 x0.f3 _ _ x0.f4 _ _ x0.f5 w g0_1 m0_1 g0_2 m0_2 g0_4 m0_4 g0_5 m0_5 h).mono ?_
 rintro e w' ⟨rfl, hd⟩
 exact ⟨rfl, hd⟩

end Go.Proofs.Ytmfedjoofnlncaa.PB
