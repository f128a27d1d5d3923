-- Written for this claim by the session's program pp.py, out of the kit's print and the seat's translation.
import Derived.Test.YtoaddpfoecggpaaPTx0
import Derived.Test.YtoaddpfoecggpaaPTx1
import Derived.Test.YtoaddpfoecggpaaPTx2
import Derived.Test.YtoaddpfoecggpaaPTx8
import Derived.Test.YtoaddpfoecggpaaPTx10
namespace Go.Proofs.Ytoaddpfoecggpaa.PT
open Go.RowKit Go.Proofs.YtoaddpfoecggpaaW.PrintWords Go.Proofs.YtoaddpfoecggpaaW.PrintLast Go.Proofs.YtoaddpfoecggpaaW.PrintMore
attribute [local go_sem] max2_int min2_int max_two min_two max_three min_three max_four min_four   -- for this text's walks alone
set_option linter.unusedVariables false
set_option linter.unusedSimpArgs false

/-! ### laws_FnExactTreeLongest: function 8 -/
mutual
def laws_FnExactTreeLongest.j0 : Nat → List Int → List Int → Bool → List Int → List Int → Bool → Bool → List Int → Bool → Int → List (S25) → List Int → Bool → Int → List (S30) → Option (Bool)
 | 0, _, _, _, _, _, _, _, _, _, _, _, _, _, _, _ => none
 | k + 1, x1, x6, x7, x9, x10, x11, x51, x326000, x326001, x326002, x326003, x351000, x351001, x351002, x351003 => if x51 = true then (some false) else ((laws_toTree.f k x326000 x326001 x326002 x326003).bind fun bt359 => ((laws_eqTree.f k x351000 x351001 x351002 x351003 bt359.1 bt359.2.1 bt359.2.2.1 bt359.2.2.2).bind fun t367 => (if t367 = true then ((laws_toByteS.f k x1).bind fun t368 => ((laws_eqByteS.f k x9 t368).bind fun t371 => (if t371 = true then ((laws_markTree.f k x351000 x351001 x351002 x351003 1).bind fun t372 => ((laws_markByteS.f k x9 t372).bind fun bt373 => (if bt373.1 < 0 then (laws_FnExactTreeLongest.j1 k x1 x6 x7 x10 true x326000 x326001 x326002 x326003) else ((laws_eqByteS.f k x10 x6).bind fun t375 => (if t375 = true then (laws_FnExactTreeLongest.j1 k x1 x6 x7 x10 (x11 != x7) x326000 x326001 x326002 x326003) else (laws_FnExactTreeLongest.j1 k x1 x6 x7 x10 true x326000 x326001 x326002 x326003)))))) else (some false)))) else (some false))))
def laws_FnExactTreeLongest.j1 : Nat → List Int → List Int → Bool → List Int → Bool → List Int → Bool → Int → List (S25) → Option (Bool)
 | 0, _, _, _, _, _, _, _, _, _ => none
 | k + 1, x1, x6, x7, x10, x80, x326000, x326001, x326002, x326003 => if x80 = true then (some false) else ((laws_markByteS.f k x10 1).bind fun bt376 => ((laws_heldByteS.f k bt376.2 1).bind fun t378 => (if t378 < 0 then (some false) else (if t378 = bt376.1 then ((laws_toTree.f k x326000 x326001 x326002 x326003).bind fun bt379 => ((laws_toByteS.f k x1).bind fun t387 => ((impl_TreeLongest.f k bt379.1 bt379.2.1 bt379.2.2.1 bt379.2.2.2 t387).bind fun bt390 => ((laws_eqByteS.f k bt390.1 x6).bind fun t394 => (if t394 = true then (laws_FnExactTreeLongest.j2 k bt376.2 bt376.1 (bt390.2 != x7)) else (laws_FnExactTreeLongest.j2 k bt376.2 bt376.1 true)))))) else (some false)))))
def laws_FnExactTreeLongest.j2 : Nat → List Int → Int → Bool → Option (Bool)
 | 0, _, _, _ => none
 | k + 1, x10, x13, x108 => if x108 = true then (some false) else ((laws_heldByteS.f k x10 1).bind fun t395 => (if t395 < 0 then (some false) else (if t395 = x13 then (some true) else (some false))))
end
def laws_FnExactTreeLongest.f (k : Nat) (l0_0 : List Int) (a0_1 : Bool) (a0_2 : Int) (l0_3 : List (S25)) (l1 : List Int) : Option (Bool) := if (l1.length : Int) > 1048576 then (some true) else ((laws_szTree.f k l0_0 a0_1 a0_2 l0_3 1048576).bind fun t326 => (if t326 < 0 then (some true) else ((laws_toTree.f k l0_0 a0_1 a0_2 l0_3).bind fun bt327 => ((laws_toByteS.f k l1).bind fun t335 => ((spec_TreeLongest.f k bt327.1 bt327.2.1 bt327.2.2.1 bt327.2.2.2 t335).bind fun bt338 => ((laws_toTree.f k l0_0 a0_1 a0_2 l0_3).bind fun bt342 => ((laws_toByteS.f k l1).bind fun t351 => ((impl_TreeLongest.f k bt342.1 bt342.2.1 bt342.2.2.1 bt342.2.2.2 t351).bind fun bt354 => ((laws_eqByteS.f k bt354.1 bt338.1).bind fun t358 => (if t358 = true then (laws_FnExactTreeLongest.j0 k l1 bt338.1 bt338.2 t351 bt354.1 bt354.2 (bt354.2 != bt338.2) l0_0 a0_1 a0_2 l0_3 bt342.1 bt342.2.1 bt342.2.2.1 bt342.2.2.2) else (laws_FnExactTreeLongest.j0 k l1 bt338.1 bt338.2 t351 bt354.1 bt354.2 true l0_0 a0_1 a0_2 l0_3 bt342.1 bt342.2.1 bt342.2.2.1 bt342.2.2.2)))))))))))
set_option maxHeartbeats 8000000 in
set_option maxRecDepth 100000 in
theorem laws_FnExactTreeLongest.calls (k : Nat) (A0_0 : Option Addr) (c0_0 : Nat) (l0_0 : List Int) (a0_1 : Bool) (a0_2 : Int) (A0_3 : Option Addr) (c0_3 : Nat) (l0_3 : List (S25)) (A1 : Option Addr) (c1 : Nat) (l1 : List Int) (r : Bool) (w : World) (hr0_0 : Kd.C (Kd.int .u8) w A0_0 l0_0.length l0_0) (hc0_0 : l0_0.length ≤ c0_0) (hr0_3 : Kd.C k25 w A0_3 l0_3.length l0_3) (hc0_3 : l0_3.length ≤ c0_3) (hr1 : Kd.C (Kd.int .u8) w A1 l1.length l1) (hc1 : l1.length ≤ c1) (h : laws_FnExactTreeLongest.f k l0_0 a0_1 a0_2 l0_3 l1 = some r) :
  Calls Try.prog 8 #[.agg #[.slice A0_0 l0_0.length c0_0, .bool a0_1, .int .i64 a0_2, .slice A0_3 l0_3.length c0_3], .slice A1 l1.length c1] w fun e w' => e = .returned (.bool r) ∧ Below w.heap.size w w' := by
 have hu25 := Try.underlying25
 have hu30 := Try.underlying30
 have HR0_0 := Aside0.mk hr0_0
 have HC0_0 := Aside0.mk hc0_0
 clear hr0_0 hc0_0
 have HR0_3 := Aside0.mk hr0_3
 have HC0_3 := Aside0.mk hc0_3
 clear hr0_3 hc0_3
 have HR1 := Aside0.mk hr1
 have HC1 := Aside0.mk hc1
 clear hr1 hc1
 have HB := Aside0.mk (Below.refl w.heap.size w)
 have H : (if (l1.length : Int) > 1048576 then (some true) else ((laws_szTree.f k l0_0 a0_1 a0_2 l0_3 1048576).bind fun t326 => (if t326 < 0 then (some true) else ((laws_toTree.f k l0_0 a0_1 a0_2 l0_3).bind fun bt327 => ((laws_toByteS.f k l1).bind fun t335 => ((spec_TreeLongest.f k bt327.1 bt327.2.1 bt327.2.2.1 bt327.2.2.2 t335).bind fun bt338 => ((laws_toTree.f k l0_0 a0_1 a0_2 l0_3).bind fun bt342 => ((laws_toByteS.f k l1).bind fun t351 => ((impl_TreeLongest.f k bt342.1 bt342.2.1 bt342.2.2.1 bt342.2.2.2 t351).bind fun bt354 => ((laws_eqByteS.f k bt354.1 bt338.1).bind fun t358 => (if t358 = true then (laws_FnExactTreeLongest.j0 k l1 bt338.1 bt338.2 t351 bt354.1 bt354.2 (bt354.2 != bt338.2) l0_0 a0_1 a0_2 l0_3 bt342.1 bt342.2.1 bt342.2.2.1 bt342.2.2.2) else (laws_FnExactTreeLongest.j0 k l1 bt338.1 bt338.2 t351 bt354.1 bt354.2 true l0_0 a0_1 a0_2 l0_3 bt342.1 bt342.2.1 bt342.2.2.1 bt342.2.2.2)))))))))))) = some r := h
 clear h
 by_cases c3 : (l1.length : Int) > 1048576
 ·rw [if_pos c3] at H
  have c3b0 : decide (1048576 < (l1.length : Int)) = true := decide_eq_true c3
  have c3b1 : decide (1048576 < l1.length) = true := decide_eq_true (by omega)
  clear c3
  obtain rfl := Option.some.inj H
  go_enter Try.func8, Try.ntmps8
  go_wp2_with (first | ((with_reducible refine gate_dst (N := 2) rfl ?_); refine bx_ 2 #[.slice A0_0 l0_0.length c0_0, .bool a0_1, .int .i64 a0_2, .slice A0_3 l0_3.length c0_3] 25 (h := ?_); intro gb325 hg w4 hbox hb; have BK325 := Aside0.mk (hbox); have GW325 := Aside0.mk ((by rw [hg]; exact (below_size bel) : w.heap.size ≤ gb325)); have GE325 := Aside0.mk ((by rw [hg]; exact (below_size bel) : w.heap.size ≤ gb325)); replace HB := Aside0.mk (below_step bel hb); clear hb hbox hg))
  go_ret
  exact ⟨by first | rfl | (simp [errW_none, errW_some] <;> rfl) | (simp [*, errW_none, errW_some] <;> rfl), by repeat (first | (with_reducible first | exact HB.out | apply below_alloc | apply pw_below_drewN | apply below_drew1 | refine below_set ?_ GE325.out) | exact HB.out)⟩
 ·rw [if_neg c3] at H
  have c3b0 : decide (1048576 < (l1.length : Int)) = false := decide_eq_false c3
  have c3b1 : decide (1048576 < l1.length) = false := decide_eq_false (by omega)
  clear c3
  replace H := Option.bind_eq_some_iff.mp H
  obtain ⟨t326, A50, H⟩ := H
  replace H : (if t326 < 0 then (some true) else ((laws_toTree.f k l0_0 a0_1 a0_2 l0_3).bind fun bt327 => ((laws_toByteS.f k l1).bind fun t335 => ((spec_TreeLongest.f k bt327.1 bt327.2.1 bt327.2.2.1 bt327.2.2.2 t335).bind fun bt338 => ((laws_toTree.f k l0_0 a0_1 a0_2 l0_3).bind fun bt342 => ((laws_toByteS.f k l1).bind fun t351 => ((impl_TreeLongest.f k bt342.1 bt342.2.1 bt342.2.2.1 bt342.2.2.2 t351).bind fun bt354 => ((laws_eqByteS.f k bt354.1 bt338.1).bind fun t358 => (if t358 = true then (laws_FnExactTreeLongest.j0 k l1 bt338.1 bt338.2 t351 bt354.1 bt354.2 (bt354.2 != bt338.2) l0_0 a0_1 a0_2 l0_3 bt342.1 bt342.2.1 bt342.2.2.1 bt342.2.2.2) else (laws_FnExactTreeLongest.j0 k l1 bt338.1 bt338.2 t351 bt354.1 bt354.2 true l0_0 a0_1 a0_2 l0_3 bt342.1 bt342.2.1 bt342.2.2.1 bt342.2.2.2)))))))))) = some r := H
  have A5 := Aside0.mk A50
  clear A50
  by_cases c6 : t326 < 0
  ·rw [if_pos c6] at H
   have c6b0 : decide (t326 < 0) = true := decide_eq_true c6
   clear c6
   obtain rfl := Option.some.inj H
   go_enter Try.func8, Try.ntmps8
   go_wp2_with (first | ((with_reducible refine gate_dst (N := 2) rfl ?_); refine bx_ 2 #[.slice A0_0 l0_0.length c0_0, .bool a0_1, .int .i64 a0_2, .slice A0_3 l0_3.length c0_3] 25 (h := ?_); intro gb325 hg w7 hbox hb; have BK325 := Aside0.mk (hbox); have GW325 := Aside0.mk ((by rw [hg]; exact (below_size bel) : w.heap.size ≤ gb325)); have GE325 := Aside0.mk ((by rw [hg]; exact (below_size bel) : w.heap.size ≤ gb325)); replace HB := Aside0.mk (below_step bel hb); clear hb hbox hg; obtain ⟨hcz8_0, hcz8_1, hcz8_2, hcz8_3, -⟩ := cells_4 BK325.out trivial; obtain ⟨hfz8_0, hfz8_1, hfz8_2, hfz8_3, -⟩ := frz_4 BK325.out) | ((with_reducible refine gate_callee (f := 15) rfl ?_); refine gl_ (some 22) Try.func15 #[.agg #[.slice A0_0 l0_0.length c0_0, .bool a0_1, .int .i64 a0_2, .slice A0_3 l0_3.length c0_3], .int .i64 1048576] (h := ?_); (with_reducible refine (laws_szTree.calls k _ _ l0_0 a0_1 a0_2 _ _ l0_3 1048576 t326 _ ?side1 ?side2 ?side3 ?side4 A5.out).mono ?_); (case side1 => exact kcb); (case side2 => exact HC0_0.out); (case side3 => exact kcb); (case side4 => exact HC0_3.out); rintro e w9 ⟨rfl, hb⟩; refine ⟨_, rfl, ?_⟩; replace BK325 := Aside0.mk (blb BK325 hb); replace HB := Aside0.mk (below_step bel hb); (try clear hb); (try clear hb2); (try clear hk); (try clear hi)))
   go_ret
   exact ⟨by first | rfl | (simp [errW_none, errW_some] <;> rfl) | (simp [*, errW_none, errW_some] <;> rfl), by repeat (first | (with_reducible first | exact HB.out | apply below_alloc | apply pw_below_drewN | apply below_drew1 | refine below_set ?_ GE325.out) | exact HB.out)⟩
  ·rw [if_neg c6] at H
   have c6b0 : decide (t326 < 0) = false := decide_eq_false c6
   clear c6
   replace H := Option.bind_eq_some_iff.mp H
   obtain ⟨⟨t327, t330, t331, t332⟩, A100, H⟩ := H
   replace H : ((laws_toByteS.f k l1).bind fun t335 => ((spec_TreeLongest.f k t327 t330 t331 t332 t335).bind fun bt338 => ((laws_toTree.f k l0_0 a0_1 a0_2 l0_3).bind fun bt342 => ((laws_toByteS.f k l1).bind fun t351 => ((impl_TreeLongest.f k bt342.1 bt342.2.1 bt342.2.2.1 bt342.2.2.2 t351).bind fun bt354 => ((laws_eqByteS.f k bt354.1 bt338.1).bind fun t358 => (if t358 = true then (laws_FnExactTreeLongest.j0 k l1 bt338.1 bt338.2 t351 bt354.1 bt354.2 (bt354.2 != bt338.2) l0_0 a0_1 a0_2 l0_3 bt342.1 bt342.2.1 bt342.2.2.1 bt342.2.2.2) else (laws_FnExactTreeLongest.j0 k l1 bt338.1 bt338.2 t351 bt354.1 bt354.2 true l0_0 a0_1 a0_2 l0_3 bt342.1 bt342.2.1 bt342.2.2.1 bt342.2.2.2)))))))) = some r := H
   have A10 := Aside0.mk A100
   clear A100
   replace H := Option.bind_eq_some_iff.mp H
   obtain ⟨t335, A110, H⟩ := H
   replace H : ((spec_TreeLongest.f k t327 t330 t331 t332 t335).bind fun bt338 => ((laws_toTree.f k l0_0 a0_1 a0_2 l0_3).bind fun bt342 => ((laws_toByteS.f k l1).bind fun t351 => ((impl_TreeLongest.f k bt342.1 bt342.2.1 bt342.2.2.1 bt342.2.2.2 t351).bind fun bt354 => ((laws_eqByteS.f k bt354.1 bt338.1).bind fun t358 => (if t358 = true then (laws_FnExactTreeLongest.j0 k l1 bt338.1 bt338.2 t351 bt354.1 bt354.2 (bt354.2 != bt338.2) l0_0 a0_1 a0_2 l0_3 bt342.1 bt342.2.1 bt342.2.2.1 bt342.2.2.2) else (laws_FnExactTreeLongest.j0 k l1 bt338.1 bt338.2 t351 bt354.1 bt354.2 true l0_0 a0_1 a0_2 l0_3 bt342.1 bt342.2.1 bt342.2.2.1 bt342.2.2.2))))))) = some r := H
   have A11 := Aside0.mk A110
   clear A110
   replace H := Option.bind_eq_some_iff.mp H
   obtain ⟨⟨t338, t341⟩, A120, H⟩ := H
   replace H : ((laws_toTree.f k l0_0 a0_1 a0_2 l0_3).bind fun bt342 => ((laws_toByteS.f k l1).bind fun t351 => ((impl_TreeLongest.f k bt342.1 bt342.2.1 bt342.2.2.1 bt342.2.2.2 t351).bind fun bt354 => ((laws_eqByteS.f k bt354.1 t338).bind fun t358 => (if t358 = true then (laws_FnExactTreeLongest.j0 k l1 t338 t341 t351 bt354.1 bt354.2 (bt354.2 != t341) l0_0 a0_1 a0_2 l0_3 bt342.1 bt342.2.1 bt342.2.2.1 bt342.2.2.2) else (laws_FnExactTreeLongest.j0 k l1 t338 t341 t351 bt354.1 bt354.2 true l0_0 a0_1 a0_2 l0_3 bt342.1 bt342.2.1 bt342.2.2.1 bt342.2.2.2)))))) = some r := H
   have A12 := Aside0.mk A120
   clear A120
   replace H := Option.bind_eq_some_iff.mp H
   obtain ⟨⟨t342, t345, t346, t347⟩, A130, H⟩ := H
   replace H : ((laws_toByteS.f k l1).bind fun t351 => ((impl_TreeLongest.f k t342 t345 t346 t347 t351).bind fun bt354 => ((laws_eqByteS.f k bt354.1 t338).bind fun t358 => (if t358 = true then (laws_FnExactTreeLongest.j0 k l1 t338 t341 t351 bt354.1 bt354.2 (bt354.2 != t341) l0_0 a0_1 a0_2 l0_3 t342 t345 t346 t347) else (laws_FnExactTreeLongest.j0 k l1 t338 t341 t351 bt354.1 bt354.2 true l0_0 a0_1 a0_2 l0_3 t342 t345 t346 t347))))) = some r := H
   have A13 := Aside0.mk A130
   clear A130
   replace H := Option.bind_eq_some_iff.mp H
   obtain ⟨t351, A140, H⟩ := H
   replace H : ((impl_TreeLongest.f k t342 t345 t346 t347 t351).bind fun bt354 => ((laws_eqByteS.f k bt354.1 t338).bind fun t358 => (if t358 = true then (laws_FnExactTreeLongest.j0 k l1 t338 t341 t351 bt354.1 bt354.2 (bt354.2 != t341) l0_0 a0_1 a0_2 l0_3 t342 t345 t346 t347) else (laws_FnExactTreeLongest.j0 k l1 t338 t341 t351 bt354.1 bt354.2 true l0_0 a0_1 a0_2 l0_3 t342 t345 t346 t347)))) = some r := H
   have A14 := Aside0.mk A140
   clear A140
   replace H := Option.bind_eq_some_iff.mp H
   obtain ⟨⟨t354, t357⟩, A150, H⟩ := H
   replace H : ((laws_eqByteS.f k t354 t338).bind fun t358 => (if t358 = true then (laws_FnExactTreeLongest.j0 k l1 t338 t341 t351 t354 t357 (t357 != t341) l0_0 a0_1 a0_2 l0_3 t342 t345 t346 t347) else (laws_FnExactTreeLongest.j0 k l1 t338 t341 t351 t354 t357 true l0_0 a0_1 a0_2 l0_3 t342 t345 t346 t347))) = some r := H
   have A15 := Aside0.mk A150
   clear A150
   have HC16 := Aside0.mk H
   clear H
   go_enter Try.func8, Try.ntmps8
   go_upto_region 11 with (first | ((with_reducible refine gate_dst (N := 2) rfl ?_); refine bx_ 2 #[.slice A0_0 l0_0.length c0_0, .bool a0_1, .int .i64 a0_2, .slice A0_3 l0_3.length c0_3] 25 (h := ?_); intro gb325 hg w17 hbox hb; have BK325 := Aside0.mk (hbox); have GW325 := Aside0.mk ((by rw [hg]; exact (below_size bel) : w.heap.size ≤ gb325)); have GE325 := Aside0.mk ((by rw [hg]; exact (below_size bel) : w.heap.size ≤ gb325)); replace HB := Aside0.mk (below_step bel hb); clear hb hbox hg; obtain ⟨hcz18_0, hcz18_1, hcz18_2, hcz18_3, -⟩ := cells_4 BK325.out trivial; obtain ⟨hfz18_0, hfz18_1, hfz18_2, hfz18_3, -⟩ := frz_4 BK325.out) | ((with_reducible refine gate_callee (f := 15) rfl ?_); refine gl_ (some 22) Try.func15 #[.agg #[.slice A0_0 l0_0.length c0_0, .bool a0_1, .int .i64 a0_2, .slice A0_3 l0_3.length c0_3], .int .i64 1048576] (h := ?_); (with_reducible refine (laws_szTree.calls k _ _ l0_0 a0_1 a0_2 _ _ l0_3 1048576 t326 _ ?side1 ?side2 ?side3 ?side4 A5.out).mono ?_); (case side1 => exact kcb); (case side2 => exact HC0_0.out); (case side3 => exact kcb); (case side4 => exact HC0_3.out); rintro e w19 ⟨rfl, hb⟩; refine ⟨_, rfl, ?_⟩; replace BK325 := Aside0.mk (blb BK325 hb); replace HB := Aside0.mk (below_step bel hb); (try clear hb); (try clear hb2); (try clear hk); (try clear hi); obtain ⟨hcz20_0, hcz20_1, hcz20_2, hcz20_3, -⟩ := cells_4 BK325.out trivial; obtain ⟨hfz20_0, hfz20_1, hfz20_2, hfz20_3, -⟩ := frz_4 BK325.out) | ((with_reducible refine gate_callee (f := 17) rfl ?_); refine gl_ (some 27) Try.func17 #[.agg #[.slice A0_0 l0_0.length c0_0, .bool a0_1, .int .i64 a0_2, .slice A0_3 l0_3.length c0_3]] (h := ?_); (with_reducible refine (laws_toTree.calls k _ _ l0_0 a0_1 a0_2 _ _ l0_3 t327 t330 t331 t332 _ ?side1 ?side2 ?side3 ?side4 A10.out).mono ?_); (case side1 => exact kcb); (case side2 => exact HC0_0.out); (case side3 => exact kcb); (case side4 => exact HC0_3.out); rintro e w21 ⟨v328, v333, rfl, ho0, ho1, hb⟩; refine ⟨_, rfl, ?_⟩; have HO329 := Aside0.mk (Kd.R_lower ho0 (below_size bel)); have HO334 := Aside0.mk (Kd.R_lower ho1 (below_size bel)); replace BK325 := Aside0.mk (blb BK325 hb); replace HB := Aside0.mk (below_step bel hb); (try clear hb); (try clear hb2); (try clear hk); (try clear hi); (try clear ho0); (try clear ho1)) | ((with_reducible refine gate_callee (f := 23) rfl ?_); refine gl_ (some 29) Try.func23 #[.slice A1 l1.length c1] (h := ?_); (with_reducible refine (laws_toByteS.calls k _ _ l1 t335 _ ?side1 ?side2 A11.out).mono ?_); (case side1 => exact kcb); (case side2 => exact HC1.out); rintro e w22 ⟨v336, rfl, ho0, hb⟩; refine ⟨_, rfl, ?_⟩; have HO337 := Aside0.mk (Kd.R_lower (Kd.R_new' ho0 (Kd.R_lt (by (with_reducible repeat (first | apply Kd.R_alloc | apply Kd.R_drewN | apply Kd.R_drew)); exact HO329.out))) (below_size bel)); replace HO329 := Aside0.mk (Kd.R_elder' (by (with_reducible repeat (first | apply Kd.R_alloc | apply Kd.R_drewN | apply Kd.R_drew)); exact HO329.out) (Kd.R_base ho0) hb); replace HO334 := Aside0.mk (Kd.R_elder' (by (with_reducible repeat (first | apply Kd.R_alloc | apply Kd.R_drewN | apply Kd.R_drew)); exact HO334.out) (Kd.R_base ho0) hb); replace BK325 := Aside0.mk (blb BK325 hb); replace HB := Aside0.mk (below_step bel hb); (try clear hb); (try clear hb2); (try clear hk); (try clear hi); (try clear ho0); obtain ⟨Ao23, co23, eo23⟩ := Kd.R_slice HO329.out; subst eo23; obtain ⟨Ao24, co24, eo24⟩ := Kd.R_slice HO334.out; subst eo24; obtain ⟨Ao25, co25, eo25⟩ := Kd.R_slice HO337.out; subst eo25) | ((with_reducible refine gate_callee (f := 36) rfl ?_); refine gl_ (some 30) Try.func36 #[.agg #[.slice Ao23 t327.length co23, .bool t330, .int .i64 t331, .slice Ao24 t332.length co24], .slice Ao25 t335.length co25] (h := ?_); (with_reducible refine (spec_TreeLongest.calls k _ _ t327 t330 t331 _ _ t332 _ _ t335 t338 t341 _ ?side1 ?side2 ?side3 ?side4 ?side5 ?side6 A12.out).mono ?_); (case side1 => repeat (first | exact (Kd.R_reads' HO329.out).2.2 | (with_reducible refine Kd.C_alloc ?_ _) | (with_reducible refine Kd.C_drewN ?_ _) | (with_reducible refine Kd.C_drew ?_))); (case side2 => exact (Kd.R_reads' HO329.out).2.1); (case side3 => repeat (first | exact (Kd.R_reads' HO334.out).2.2 | (with_reducible refine Kd.C_alloc ?_ _) | (with_reducible refine Kd.C_drewN ?_ _) | (with_reducible refine Kd.C_drew ?_))); (case side4 => exact (Kd.R_reads' HO334.out).2.1); (case side5 => repeat (first | exact (Kd.R_reads' HO337.out).2.2 | (with_reducible refine Kd.C_alloc ?_ _) | (with_reducible refine Kd.C_drewN ?_ _) | (with_reducible refine Kd.C_drew ?_))); (case side6 => exact (Kd.R_reads' HO337.out).2.1); rintro e w26 ⟨v339, rfl, ho0, hb⟩; refine ⟨_, rfl, ?_⟩; have HO340 := Aside0.mk (Kd.R_lower (Kd.R_new' (Kd.R_new' ho0 (Kd.R_lt (by (with_reducible repeat (first | apply Kd.R_alloc | apply Kd.R_drewN | apply Kd.R_drew)); exact HO329.out))) (Kd.R_lt (by (with_reducible repeat (first | apply Kd.R_alloc | apply Kd.R_drewN | apply Kd.R_drew)); exact HO337.out))) (below_size bel)); replace HO329 := Aside0.mk (Kd.R_elder' (by (with_reducible repeat (first | apply Kd.R_alloc | apply Kd.R_drewN | apply Kd.R_drew)); exact HO329.out) (Kd.R_base ho0) hb); replace HO334 := Aside0.mk (Kd.R_elder' (by (with_reducible repeat (first | apply Kd.R_alloc | apply Kd.R_drewN | apply Kd.R_drew)); exact HO334.out) (Kd.R_base ho0) hb); replace HO337 := Aside0.mk (Kd.R_elder' (by (with_reducible repeat (first | apply Kd.R_alloc | apply Kd.R_drewN | apply Kd.R_drew)); exact HO337.out) (Kd.R_base ho0) hb); replace BK325 := Aside0.mk (blb BK325 hb); replace HB := Aside0.mk (below_step bel hb); (try clear hb); (try clear hb2); (try clear hk); (try clear hi); (try clear ho0); obtain ⟨hcz27_0, hcz27_1, hcz27_2, hcz27_3, -⟩ := cells_4 BK325.out trivial; obtain ⟨hfz27_0, hfz27_1, hfz27_2, hfz27_3, -⟩ := frz_4 BK325.out) | ((with_reducible refine gate_callee (f := 17) rfl ?_); refine gl_ (some 34) Try.func17 #[.agg #[.slice A0_0 l0_0.length c0_0, .bool a0_1, .int .i64 a0_2, .slice A0_3 l0_3.length c0_3]] (h := ?_); (with_reducible refine (laws_toTree.calls k _ _ l0_0 a0_1 a0_2 _ _ l0_3 t342 t345 t346 t347 _ ?side1 ?side2 ?side3 ?side4 A13.out).mono ?_); (case side1 => exact kcb); (case side2 => exact HC0_0.out); (case side3 => exact kcb); (case side4 => exact HC0_3.out); rintro e w28 ⟨v343, v348, rfl, ho0, ho1, hb⟩; refine ⟨_, rfl, ?_⟩; have HO344 := Aside0.mk (Kd.R_lower (Kd.R_new' (Kd.R_new' (Kd.R_new' ho0 (Kd.R_lt (by (with_reducible repeat (first | apply Kd.R_alloc | apply Kd.R_drewN | apply Kd.R_drew)); exact HO329.out))) (Kd.R_lt (by (with_reducible repeat (first | apply Kd.R_alloc | apply Kd.R_drewN | apply Kd.R_drew)); exact HO337.out))) (Kd.R_lt (by (with_reducible repeat (first | apply Kd.R_alloc | apply Kd.R_drewN | apply Kd.R_drew)); exact HO340.out))) (below_size bel)); have HO349 := Aside0.mk (Kd.R_lower (Kd.R_new' (Kd.R_new' (Kd.R_new' (Kd.R_new' ho1 (Kd.R_lt (by (with_reducible repeat (first | apply Kd.R_alloc | apply Kd.R_drewN | apply Kd.R_drew)); exact HO329.out))) (Kd.R_lt (by (with_reducible repeat (first | apply Kd.R_alloc | apply Kd.R_drewN | apply Kd.R_drew)); exact HO334.out))) (Kd.R_lt (by (with_reducible repeat (first | apply Kd.R_alloc | apply Kd.R_drewN | apply Kd.R_drew)); exact HO337.out))) (Kd.R_lt (by (with_reducible repeat (first | apply Kd.R_alloc | apply Kd.R_drewN | apply Kd.R_drew)); exact HO340.out))) (below_size bel)); replace HO329 := Aside0.mk (Kd.R_elder' (by (with_reducible repeat (first | apply Kd.R_alloc | apply Kd.R_drewN | apply Kd.R_drew)); exact HO329.out) (Kd.R_base ho0) hb); replace HO334 := Aside0.mk (Kd.R_mono (Kd.R_told (Kd.R_told (Kd.R_old (by (with_reducible repeat (first | apply Kd.R_alloc | apply Kd.R_drewN | apply Kd.R_drew)); exact HO334.out) hb) (Kd.R_base ho0)) (Kd.R_base ho1)) (fun _ h_ => h_.1)); replace HO337 := Aside0.mk (Kd.R_elder' (by (with_reducible repeat (first | apply Kd.R_alloc | apply Kd.R_drewN | apply Kd.R_drew)); exact HO337.out) (Kd.R_base ho0) hb); replace HO340 := Aside0.mk (Kd.R_elder' (by (with_reducible repeat (first | apply Kd.R_alloc | apply Kd.R_drewN | apply Kd.R_drew)); exact HO340.out) (Kd.R_base ho0) hb); replace BK325 := Aside0.mk (blb BK325 hb); replace HB := Aside0.mk (below_step bel hb); (try clear hb); (try clear hb2); (try clear hk); (try clear hi); (try clear ho0); (try clear ho1)) | ((with_reducible refine gate_dst (N := 8) rfl ?_); refine bx_ 8 #[.slice none 0 0, .bool false, .int .i64 0, .slice none 0 0] 30 (h := ?_); intro gb350 hg w29 hbox hb; have BK350 := Aside0.mk (hbox); have GW350 := Aside0.mk ((by rw [hg]; exact (below_size bel) : w.heap.size ≤ gb350)); have GE350 := Aside0.mk ((by rw [hg]; exact (below_size bel) : w.heap.size ≤ gb350)); have NB325_350 := Aside0.mk ((by rw [hg]; exact Nat.ne_of_lt (blt BK325) : gb325 ≠ gb350)); have NB350_325 := Aside0.mk ((by rw [hg]; exact Nat.ne_of_gt (blt BK325) : gb350 ≠ gb325)); replace HO329 := Aside0.mk (rbl HO329 hb); replace HO334 := Aside0.mk (Kd.R_below (Kd.R_elderB (by (with_reducible repeat (first | apply Kd.R_alloc | apply Kd.R_drewN | apply Kd.R_drew)); exact HO334.out) gb350 (Nat.le_of_eq hg.symm)) hb); replace HO337 := Aside0.mk (rbl HO337 hb); replace HO340 := Aside0.mk (rbl HO340 hb); replace HO344 := Aside0.mk (rbl HO344 hb); replace HO349 := Aside0.mk (Kd.R_below (Kd.R_elderB (by (with_reducible repeat (first | apply Kd.R_alloc | apply Kd.R_drewN | apply Kd.R_drew)); exact HO349.out) gb350 (Nat.le_of_eq hg.symm)) hb); replace BK325 := Aside0.mk (blb BK325 hb); replace HB := Aside0.mk (below_step bel hb); clear hb hbox hg; obtain ⟨Ao30, co30, eo30⟩ := Kd.R_slice HO344.out; subst eo30; have hnb31 := NB350_325.out; have hnc31 := NB325_350.out; obtain ⟨hcz32_0, hcz32_1, hcz32_2, hcz32_3, -⟩ := cells_4 BK350.out trivial; obtain ⟨hfz32_0, hfz32_1, hfz32_2, hfz32_3, -⟩ := frz_4 BK350.out; obtain ⟨Ao33, co33, eo33⟩ := Kd.R_slice HO349.out; subst eo33) | ((with_reducible refine gate_callee (f := 23) rfl ?_); refine gl_ (some 36) Try.func23 #[.slice A1 l1.length c1] (h := ?_); (with_reducible refine (laws_toByteS.calls k _ _ l1 t351 _ ?side1 ?side2 A14.out).mono ?_); (case side1 => exact Kd.C_below HR1.out bel); (case side2 => exact HC1.out); rintro e w34 ⟨v352, rfl, ho0, hb⟩; refine ⟨_, rfl, ?_⟩; have HO353 := Aside0.mk (Kd.R_lower (Kd.R_new' (Kd.R_new' (Kd.R_new' (Kd.R_new' ho0 (Kd.R_lt (by (with_reducible repeat (first | apply Kd.R_alloc | apply Kd.R_drewN | apply Kd.R_drew)); exact (Kd.R_mono (Kd.R_far (p := ⟨gb350, 3, none⟩) (Kd.R_far (p := ⟨gb350, 2, none⟩) (Kd.R_far (p := ⟨gb350, 1, none⟩) (Kd.R_far (p := ⟨gb350, 0, none⟩) (Kd.R_types HO329.out BK350.out (by decide)) (fun _ hk => hk.2) (.slice Ao30 t342.length co30)) (fun _ hk => hk.2) (.bool t345)) (fun _ hk => hk.2) (.int .i64 t346)) (fun _ hk => hk.2) (.slice Ao33 t347.length co33)) (fun _ h_ => h_.1))))) (Kd.R_lt (by (with_reducible repeat (first | apply Kd.R_alloc | apply Kd.R_drewN | apply Kd.R_drew)); exact (Kd.R_mono (Kd.R_far (p := ⟨gb350, 3, none⟩) (Kd.R_far (p := ⟨gb350, 2, none⟩) (Kd.R_far (p := ⟨gb350, 1, none⟩) (Kd.R_far (p := ⟨gb350, 0, none⟩) (Kd.R_types HO337.out BK350.out (by decide)) (fun _ hk => hk.2) (.slice Ao30 t342.length co30)) (fun _ hk => hk.2) (.bool t345)) (fun _ hk => hk.2) (.int .i64 t346)) (fun _ hk => hk.2) (.slice Ao33 t347.length co33)) (fun _ h_ => h_.1))))) (Kd.R_lt (by (with_reducible repeat (first | apply Kd.R_alloc | apply Kd.R_drewN | apply Kd.R_drew)); exact (Kd.R_mono (Kd.R_far (p := ⟨gb350, 3, none⟩) (Kd.R_far (p := ⟨gb350, 2, none⟩) (Kd.R_far (p := ⟨gb350, 1, none⟩) (Kd.R_far (p := ⟨gb350, 0, none⟩) (Kd.R_types HO340.out BK350.out (by decide)) (fun _ hk => hk.2) (.slice Ao30 t342.length co30)) (fun _ hk => hk.2) (.bool t345)) (fun _ hk => hk.2) (.int .i64 t346)) (fun _ hk => hk.2) (.slice Ao33 t347.length co33)) (fun _ h_ => h_.1))))) (Kd.R_lt (by (with_reducible repeat (first | apply Kd.R_alloc | apply Kd.R_drewN | apply Kd.R_drew)); exact (Kd.R_mono (Kd.R_far (p := ⟨gb350, 3, none⟩) (Kd.R_far (p := ⟨gb350, 2, none⟩) (Kd.R_far (p := ⟨gb350, 1, none⟩) (Kd.R_far (p := ⟨gb350, 0, none⟩) (Kd.R_types HO344.out BK350.out (by decide)) (fun _ hk => hk.2) (.slice Ao30 t342.length co30)) (fun _ hk => hk.2) (.bool t345)) (fun _ hk => hk.2) (.int .i64 t346)) (fun _ hk => hk.2) (.slice Ao33 t347.length co33)) (fun _ h_ => h_.1))))) (below_size bel)); replace HO329 := Aside0.mk (Kd.R_elder' (by (with_reducible repeat (first | apply Kd.R_alloc | apply Kd.R_drewN | apply Kd.R_drew)); exact (Kd.R_mono (Kd.R_far (p := ⟨gb350, 3, none⟩) (Kd.R_far (p := ⟨gb350, 2, none⟩) (Kd.R_far (p := ⟨gb350, 1, none⟩) (Kd.R_far (p := ⟨gb350, 0, none⟩) (Kd.R_types HO329.out BK350.out (by decide)) (fun _ hk => hk.2) (.slice Ao30 t342.length co30)) (fun _ hk => hk.2) (.bool t345)) (fun _ hk => hk.2) (.int .i64 t346)) (fun _ hk => hk.2) (.slice Ao33 t347.length co33)) (fun _ h_ => h_.1))) (Kd.R_base ho0) hb); replace HO334 := Aside0.mk (Kd.R_elder' (by (with_reducible repeat (first | apply Kd.R_alloc | apply Kd.R_drewN | apply Kd.R_drew)); exact (Kd.R_mono (Kd.R_far (p := ⟨gb350, 3, none⟩) (Kd.R_far (p := ⟨gb350, 2, none⟩) (Kd.R_far (p := ⟨gb350, 1, none⟩) (Kd.R_far (p := ⟨gb350, 0, none⟩) (Kd.R_mono HO334.out (fun k_ hk => (⟨hk, hk.2⟩ : _ ∧ k_ ≠ gb350))) (fun _ hk => hk.2) (.slice Ao30 t342.length co30)) (fun _ hk => hk.2) (.bool t345)) (fun _ hk => hk.2) (.int .i64 t346)) (fun _ hk => hk.2) (.slice Ao33 t347.length co33)) (fun _ h_ => h_.1))) (Kd.R_base ho0) hb); replace HO337 := Aside0.mk (Kd.R_elder' (by (with_reducible repeat (first | apply Kd.R_alloc | apply Kd.R_drewN | apply Kd.R_drew)); exact (Kd.R_mono (Kd.R_far (p := ⟨gb350, 3, none⟩) (Kd.R_far (p := ⟨gb350, 2, none⟩) (Kd.R_far (p := ⟨gb350, 1, none⟩) (Kd.R_far (p := ⟨gb350, 0, none⟩) (Kd.R_types HO337.out BK350.out (by decide)) (fun _ hk => hk.2) (.slice Ao30 t342.length co30)) (fun _ hk => hk.2) (.bool t345)) (fun _ hk => hk.2) (.int .i64 t346)) (fun _ hk => hk.2) (.slice Ao33 t347.length co33)) (fun _ h_ => h_.1))) (Kd.R_base ho0) hb); replace HO340 := Aside0.mk (Kd.R_elder' (by (with_reducible repeat (first | apply Kd.R_alloc | apply Kd.R_drewN | apply Kd.R_drew)); exact (Kd.R_mono (Kd.R_far (p := ⟨gb350, 3, none⟩) (Kd.R_far (p := ⟨gb350, 2, none⟩) (Kd.R_far (p := ⟨gb350, 1, none⟩) (Kd.R_far (p := ⟨gb350, 0, none⟩) (Kd.R_types HO340.out BK350.out (by decide)) (fun _ hk => hk.2) (.slice Ao30 t342.length co30)) (fun _ hk => hk.2) (.bool t345)) (fun _ hk => hk.2) (.int .i64 t346)) (fun _ hk => hk.2) (.slice Ao33 t347.length co33)) (fun _ h_ => h_.1))) (Kd.R_base ho0) hb); replace HO344 := Aside0.mk (Kd.R_elder' (by (with_reducible repeat (first | apply Kd.R_alloc | apply Kd.R_drewN | apply Kd.R_drew)); exact (Kd.R_mono (Kd.R_far (p := ⟨gb350, 3, none⟩) (Kd.R_far (p := ⟨gb350, 2, none⟩) (Kd.R_far (p := ⟨gb350, 1, none⟩) (Kd.R_far (p := ⟨gb350, 0, none⟩) (Kd.R_types HO344.out BK350.out (by decide)) (fun _ hk => hk.2) (.slice Ao30 t342.length co30)) (fun _ hk => hk.2) (.bool t345)) (fun _ hk => hk.2) (.int .i64 t346)) (fun _ hk => hk.2) (.slice Ao33 t347.length co33)) (fun _ h_ => h_.1))) (Kd.R_base ho0) hb); replace HO349 := Aside0.mk (Kd.R_elder' (by (with_reducible repeat (first | apply Kd.R_alloc | apply Kd.R_drewN | apply Kd.R_drew)); exact (Kd.R_mono (Kd.R_far (p := ⟨gb350, 3, none⟩) (Kd.R_far (p := ⟨gb350, 2, none⟩) (Kd.R_far (p := ⟨gb350, 1, none⟩) (Kd.R_far (p := ⟨gb350, 0, none⟩) (Kd.R_mono HO349.out (fun k_ hk => (⟨hk, hk.2⟩ : _ ∧ k_ ≠ gb350))) (fun _ hk => hk.2) (.slice Ao30 t342.length co30)) (fun _ hk => hk.2) (.bool t345)) (fun _ hk => hk.2) (.int .i64 t346)) (fun _ hk => hk.2) (.slice Ao33 t347.length co33)) (fun _ h_ => h_.1))) (Kd.R_base ho0) hb); replace BK325 := Aside0.mk (blk_below (g := gb325) (o := .cells #[.slice A0_0 l0_0.length c0_0, .bool a0_1, .int .i64 a0_2, .slice A0_3 l0_3.length c0_3] 25 (0, 0)) (by (with_reducible repeat (first | refine blk_drewN ?_ _ | refine blk_drew ?_ | refine blk_alloc ?_ _)); refine blk_far ?_ NB325_350.out _; (with_reducible repeat (first | refine blk_drewN ?_ _ | refine blk_drew ?_ | refine blk_alloc ?_ _)); refine blk_far ?_ NB325_350.out _; (with_reducible repeat (first | refine blk_drewN ?_ _ | refine blk_drew ?_ | refine blk_alloc ?_ _)); refine blk_far ?_ NB325_350.out _; (with_reducible repeat (first | refine blk_drewN ?_ _ | refine blk_drew ?_ | refine blk_alloc ?_ _)); refine blk_far ?_ NB325_350.out _; (with_reducible repeat (first | refine blk_drewN ?_ _ | refine blk_drew ?_ | refine blk_alloc ?_ _)); exact BK325.out) hb); replace BK350 := Aside0.mk (blk_below (g := gb350) (o := .cells #[.slice Ao30 t342.length co30, .bool t345, .int .i64 t346, .slice Ao33 t347.length co33] 30 (0, 0)) (by (with_reducible repeat (first | refine blk_drewN ?_ _ | refine blk_drew ?_ | refine blk_alloc ?_ _)); refine blk_put (cs := #[.slice Ao30 t342.length co30, .bool t345, .int .i64 t346, .slice none 0 0]) ?_ 3 _ rfl; (with_reducible repeat (first | refine blk_drewN ?_ _ | refine blk_drew ?_ | refine blk_alloc ?_ _)); refine blk_put (cs := #[.slice Ao30 t342.length co30, .bool t345, .int .i64 0, .slice none 0 0]) ?_ 2 _ rfl; (with_reducible repeat (first | refine blk_drewN ?_ _ | refine blk_drew ?_ | refine blk_alloc ?_ _)); refine blk_put (cs := #[.slice Ao30 t342.length co30, .bool false, .int .i64 0, .slice none 0 0]) ?_ 1 _ rfl; (with_reducible repeat (first | refine blk_drewN ?_ _ | refine blk_drew ?_ | refine blk_alloc ?_ _)); refine blk_put (cs := #[.slice none 0 0, .bool false, .int .i64 0, .slice none 0 0]) ?_ 0 _ rfl; (with_reducible repeat (first | refine blk_drewN ?_ _ | refine blk_drew ?_ | refine blk_alloc ?_ _)); exact BK350.out) hb); replace HB := Aside0.mk (below_step bel hb); (try clear hb); (try clear hb2); (try clear hk); (try clear hi); (try clear ho0); obtain ⟨hcz35_0, hcz35_1, hcz35_2, hcz35_3, -⟩ := cells_4 BK350.out trivial; obtain ⟨hfz35_0, hfz35_1, hfz35_2, hfz35_3, -⟩ := frz_4 BK350.out; obtain ⟨Ao36, co36, eo36⟩ := Kd.R_slice HO353.out; subst eo36) | ((with_reducible refine gate_callee (f := 28) rfl ?_); refine gl_ (some 40) Try.func28 #[.agg #[.slice Ao30 t342.length co30, .bool t345, .int .i64 t346, .slice Ao33 t347.length co33], .slice Ao36 t351.length co36] (h := ?_); (with_reducible refine (impl_TreeLongest.calls k _ _ t342 t345 t346 _ _ t347 _ _ t351 t354 t357 _ ?side1 ?side2 ?side3 ?side4 ?side5 ?side6 A15.out).mono ?_); (case side1 => repeat (first | exact (Kd.R_reads' HO344.out).2.2 | (with_reducible refine Kd.C_alloc ?_ _) | (with_reducible refine Kd.C_drewN ?_ _) | (with_reducible refine Kd.C_drew ?_))); (case side2 => exact (Kd.R_reads' HO344.out).2.1); (case side3 => repeat (first | exact (Kd.R_reads' HO349.out).2.2 | (with_reducible refine Kd.C_alloc ?_ _) | (with_reducible refine Kd.C_drewN ?_ _) | (with_reducible refine Kd.C_drew ?_))); (case side4 => exact (Kd.R_reads' HO349.out).2.1); (case side5 => repeat (first | exact (Kd.R_reads' HO353.out).2.2 | (with_reducible refine Kd.C_alloc ?_ _) | (with_reducible refine Kd.C_drewN ?_ _) | (with_reducible refine Kd.C_drew ?_))); (case side6 => exact (Kd.R_reads' HO353.out).2.1); rintro e w37 ⟨v355, rfl, ho0, hb⟩; refine ⟨_, rfl, ?_⟩; have HO356 := Aside0.mk (Kd.R_lower (Kd.R_new' (Kd.R_new' (Kd.R_new' (Kd.R_new' (Kd.R_new' ho0 (Kd.R_lt (by (with_reducible repeat (first | apply Kd.R_alloc | apply Kd.R_drewN | apply Kd.R_drew)); exact HO329.out))) (Kd.R_lt (by (with_reducible repeat (first | apply Kd.R_alloc | apply Kd.R_drewN | apply Kd.R_drew)); exact HO337.out))) (Kd.R_lt (by (with_reducible repeat (first | apply Kd.R_alloc | apply Kd.R_drewN | apply Kd.R_drew)); exact HO340.out))) (Kd.R_lt (by (with_reducible repeat (first | apply Kd.R_alloc | apply Kd.R_drewN | apply Kd.R_drew)); exact HO344.out))) (Kd.R_lt (by (with_reducible repeat (first | apply Kd.R_alloc | apply Kd.R_drewN | apply Kd.R_drew)); exact HO353.out))) (below_size bel)); replace HO329 := Aside0.mk (Kd.R_elder' (by (with_reducible repeat (first | apply Kd.R_alloc | apply Kd.R_drewN | apply Kd.R_drew)); exact HO329.out) (Kd.R_base ho0) hb); replace HO334 := Aside0.mk (Kd.R_elder' (by (with_reducible repeat (first | apply Kd.R_alloc | apply Kd.R_drewN | apply Kd.R_drew)); exact HO334.out) (Kd.R_base ho0) hb); replace HO337 := Aside0.mk (Kd.R_elder' (by (with_reducible repeat (first | apply Kd.R_alloc | apply Kd.R_drewN | apply Kd.R_drew)); exact HO337.out) (Kd.R_base ho0) hb); replace HO340 := Aside0.mk (Kd.R_elder' (by (with_reducible repeat (first | apply Kd.R_alloc | apply Kd.R_drewN | apply Kd.R_drew)); exact HO340.out) (Kd.R_base ho0) hb); replace HO344 := Aside0.mk (Kd.R_elder' (by (with_reducible repeat (first | apply Kd.R_alloc | apply Kd.R_drewN | apply Kd.R_drew)); exact HO344.out) (Kd.R_base ho0) hb); replace HO349 := Aside0.mk (Kd.R_elder' (by (with_reducible repeat (first | apply Kd.R_alloc | apply Kd.R_drewN | apply Kd.R_drew)); exact HO349.out) (Kd.R_base ho0) hb); replace HO353 := Aside0.mk (Kd.R_elder' (by (with_reducible repeat (first | apply Kd.R_alloc | apply Kd.R_drewN | apply Kd.R_drew)); exact HO353.out) (Kd.R_base ho0) hb); replace BK325 := Aside0.mk (blb BK325 hb); replace BK350 := Aside0.mk (blb BK350 hb); replace HB := Aside0.mk (below_step bel hb); (try clear hb); (try clear hb2); (try clear hk); (try clear hi); (try clear ho0)))
   (try simp only [Act.put, List.setIfInBounds_toArray, List.set_cons_zero, List.set_cons_succ])
   go_cut [51] (fun v51 wc => ∃ (kq : Nat) (x51_15 : Bool), v51 = .bool x51_15 ∧ Aside0 (laws_FnExactTreeLongest.j0 kq l1 t338 t341 t351 t354 t357 x51_15 l0_0 a0_1 a0_2 l0_3 t342 t345 t346 t347 = some r) ∧ Aside0 (kq ≤ k) ∧ Aside0 (Kd.R (Kd.int .u8) 5 wc w.heap.size (fun k_ => some k_ ≠ ((.slice Ao36 t351.length co36) : Value).ownBlock ∧ some k_ ≠ (v355 : Value).ownBlock ∧ some k_ ≠ ((.slice Ao30 t342.length co30) : Value).ownBlock) v339 t338) ∧ Aside0 (Kd.R (Kd.int .u8) 5 wc w.heap.size (fun k_ => some k_ ≠ (v339 : Value).ownBlock ∧ some k_ ≠ (v355 : Value).ownBlock ∧ some k_ ≠ ((.slice Ao30 t342.length co30) : Value).ownBlock) (.slice Ao36 t351.length co36) t351) ∧ Aside0 (Kd.R (Kd.int .u8) 5 wc w.heap.size (fun k_ => some k_ ≠ (v339 : Value).ownBlock ∧ some k_ ≠ ((.slice Ao36 t351.length co36) : Value).ownBlock ∧ some k_ ≠ ((.slice Ao30 t342.length co30) : Value).ownBlock) v355 t354) ∧ Aside0 (Kd.R (Kd.int .u8) 5 wc w.heap.size (fun k_ => some k_ ≠ (v339 : Value).ownBlock ∧ some k_ ≠ ((.slice Ao36 t351.length co36) : Value).ownBlock ∧ some k_ ≠ (v355 : Value).ownBlock) (.slice Ao30 t342.length co30) t342) ∧ Aside0 (Kd.R k30 30 wc w.heap.size (fun k_ => some k_ ≠ (v339 : Value).ownBlock ∧ some k_ ≠ ((.slice Ao36 t351.length co36) : Value).ownBlock ∧ some k_ ≠ (v355 : Value).ownBlock ∧ some k_ ≠ ((.slice Ao30 t342.length co30) : Value).ownBlock ∧ k_ ≠ gb350) (.slice Ao33 t347.length co33) t347) ∧ Aside0 (wc.heap[gb325]? = some (.cells #[(.slice A0_0 l0_0.length c0_0), .bool a0_1, .int .i64 a0_2, (.slice A0_3 l0_3.length c0_3)] 25 (0, 0))) ∧ Aside0 (wc.heap[gb350]? = some (.cells #[(.slice Ao30 t342.length co30), .bool t345, .int .i64 t346, (.slice Ao33 t347.length co33)] 30 (0, 0))) ∧ Aside0 (Below w.heap.size w wc))
   case first =>
    have H := HC16.out
    clear HC16
    replace H := Option.bind_eq_some_iff.mp H
    obtain ⟨t358, A380, H⟩ := H
    replace H : (if t358 = true then (laws_FnExactTreeLongest.j0 k l1 t338 t341 t351 t354 t357 (t357 != t341) l0_0 a0_1 a0_2 l0_3 t342 t345 t346 t347) else (laws_FnExactTreeLongest.j0 k l1 t338 t341 t351 t354 t357 true l0_0 a0_1 a0_2 l0_3 t342 t345 t346 t347)) = some r := H
    have A38 := Aside0.mk A380
    clear A380
    by_cases c39 : t358 = true
    ·subst c39
     have H1 : (laws_FnExactTreeLongest.j0 k l1 t338 t341 t351 t354 t357 (t357 != t341) l0_0 a0_1 a0_2 l0_3 t342 t345 t346 t347) = some r := by rw [if_pos rfl] at H; exact H
     clear H
     have H := H1
     clear H1
     have H' := Aside0.mk H
     clear H
     obtain ⟨Ao40, co40, eo40⟩ := Kd.R_slice HO356.out
     subst eo40
     obtain ⟨Ao41, co41, eo41⟩ := Kd.R_slice HO340.out
     subst eo41
     go_wp2_with (first | ((with_reducible refine gate_callee (f := 25) rfl ?_); refine gl_ (some 45) Try.func25 #[.slice Ao40 t354.length co40, .slice Ao41 t338.length co41] (h := ?_); (with_reducible refine (laws_eqByteS.calls k _ _ t354 _ _ t338 true _ ?side1 ?side2 ?side3 ?side4 A38.out).mono ?_); (case side1 => repeat (first | exact (Kd.R_reads' HO356.out).2.2 | (with_reducible refine Kd.C_alloc ?_ _) | (with_reducible refine Kd.C_drewN ?_ _) | (with_reducible refine Kd.C_drew ?_))); (case side2 => exact (Kd.R_reads' HO356.out).2.1); (case side3 => repeat (first | exact (Kd.R_reads' HO340.out).2.2 | (with_reducible refine Kd.C_alloc ?_ _) | (with_reducible refine Kd.C_drewN ?_ _) | (with_reducible refine Kd.C_drew ?_))); (case side4 => exact (Kd.R_reads' HO340.out).2.1); rintro e w' ⟨rfl, ⟨nd, rfl⟩⟩; refine ⟨_, rfl, ?_⟩))
     go_meet
     case rel => exact ⟨_, ((t357 != t341)), (by first | rfl | (simp; done) | (simp [*]; done)), H', ⟨by first | omega | exact Nat.le_refl _⟩, ⟨by (with_reducible repeat (first | apply Kd.R_alloc | apply Kd.R_drewN | apply Kd.R_drew)); exact Kd.R_mono HO340.out (fun _ hk => ⟨hk.1.2, ⟨hk.2, hk.1.1.2⟩⟩)⟩, ⟨by (with_reducible repeat (first | apply Kd.R_alloc | apply Kd.R_drewN | apply Kd.R_drew)); exact Kd.R_mono HO353.out (fun _ hk => ⟨hk.1.1.2, ⟨hk.2, hk.1.2⟩⟩)⟩, ⟨by (with_reducible repeat (first | apply Kd.R_alloc | apply Kd.R_drewN | apply Kd.R_drew)); exact Kd.R_mono HO356.out (fun _ hk => ⟨hk.1.1.2, ⟨hk.2, hk.1.2⟩⟩)⟩, ⟨by (with_reducible repeat (first | apply Kd.R_alloc | apply Kd.R_drewN | apply Kd.R_drew)); exact Kd.R_mono HO344.out (fun _ hk => ⟨hk.1.1.2, ⟨hk.1.2, hk.2⟩⟩)⟩, ⟨by (with_reducible repeat (first | apply Kd.R_alloc | apply Kd.R_drewN | apply Kd.R_drew)); exact Kd.R_mono HO349.out (fun _ hk => ⟨hk.1.1.1.2, ⟨hk.1.2, ⟨hk.2, ⟨hk.1.1.1.1.1.1.1, hk.1.1.2⟩⟩⟩⟩)⟩, ⟨by (with_reducible repeat (first | refine blk_drewN ?_ _ | refine blk_drew ?_ | refine blk_alloc ?_ _)); exact BK325.out⟩, ⟨by (with_reducible repeat (first | refine blk_drewN ?_ _ | refine blk_drew ?_ | refine blk_alloc ?_ _)); exact BK350.out⟩, ⟨by repeat (first | (with_reducible first | exact HB.out | apply below_alloc | apply pw_below_drewN | apply below_drew1 | refine below_set ?_ GE325.out | refine below_set ?_ GE350.out) | exact HB.out)⟩⟩
    ·replace c39 := Bool.eq_false_iff.mpr c39
     subst c39
     have H1 : (laws_FnExactTreeLongest.j0 k l1 t338 t341 t351 t354 t357 true l0_0 a0_1 a0_2 l0_3 t342 t345 t346 t347) = some r := by rw [if_neg (show ¬ (false = true) by decide)] at H; exact H
     clear H
     have H := H1
     clear H1
     have H' := Aside0.mk H
     clear H
     obtain ⟨Ao42, co42, eo42⟩ := Kd.R_slice HO356.out
     subst eo42
     obtain ⟨Ao43, co43, eo43⟩ := Kd.R_slice HO340.out
     subst eo43
     go_wp2_with (first | ((with_reducible refine gate_callee (f := 25) rfl ?_); refine gl_ (some 45) Try.func25 #[.slice Ao42 t354.length co42, .slice Ao43 t338.length co43] (h := ?_); (with_reducible refine (laws_eqByteS.calls k _ _ t354 _ _ t338 false _ ?side1 ?side2 ?side3 ?side4 A38.out).mono ?_); (case side1 => repeat (first | exact (Kd.R_reads' HO356.out).2.2 | (with_reducible refine Kd.C_alloc ?_ _) | (with_reducible refine Kd.C_drewN ?_ _) | (with_reducible refine Kd.C_drew ?_))); (case side2 => exact (Kd.R_reads' HO356.out).2.1); (case side3 => repeat (first | exact (Kd.R_reads' HO340.out).2.2 | (with_reducible refine Kd.C_alloc ?_ _) | (with_reducible refine Kd.C_drewN ?_ _) | (with_reducible refine Kd.C_drew ?_))); (case side4 => exact (Kd.R_reads' HO340.out).2.1); rintro e w' ⟨rfl, ⟨nd, rfl⟩⟩; refine ⟨_, rfl, ?_⟩))
     go_meet
     case rel => exact ⟨_, (true), (by first | rfl | (simp; done) | (simp [*]; done)), H', ⟨by first | omega | exact Nat.le_refl _⟩, ⟨by (with_reducible repeat (first | apply Kd.R_alloc | apply Kd.R_drewN | apply Kd.R_drew)); exact Kd.R_mono HO340.out (fun _ hk => ⟨hk.1.2, ⟨hk.2, hk.1.1.2⟩⟩)⟩, ⟨by (with_reducible repeat (first | apply Kd.R_alloc | apply Kd.R_drewN | apply Kd.R_drew)); exact Kd.R_mono HO353.out (fun _ hk => ⟨hk.1.1.2, ⟨hk.2, hk.1.2⟩⟩)⟩, ⟨by (with_reducible repeat (first | apply Kd.R_alloc | apply Kd.R_drewN | apply Kd.R_drew)); exact Kd.R_mono HO356.out (fun _ hk => ⟨hk.1.1.2, ⟨hk.2, hk.1.2⟩⟩)⟩, ⟨by (with_reducible repeat (first | apply Kd.R_alloc | apply Kd.R_drewN | apply Kd.R_drew)); exact Kd.R_mono HO344.out (fun _ hk => ⟨hk.1.1.2, ⟨hk.1.2, hk.2⟩⟩)⟩, ⟨by (with_reducible repeat (first | apply Kd.R_alloc | apply Kd.R_drewN | apply Kd.R_drew)); exact Kd.R_mono HO349.out (fun _ hk => ⟨hk.1.1.1.2, ⟨hk.1.2, ⟨hk.2, ⟨hk.1.1.1.1.1.1.1, hk.1.1.2⟩⟩⟩⟩)⟩, ⟨by (with_reducible repeat (first | refine blk_drewN ?_ _ | refine blk_drew ?_ | refine blk_alloc ?_ _)); exact BK325.out⟩, ⟨by (with_reducible repeat (first | refine blk_drewN ?_ _ | refine blk_drew ?_ | refine blk_alloc ?_ _)); exact BK350.out⟩, ⟨by repeat (first | (with_reducible first | exact HB.out | apply below_alloc | apply pw_below_drewN | apply below_drew1 | refine below_set ?_ GE325.out | refine below_set ?_ GE350.out) | exact HB.out)⟩⟩
   case rest =>
    clear HC16
    try clear c1; try clear c2; try clear p2; try clear c3; try clear c3b0; try clear c3b1; try clear c6; try clear c6b0; try clear c8; try clear c15; try clear c17; try clear c23; try clear c25; try clear c28; try clear c31; try clear c36; try clear c39; try clear hcz18_0; try clear hcz18_1; try clear hcz18_2; try clear hcz18_3; try clear hcz20_0; try clear hcz20_1; try clear hcz20_2; try clear hcz20_3; try clear hcz27_0; try clear hcz27_1; try clear hcz27_2; try clear hcz27_3; try clear hcz32_0; try clear hcz32_1; try clear hcz32_2; try clear hcz32_3; try clear hcz35_0; try clear hcz35_1; try clear hcz35_2; try clear hcz35_3; try clear hcz8_0; try clear hcz8_1; try clear hcz8_2; try clear hcz8_3; try clear hfz18_0; try clear hfz18_1; try clear hfz18_2; try clear hfz18_3; try clear hfz20_0; try clear hfz20_1; try clear hfz20_2; try clear hfz20_3; try clear hfz27_0; try clear hfz27_1; try clear hfz27_2; try clear hfz27_3; try clear hfz32_0; try clear hfz32_1; try clear hfz32_2; try clear hfz32_3; try clear hfz35_0; try clear hfz35_1; try clear hfz35_2; try clear hfz35_3; try clear hfz8_0; try clear hfz8_1; try clear hfz8_2; try clear hfz8_3
    obtain ⟨kq, x51_15, rfl, HA, HJ15, HO_6, HO_9, HO_10, HO_351000, HO_351003, BK325, BK350, HB⟩ := hcut
    cases kq with
    | zero => exact absurd HA.out (by simp [laws_FnExactTreeLongest.j0])
    | succ kj15 =>
     have H := HA.out
     clear HA
     simp only [laws_FnExactTreeLongest.j0] at H
     by_cases c44 : x51_15 = true
     ·subst c44
      have H1 : (some false) = some r := by rw [if_pos rfl] at H; exact H
      clear H
      have H := H1
      clear H1
      obtain rfl := Option.some.inj H
      go_wp2
      go_ret
      exact ⟨by first | rfl | (simp [errW_none, errW_some] <;> rfl) | (simp [*, errW_none, errW_some] <;> rfl), by repeat (first | (with_reducible first | exact HB.out | apply below_alloc | apply pw_below_drewN | apply below_drew1 | refine below_set ?_ GE325.out | refine below_set ?_ GE350.out) | exact HB.out)⟩
     ·replace c44 := Bool.eq_false_iff.mpr c44
      subst c44
      have H1 : ((laws_toTree.f kj15 l0_0 a0_1 a0_2 l0_3).bind fun bt359 => ((laws_eqTree.f kj15 t342 t345 t346 t347 bt359.1 bt359.2.1 bt359.2.2.1 bt359.2.2.2).bind fun t367 => (if t367 = true then ((laws_toByteS.f kj15 l1).bind fun t368 => ((laws_eqByteS.f kj15 t351 t368).bind fun t371 => (if t371 = true then ((laws_markTree.f kj15 t342 t345 t346 t347 1).bind fun t372 => ((laws_markByteS.f kj15 t351 t372).bind fun bt373 => (if bt373.1 < 0 then (laws_FnExactTreeLongest.j1 kj15 l1 t338 t341 t354 true l0_0 a0_1 a0_2 l0_3) else ((laws_eqByteS.f kj15 t354 t338).bind fun t375 => (if t375 = true then (laws_FnExactTreeLongest.j1 kj15 l1 t338 t341 t354 (t357 != t341) l0_0 a0_1 a0_2 l0_3) else (laws_FnExactTreeLongest.j1 kj15 l1 t338 t341 t354 true l0_0 a0_1 a0_2 l0_3)))))) else (some false)))) else (some false)))) = some r := by rw [if_neg (show ¬ (false = true) by decide)] at H; exact H
      clear H
      have H := H1
      clear H1
      replace H := Option.bind_eq_some_iff.mp H
      obtain ⟨⟨t359, t362, t363, t364⟩, A450, H⟩ := H
      replace H : ((laws_eqTree.f kj15 t342 t345 t346 t347 t359 t362 t363 t364).bind fun t367 => (if t367 = true then ((laws_toByteS.f kj15 l1).bind fun t368 => ((laws_eqByteS.f kj15 t351 t368).bind fun t371 => (if t371 = true then ((laws_markTree.f kj15 t342 t345 t346 t347 1).bind fun t372 => ((laws_markByteS.f kj15 t351 t372).bind fun bt373 => (if bt373.1 < 0 then (laws_FnExactTreeLongest.j1 kj15 l1 t338 t341 t354 true l0_0 a0_1 a0_2 l0_3) else ((laws_eqByteS.f kj15 t354 t338).bind fun t375 => (if t375 = true then (laws_FnExactTreeLongest.j1 kj15 l1 t338 t341 t354 (t357 != t341) l0_0 a0_1 a0_2 l0_3) else (laws_FnExactTreeLongest.j1 kj15 l1 t338 t341 t354 true l0_0 a0_1 a0_2 l0_3)))))) else (some false)))) else (some false))) = some r := H
      have A45 := Aside0.mk A450
      clear A450
      replace H := Option.bind_eq_some_iff.mp H
      obtain ⟨t367, A460, H⟩ := H
      replace H : (if t367 = true then ((laws_toByteS.f kj15 l1).bind fun t368 => ((laws_eqByteS.f kj15 t351 t368).bind fun t371 => (if t371 = true then ((laws_markTree.f kj15 t342 t345 t346 t347 1).bind fun t372 => ((laws_markByteS.f kj15 t351 t372).bind fun bt373 => (if bt373.1 < 0 then (laws_FnExactTreeLongest.j1 kj15 l1 t338 t341 t354 true l0_0 a0_1 a0_2 l0_3) else ((laws_eqByteS.f kj15 t354 t338).bind fun t375 => (if t375 = true then (laws_FnExactTreeLongest.j1 kj15 l1 t338 t341 t354 (t357 != t341) l0_0 a0_1 a0_2 l0_3) else (laws_FnExactTreeLongest.j1 kj15 l1 t338 t341 t354 true l0_0 a0_1 a0_2 l0_3)))))) else (some false)))) else (some false)) = some r := H
      have A46 := Aside0.mk A460
      clear A460
      by_cases c47 : t367 = true
      ·subst c47
       have H1 : ((laws_toByteS.f kj15 l1).bind fun t368 => ((laws_eqByteS.f kj15 t351 t368).bind fun t371 => (if t371 = true then ((laws_markTree.f kj15 t342 t345 t346 t347 1).bind fun t372 => ((laws_markByteS.f kj15 t351 t372).bind fun bt373 => (if bt373.1 < 0 then (laws_FnExactTreeLongest.j1 kj15 l1 t338 t341 t354 true l0_0 a0_1 a0_2 l0_3) else ((laws_eqByteS.f kj15 t354 t338).bind fun t375 => (if t375 = true then (laws_FnExactTreeLongest.j1 kj15 l1 t338 t341 t354 (t357 != t341) l0_0 a0_1 a0_2 l0_3) else (laws_FnExactTreeLongest.j1 kj15 l1 t338 t341 t354 true l0_0 a0_1 a0_2 l0_3)))))) else (some false)))) = some r := by rw [if_pos rfl] at H; exact H
       clear H
       have H := H1
       clear H1
       replace H := Option.bind_eq_some_iff.mp H
       obtain ⟨t368, A480, H⟩ := H
       replace H : ((laws_eqByteS.f kj15 t351 t368).bind fun t371 => (if t371 = true then ((laws_markTree.f kj15 t342 t345 t346 t347 1).bind fun t372 => ((laws_markByteS.f kj15 t351 t372).bind fun bt373 => (if bt373.1 < 0 then (laws_FnExactTreeLongest.j1 kj15 l1 t338 t341 t354 true l0_0 a0_1 a0_2 l0_3) else ((laws_eqByteS.f kj15 t354 t338).bind fun t375 => (if t375 = true then (laws_FnExactTreeLongest.j1 kj15 l1 t338 t341 t354 (t357 != t341) l0_0 a0_1 a0_2 l0_3) else (laws_FnExactTreeLongest.j1 kj15 l1 t338 t341 t354 true l0_0 a0_1 a0_2 l0_3)))))) else (some false))) = some r := H
       have A48 := Aside0.mk A480
       clear A480
       replace H := Option.bind_eq_some_iff.mp H
       obtain ⟨t371, A490, H⟩ := H
       replace H : (if t371 = true then ((laws_markTree.f kj15 t342 t345 t346 t347 1).bind fun t372 => ((laws_markByteS.f kj15 t351 t372).bind fun bt373 => (if bt373.1 < 0 then (laws_FnExactTreeLongest.j1 kj15 l1 t338 t341 t354 true l0_0 a0_1 a0_2 l0_3) else ((laws_eqByteS.f kj15 t354 t338).bind fun t375 => (if t375 = true then (laws_FnExactTreeLongest.j1 kj15 l1 t338 t341 t354 (t357 != t341) l0_0 a0_1 a0_2 l0_3) else (laws_FnExactTreeLongest.j1 kj15 l1 t338 t341 t354 true l0_0 a0_1 a0_2 l0_3)))))) else (some false)) = some r := H
       have A49 := Aside0.mk A490
       clear A490
       by_cases c50 : t371 = true
       ·subst c50
        have H1 : ((laws_markTree.f kj15 t342 t345 t346 t347 1).bind fun t372 => ((laws_markByteS.f kj15 t351 t372).bind fun bt373 => (if bt373.1 < 0 then (laws_FnExactTreeLongest.j1 kj15 l1 t338 t341 t354 true l0_0 a0_1 a0_2 l0_3) else ((laws_eqByteS.f kj15 t354 t338).bind fun t375 => (if t375 = true then (laws_FnExactTreeLongest.j1 kj15 l1 t338 t341 t354 (t357 != t341) l0_0 a0_1 a0_2 l0_3) else (laws_FnExactTreeLongest.j1 kj15 l1 t338 t341 t354 true l0_0 a0_1 a0_2 l0_3)))))) = some r := by rw [if_pos rfl] at H; exact H
        clear H
        have H := H1
        clear H1
        replace H := Option.bind_eq_some_iff.mp H
        obtain ⟨t372, A510, H⟩ := H
        replace H : ((laws_markByteS.f kj15 t351 t372).bind fun bt373 => (if bt373.1 < 0 then (laws_FnExactTreeLongest.j1 kj15 l1 t338 t341 t354 true l0_0 a0_1 a0_2 l0_3) else ((laws_eqByteS.f kj15 t354 t338).bind fun t375 => (if t375 = true then (laws_FnExactTreeLongest.j1 kj15 l1 t338 t341 t354 (t357 != t341) l0_0 a0_1 a0_2 l0_3) else (laws_FnExactTreeLongest.j1 kj15 l1 t338 t341 t354 true l0_0 a0_1 a0_2 l0_3))))) = some r := H
        have A51 := Aside0.mk A510
        clear A510
        replace H := Option.bind_eq_some_iff.mp H
        obtain ⟨⟨t373, t374⟩, A520, H⟩ := H
        replace H : (if t373 < 0 then (laws_FnExactTreeLongest.j1 kj15 l1 t338 t341 t354 true l0_0 a0_1 a0_2 l0_3) else ((laws_eqByteS.f kj15 t354 t338).bind fun t375 => (if t375 = true then (laws_FnExactTreeLongest.j1 kj15 l1 t338 t341 t354 (t357 != t341) l0_0 a0_1 a0_2 l0_3) else (laws_FnExactTreeLongest.j1 kj15 l1 t338 t341 t354 true l0_0 a0_1 a0_2 l0_3)))) = some r := H
        have A52 := Aside0.mk A520
        clear A520
        have HC53 := Aside0.mk H
        clear H
        try go_wp2
        replace HO_6 := Aside0.mk (Kd.R_drew HO_6.out)
        replace HO_9 := Aside0.mk (Kd.R_drew HO_9.out)
        replace HO_10 := Aside0.mk (Kd.R_drew HO_10.out)
        replace HO_351000 := Aside0.mk (Kd.R_drew HO_351000.out)
        replace HO_351003 := Aside0.mk (Kd.R_drew HO_351003.out)
        replace BK325 := Aside0.mk (blk_drew BK325.out)
        replace BK350 := Aside0.mk (blk_drew BK350.out)
        replace HB := Aside0.mk (below_drew1 HB.out)
        refine start_ (n := 5) (S := fun w' => w'.cell? ⟨gb350, 0, none⟩ = some (.slice Ao30 t342.length co30) ∧ w'.cell? ⟨gb350, 1, none⟩ = some (.bool t345) ∧ w'.cell? ⟨gb350, 2, none⟩ = some (.int .i64 t346) ∧ w'.cell? ⟨gb350, 3, none⟩ = some (.slice Ao33 t347.length co33) ∧ w'.cell? ⟨gb325, 0, none⟩ = some (.slice A0_0 l0_0.length c0_0) ∧ w'.cell? ⟨gb325, 1, none⟩ = some (.bool a0_1) ∧ w'.cell? ⟨gb325, 2, none⟩ = some (.int .i64 a0_2) ∧ w'.cell? ⟨gb325, 3, none⟩ = some (.slice A0_3 l0_3.length c0_3)) (ds := []) #[false, false, false, false, false] (by kernel_rfl) rfl rfl (cells_4 BK350.out ⟨(blk_cell BK325.out 0).trans rfl, (blk_cell BK325.out 1).trans rfl, (blk_cell BK325.out 2).trans rfl, (blk_cell BK325.out 3).trans rfl⟩) (fun hHeld => ?_)
        generalize wc.drew = w54 at HO_6 HO_9 HO_10 HO_351000 HO_351003 BK325 BK350 HB hHeld ⊢
        refine take_ (i := 0) (N := some 52) (v := ?_) (a' := ?_) #[true, false, false, false, false] rfl rfl (by kernel_rfl) (fun _ _ _ h => h) (Or.inl ⟨by rfl, ?_⟩) hHeld ?_ ?_
        rotate_left
        ·rintro w' ⟨s0, s1, s2, s3, s4, s5, s6, s7⟩
         go_simp
         with_reducible rfl
        rotate_left
        ·simp only [Act.put, List.setIfInBounds_toArray, List.set_cons_zero, List.set_cons_succ, i64_w, i32_w]
         rfl
        refine take_ (i := 1) (N := some 53) (v := ?_) (a' := ?_) #[true, true, false, false, false] rfl rfl (by kernel_rfl) (fun _ _ _ h => h) (Or.inl ⟨by rfl, ?_⟩) hHeld ?_ ?_
        rotate_left
        ·rintro w' ⟨s0, s1, s2, s3, s4, s5, s6, s7⟩
         go_simp
         with_reducible rfl
        rotate_left
        ·simp only [Act.put, List.setIfInBounds_toArray, List.set_cons_zero, List.set_cons_succ, i64_w, i32_w]
         rfl
        refine one_ (i := 2) (N := some 54) #[true, true, true, false, false] rfl rfl (by kernel_rfl) (by decide) (fun K hK => ?_)
        refine gs_ Try.func17 #[.agg #[.slice A0_0 l0_0.length c0_0, .bool a0_1, .int .i64 a0_2, .slice A0_3 l0_3.length c0_3]] (h := ?_)
        with_reducible refine (laws_toTree.calls kj15 _ _ l0_0 a0_1 a0_2 _ _ l0_3 t359 t362 t363 t364 _ ?side1 ?side2 ?side3 ?side4 A45.out).mono ?_
        (case side1 => exact kcb)
        (case side2 => exact HC0_0.out)
        (case side3 => exact kcb)
        (case side4 => exact HC0_3.out)
        rintro e w55 ⟨v360, v365, rfl, ho0, ho1, hb⟩
        refine ⟨_, rfl, ?_⟩
        have HO361 := Aside0.mk (Kd.R_lower (Kd.R_new' (Kd.R_new' (Kd.R_new' (Kd.R_new' ho0 (Kd.R_lt (by (with_reducible repeat (first | apply Kd.R_alloc | apply Kd.R_drewN | apply Kd.R_drew)); exact HO_6.out))) (Kd.R_lt (by (with_reducible repeat (first | apply Kd.R_alloc | apply Kd.R_drewN | apply Kd.R_drew)); exact HO_9.out))) (Kd.R_lt (by (with_reducible repeat (first | apply Kd.R_alloc | apply Kd.R_drewN | apply Kd.R_drew)); exact HO_10.out))) (Kd.R_lt (by (with_reducible repeat (first | apply Kd.R_alloc | apply Kd.R_drewN | apply Kd.R_drew)); exact HO_351000.out))) (below_size bel))
        have HO366 := Aside0.mk (Kd.R_lower (Kd.R_newB (Kd.R_new' (Kd.R_new' (Kd.R_new' (Kd.R_new' (Kd.R_new' ho1 (Kd.R_lt (by (with_reducible repeat (first | apply Kd.R_alloc | apply Kd.R_drewN | apply Kd.R_drew)); exact HO_6.out))) (Kd.R_lt (by (with_reducible repeat (first | apply Kd.R_alloc | apply Kd.R_drewN | apply Kd.R_drew)); exact HO_9.out))) (Kd.R_lt (by (with_reducible repeat (first | apply Kd.R_alloc | apply Kd.R_drewN | apply Kd.R_drew)); exact HO_10.out))) (Kd.R_lt (by (with_reducible repeat (first | apply Kd.R_alloc | apply Kd.R_drewN | apply Kd.R_drew)); exact HO_351000.out))) (Kd.R_lt (by (with_reducible repeat (first | apply Kd.R_alloc | apply Kd.R_drewN | apply Kd.R_drew)); exact HO_351003.out))) (g := gb350) (o := .cells #[.slice Ao30 t342.length co30, .bool t345, .int .i64 t346, .slice Ao33 t347.length co33] 30 (0, 0)) (by (with_reducible repeat (first | refine blk_drewN ?_ _ | refine blk_drew ?_ | refine blk_alloc ?_ _)); exact BK350.out)) (below_size bel))
        replace HO_6 := Aside0.mk (Kd.R_elder' (by (with_reducible repeat (first | apply Kd.R_alloc | apply Kd.R_drewN | apply Kd.R_drew)); exact HO_6.out) (Kd.R_base ho0) hb)
        replace HO_9 := Aside0.mk (Kd.R_elder' (by (with_reducible repeat (first | apply Kd.R_alloc | apply Kd.R_drewN | apply Kd.R_drew)); exact HO_9.out) (Kd.R_base ho0) hb)
        replace HO_10 := Aside0.mk (Kd.R_elder' (by (with_reducible repeat (first | apply Kd.R_alloc | apply Kd.R_drewN | apply Kd.R_drew)); exact HO_10.out) (Kd.R_base ho0) hb)
        replace HO_351000 := Aside0.mk (Kd.R_elder' (by (with_reducible repeat (first | apply Kd.R_alloc | apply Kd.R_drewN | apply Kd.R_drew)); exact HO_351000.out) (Kd.R_base ho0) hb)
        replace HO_351003 := Aside0.mk (Kd.R_mono (Kd.R_told (Kd.R_told (Kd.R_old (by (with_reducible repeat (first | apply Kd.R_alloc | apply Kd.R_drewN | apply Kd.R_drew)); exact HO_351003.out) hb) (Kd.R_base ho0)) (Kd.R_base ho1)) (fun _ h_ => h_.1))
        replace BK325 := Aside0.mk (blb BK325 hb)
        replace BK350 := Aside0.mk (blb BK350 hb)
        replace HB := Aside0.mk (below_step bel hb)
        (try clear hb)
        (try clear hb2)
        (try clear hk)
        (try clear hi)
        (try clear ho0)
        (try clear ho1)
        obtain ⟨Ao56, co56, eo56⟩ := Kd.R_slice HO361.out
        (first | subst eo56 | (injection eo56 with f1_ f2_ f3_; have f4_ := f1_.symm; have f5_ := f3_.symm; clear f1_ f2_ f3_; subst f4_; subst f5_))
        obtain ⟨Ao57, co57, eo57⟩ := Kd.R_slice HO366.out
        (first | subst eo57 | (injection eo57 with f1_ f2_ f3_; have f4_ := f1_.symm; have f5_ := f3_.symm; clear f1_ f2_ f3_; subst f4_; subst f5_))
        refine hK.out _ _ (cells_4 BK350.out ⟨(blk_cell BK325.out 0).trans rfl, (blk_cell BK325.out 1).trans rfl, (blk_cell BK325.out 2).trans rfl, (blk_cell BK325.out 3).trans rfl⟩) (fun hHeld => ?_)
        clear hK K
        refine norm_ (a' := ?_) ?_ ?_
        rotate_left
        ·show Act.put _ (some 54) _ = _
         simp only [Act.put, List.setIfInBounds_toArray, List.set_cons_zero, List.set_cons_succ, i64_w, i32_w]
         rfl
        refine one_ (i := 3) (N := some 55) #[true, true, true, true, false] rfl rfl (by kernel_rfl) (by decide) (fun K hK => ?_)
        refine gs_ Try.func19 #[.agg #[.slice Ao30 t342.length co30, .bool t345, .int .i64 t346, .slice Ao33 t347.length co33], .agg #[.slice Ao56 t359.length co56, .bool t362, .int .i64 t363, .slice Ao57 t364.length co57]] (h := ?_)
        with_reducible refine (laws_eqTree.calls kj15 _ _ t342 t345 t346 _ _ t347 _ _ t359 t362 t363 _ _ t364 true _ ?side1 ?side2 ?side3 ?side4 ?side5 ?side6 ?side7 ?side8 A46.out).mono ?_
        (case side1 => repeat (first | exact (Kd.R_reads' HO_351000.out).2.2 | (with_reducible refine Kd.C_alloc ?_ _) | (with_reducible refine Kd.C_drewN ?_ _) | (with_reducible refine Kd.C_drew ?_)))
        (case side2 => exact (Kd.R_reads' HO_351000.out).2.1)
        (case side3 => repeat (first | exact (Kd.R_reads' HO_351003.out).2.2 | (with_reducible refine Kd.C_alloc ?_ _) | (with_reducible refine Kd.C_drewN ?_ _) | (with_reducible refine Kd.C_drew ?_)))
        (case side4 => exact (Kd.R_reads' HO_351003.out).2.1)
        (case side5 => repeat (first | exact (Kd.R_reads' HO361.out).2.2 | (with_reducible refine Kd.C_alloc ?_ _) | (with_reducible refine Kd.C_drewN ?_ _) | (with_reducible refine Kd.C_drew ?_)))
        (case side6 => exact (Kd.R_reads' HO361.out).2.1)
        (case side7 => repeat (first | exact (Kd.R_reads' HO366.out).2.2 | (with_reducible refine Kd.C_alloc ?_ _) | (with_reducible refine Kd.C_drewN ?_ _) | (with_reducible refine Kd.C_drew ?_)))
        (case side8 => exact (Kd.R_reads' HO366.out).2.1)
        rintro e w58 ⟨rfl, hb⟩
        refine ⟨_, rfl, ?_⟩
        replace HO_6 := Aside0.mk (rbl HO_6 hb)
        replace HO_9 := Aside0.mk (rbl HO_9 hb)
        replace HO_10 := Aside0.mk (rbl HO_10 hb)
        replace HO_351000 := Aside0.mk (rbl HO_351000 hb)
        replace HO_351003 := Aside0.mk (rbl HO_351003 hb)
        replace HO361 := Aside0.mk (rbl HO361 hb)
        replace HO366 := Aside0.mk (rbl HO366 hb)
        replace BK325 := Aside0.mk (blb BK325 hb)
        replace BK350 := Aside0.mk (blb BK350 hb)
        replace HB := Aside0.mk (below_step bel hb)
        (try clear hb)
        (try clear hb2)
        (try clear hk)
        (try clear hi)
        refine hK.out _ _ (cells_4 BK350.out ⟨(blk_cell BK325.out 0).trans rfl, (blk_cell BK325.out 1).trans rfl, (blk_cell BK325.out 2).trans rfl, (blk_cell BK325.out 3).trans rfl⟩) (fun hHeld => ?_)
        clear hK K
        refine norm_ (a' := ?_) ?_ ?_
        rotate_left
        ·show Act.put _ (some 55) _ = _
         simp only [Act.put, List.setIfInBounds_toArray, List.set_cons_zero, List.set_cons_succ, i64_w, i32_w]
         rfl
        refine pure_ (i := 4) (N := some 56) (v := ?_) (a' := ?_) #[true, true, true, true, true] rfl rfl (by kernel_rfl) (fun _ _ _ h => h) (Or.inl ⟨by rfl, ?_⟩) ?_ ?_
        rotate_left
        ·intro w'
         go_simp
         with_reducible rfl
        rotate_left
        ·simp only [Act.put, List.setIfInBounds_toArray, List.set_cons_zero, List.set_cons_succ, i64_w, i32_w]
         rfl
        refine done_ (by kernel_rfl) ?_
        go_upto_region 20 with (first | ((with_reducible refine gate_callee (f := 23) rfl ?_); refine gl_ (some 59) Try.func23 #[.slice A1 l1.length c1] (h := ?_); (with_reducible refine (laws_toByteS.calls kj15 _ _ l1 t368 _ ?side1 ?side2 A48.out).mono ?_); (case side1 => exact kcb); (case side2 => exact HC1.out); rintro e w59 ⟨v369, rfl, ho0, hb⟩; refine ⟨_, rfl, ?_⟩; have HO370 := Aside0.mk (Kd.R_lower (Kd.R_new' (Kd.R_new' (Kd.R_new' (Kd.R_new' (Kd.R_new' ho0 (Kd.R_lt (by (with_reducible repeat (first | apply Kd.R_alloc | apply Kd.R_drewN | apply Kd.R_drew)); exact HO_6.out))) (Kd.R_lt (by (with_reducible repeat (first | apply Kd.R_alloc | apply Kd.R_drewN | apply Kd.R_drew)); exact HO_9.out))) (Kd.R_lt (by (with_reducible repeat (first | apply Kd.R_alloc | apply Kd.R_drewN | apply Kd.R_drew)); exact HO_10.out))) (Kd.R_lt (by (with_reducible repeat (first | apply Kd.R_alloc | apply Kd.R_drewN | apply Kd.R_drew)); exact HO_351000.out))) (Kd.R_lt (by (with_reducible repeat (first | apply Kd.R_alloc | apply Kd.R_drewN | apply Kd.R_drew)); exact HO361.out))) (below_size bel)); replace HO_6 := Aside0.mk (Kd.R_elder' (by (with_reducible repeat (first | apply Kd.R_alloc | apply Kd.R_drewN | apply Kd.R_drew)); exact HO_6.out) (Kd.R_base ho0) hb); replace HO_9 := Aside0.mk (Kd.R_elder' (by (with_reducible repeat (first | apply Kd.R_alloc | apply Kd.R_drewN | apply Kd.R_drew)); exact HO_9.out) (Kd.R_base ho0) hb); replace HO_10 := Aside0.mk (Kd.R_elder' (by (with_reducible repeat (first | apply Kd.R_alloc | apply Kd.R_drewN | apply Kd.R_drew)); exact HO_10.out) (Kd.R_base ho0) hb); replace HO_351000 := Aside0.mk (Kd.R_elder' (by (with_reducible repeat (first | apply Kd.R_alloc | apply Kd.R_drewN | apply Kd.R_drew)); exact HO_351000.out) (Kd.R_base ho0) hb); replace HO_351003 := Aside0.mk (Kd.R_elder' (by (with_reducible repeat (first | apply Kd.R_alloc | apply Kd.R_drewN | apply Kd.R_drew)); exact HO_351003.out) (Kd.R_base ho0) hb); replace HO361 := Aside0.mk (Kd.R_elder' (by (with_reducible repeat (first | apply Kd.R_alloc | apply Kd.R_drewN | apply Kd.R_drew)); exact HO361.out) (Kd.R_base ho0) hb); replace HO366 := Aside0.mk (Kd.R_elder' (by (with_reducible repeat (first | apply Kd.R_alloc | apply Kd.R_drewN | apply Kd.R_drew)); exact HO366.out) (Kd.R_base ho0) hb); replace BK325 := Aside0.mk (blb BK325 hb); replace BK350 := Aside0.mk (blb BK350 hb); replace HB := Aside0.mk (below_step bel hb); (try clear hb); (try clear hb2); (try clear hk); (try clear hi); (try clear ho0); obtain ⟨Ao60, co60, eo60⟩ := Kd.R_slice HO370.out; subst eo60) | ((with_reducible refine gate_callee (f := 25) rfl ?_); refine gl_ (some 60) Try.func25 #[.slice Ao36 t351.length co36, .slice Ao60 t368.length co60] (h := ?_); (with_reducible refine (laws_eqByteS.calls kj15 _ _ t351 _ _ t368 true _ ?side1 ?side2 ?side3 ?side4 A49.out).mono ?_); (case side1 => repeat (first | exact (Kd.R_reads' HO_9.out).2.2 | (with_reducible refine Kd.C_alloc ?_ _) | (with_reducible refine Kd.C_drewN ?_ _) | (with_reducible refine Kd.C_drew ?_))); (case side2 => exact (Kd.R_reads' HO_9.out).2.1); (case side3 => repeat (first | exact (Kd.R_reads' HO370.out).2.2 | (with_reducible refine Kd.C_alloc ?_ _) | (with_reducible refine Kd.C_drewN ?_ _) | (with_reducible refine Kd.C_drew ?_))); (case side4 => exact (Kd.R_reads' HO370.out).2.1); rintro e w' ⟨rfl, ⟨nd, rfl⟩⟩; refine ⟨_, rfl, ?_⟩; have hnb61 := NB350_325.out; have hnc61 := NB325_350.out; obtain ⟨hcz62_0, hcz62_1, hcz62_2, hcz62_3, -⟩ := cells_4 BK350.out trivial; obtain ⟨hfz62_0, hfz62_1, hfz62_2, hfz62_3, -⟩ := frz_4 BK350.out) | ((with_reducible refine gate_callee (f := 33) rfl ?_); refine gl_ (some 64) Try.func33 #[.agg #[.slice Ao30 t342.length co30, .bool t345, .int .i64 t346, .slice Ao33 t347.length co33], .int .i64 1] (h := ?_); (with_reducible refine (laws_markTree.calls kj15 (fun k_ => some k_ = (.slice Ao30 t342.length co30 : Value).ownBlock) (.slice Ao30 t342.length co30) t342 t345 t346 (fun k_ => (((((some k_ ≠ (v339 : Value).ownBlock ∧ (some k_ ≠ (.slice Ao36 t351.length co36 : Value).ownBlock ∧ (some k_ ≠ (v355 : Value).ownBlock ∧ (some k_ ≠ (.slice Ao30 t342.length co30 : Value).ownBlock ∧ k_ ≠ gb350)))) ∧ some k_ ≠ (.slice Ao56 t359.length co56 : Value).ownBlock) ∧ some k_ ≠ (.slice Ao57 t364.length co57 : Value).ownBlock) ∧ some k_ ≠ (.slice Ao60 t368.length co60 : Value).ownBlock)) ∧ k_ ≠ gb325) (.slice Ao33 t347.length co33) t347 1 t372 w _ ?side1 ?side2 ?side3 A51.out).mono ?_); (case side1 => repeat (first | (with_reducible first | exact HB.out | apply below_alloc | apply pw_below_drewN | apply below_drew1 | refine below_set ?_ GE325.out | refine below_set ?_ GE350.out) | exact HB.out)); (case side2 => exact Kd.R_tight rfl HO_351000.out); (case side3 => (with_reducible repeat (first | apply Kd.R_alloc | apply Kd.R_drewN | apply Kd.R_drew)); exact (Kd.R_types HO_351003.out BK325.out (by decide))); rintro e w63 ⟨rfl, hb, hkp⟩; refine ⟨_, rfl, ?_⟩; have n0_ := Aside0.mk (Kd.R_mono (ok' := fun k_ => some k_ ≠ (.slice Ao36 t351.length co36 : Value).ownBlock ∧ some k_ ≠ (v355 : Value).ownBlock ∧ some k_ ≠ (.slice Ao56 t359.length co56 : Value).ownBlock ∧ some k_ ≠ (.slice Ao60 t368.length co60 : Value).ownBlock) (Kd.R_keptB ((Kd.R_tight2 rfl HO_6.out)) hkp (fun k_ hk_ hs_ => Or.elim hs_ (fun e_ => (hk_.2.1.1.2.2) e_) (fun e_ => (fun p_ => (p_.1.1.1.1.1) hk_.1) e_))) (fun k_ hk_ => ⟨hk_.1.2.1.1.1, hk_.1.2.1.1.2.1, hk_.1.2.1.2, hk_.1.2.2⟩)); have n1_ := Aside0.mk (Kd.R_mono (ok' := fun k_ => some k_ ≠ (v339 : Value).ownBlock ∧ some k_ ≠ (v355 : Value).ownBlock ∧ some k_ ≠ (.slice Ao56 t359.length co56 : Value).ownBlock ∧ some k_ ≠ (.slice Ao60 t368.length co60 : Value).ownBlock) (Kd.R_keptB ((Kd.R_tight2 rfl HO_9.out)) hkp (fun k_ hk_ hs_ => Or.elim hs_ (fun e_ => (hk_.2.1.1.2.2) e_) (fun e_ => (fun p_ => (p_.1.1.1.1.2.1) hk_.1) e_))) (fun k_ hk_ => ⟨hk_.1.2.1.1.1, hk_.1.2.1.1.2.1, hk_.1.2.1.2, hk_.1.2.2⟩)); have n2_ := Aside0.mk (Kd.R_mono (ok' := fun k_ => some k_ ≠ (v339 : Value).ownBlock ∧ some k_ ≠ (.slice Ao36 t351.length co36 : Value).ownBlock ∧ some k_ ≠ (.slice Ao56 t359.length co56 : Value).ownBlock ∧ some k_ ≠ (.slice Ao60 t368.length co60 : Value).ownBlock) (Kd.R_keptB ((Kd.R_tight2 rfl HO_10.out)) hkp (fun k_ hk_ hs_ => Or.elim hs_ (fun e_ => (hk_.2.1.1.2.2) e_) (fun e_ => (fun p_ => (p_.1.1.1.1.2.2.1) hk_.1) e_))) (fun k_ hk_ => ⟨hk_.1.2.1.1.1, hk_.1.2.1.1.2.1, hk_.1.2.1.2, hk_.1.2.2⟩)); have n3_ := Aside0.mk (blk_kept (by (with_reducible repeat (first | refine blk_drewN ?_ _ | refine blk_drew ?_ | refine blk_alloc ?_ _)); exact BK325.out) hkp (fun hs_ => Or.elim hs_ (fun e_ => (fun e_ => (Kd.R_ne HO_351000.out BK325.out (by decide)) e_) e_) (fun e_ => (fun p_ => (p_.2) rfl) e_))); have n4_ := Aside0.mk (blk_kept (by (with_reducible repeat (first | refine blk_drewN ?_ _ | refine blk_drew ?_ | refine blk_alloc ?_ _)); exact BK350.out) hkp (fun hs_ => Or.elim hs_ (fun e_ => (fun e_ => (Kd.R_ne HO_351000.out BK350.out (by decide)) e_) e_) (fun e_ => (fun p_ => (p_.1.1.1.1.2.2.2.2) rfl) e_))); have n5_ := Aside0.mk (Kd.R_mono (ok' := fun k_ => some k_ ≠ (v339 : Value).ownBlock ∧ some k_ ≠ (.slice Ao36 t351.length co36 : Value).ownBlock ∧ some k_ ≠ (v355 : Value).ownBlock ∧ some k_ ≠ (.slice Ao60 t368.length co60 : Value).ownBlock) (Kd.R_keptB ((Kd.R_tight2 rfl HO361.out)) hkp (fun k_ hk_ hs_ => Or.elim hs_ (fun e_ => (hk_.2.1.2) e_) (fun e_ => (fun p_ => (p_.1.1.1.2) hk_.1) e_))) (fun k_ hk_ => ⟨hk_.1.2.1.1.1.1.2, hk_.1.2.1.1.1.2, hk_.1.2.1.1.2, hk_.1.2.2⟩)); have n6_ := Aside0.mk (Kd.R_mono (ok' := fun k_ => some k_ ≠ (v339 : Value).ownBlock ∧ some k_ ≠ (.slice Ao36 t351.length co36 : Value).ownBlock ∧ some k_ ≠ (v355 : Value).ownBlock ∧ some k_ ≠ (.slice Ao56 t359.length co56 : Value).ownBlock) (Kd.R_keptB ((Kd.R_tight2 rfl HO370.out)) hkp (fun k_ hk_ hs_ => Or.elim hs_ (fun e_ => (hk_.2.1.2) e_) (fun e_ => (fun p_ => (p_.1.2) hk_.1) e_))) (fun k_ hk_ => ⟨hk_.1.2.1.1.1.1.2, hk_.1.2.1.1.1.2, hk_.1.2.1.1.2, hk_.1.2.2⟩)); have n7_ := Aside0.mk (hb); clear HO_6; clear HO_9; clear HO_10; clear BK325; clear BK350; clear HO361; clear HO370; clear HB; clear HO366; clear HO_351000; clear HO_351003; have HO_6 := n0_; have HO_9 := n1_; have HO_10 := n2_; have BK325 := n3_; have BK350 := n4_; have HO361 := n5_; have HO370 := n6_; have HB := n7_; clear n0_ n1_ n2_ n3_ n4_ n5_ n6_ n7_; (try clear hb); (try clear hkp)) | ((with_reducible refine gate_callee (f := 34) rfl ?_); refine gl_ (some 67) Try.func34 #[.slice Ao36 t351.length co36, .int .i64 t372] (h := ?_); (with_reducible refine (laws_markByteS.calls kj15 (fun k_ => some k_ = (.slice Ao36 t351.length co36 : Value).ownBlock) (.slice Ao36 t351.length co36) t351 t372 t373 t374 w _ ?side1 ?side2 A52.out).mono ?_); (case side1 => repeat (first | (with_reducible first | exact HB.out | apply below_alloc | apply pw_below_drewN | apply below_drew1 | refine below_set ?_ GE325.out | refine below_set ?_ GE350.out) | exact HB.out)); (case side2 => exact Kd.R_tight rfl HO_9.out); rintro e w64 ⟨rfl, hy0, hb, hkp⟩; refine ⟨_, rfl, ?_⟩; replace HO_6 := Aside0.mk (Kd.R_mono (ok' := fun k_ => some k_ ≠ (.slice Ao36 t351.length co36 : Value).ownBlock ∧ some k_ ≠ (v355 : Value).ownBlock ∧ some k_ ≠ (.slice Ao56 t359.length co56 : Value).ownBlock ∧ some k_ ≠ (.slice Ao60 t368.length co60 : Value).ownBlock) (Kd.R_keptB (HO_6.out) hkp (fun k_ hk_ hs_ => (hk_.1) hs_)) (fun k_ hk_ => ⟨hk_.1.1, hk_.1.2.1, hk_.1.2.2.1, hk_.1.2.2.2⟩)); replace HO_10 := Aside0.mk (Kd.R_mono (ok' := fun k_ => some k_ ≠ (v339 : Value).ownBlock ∧ some k_ ≠ (.slice Ao36 t351.length co36 : Value).ownBlock ∧ some k_ ≠ (.slice Ao56 t359.length co56 : Value).ownBlock ∧ some k_ ≠ (.slice Ao60 t368.length co60 : Value).ownBlock) (Kd.R_keptB (HO_10.out) hkp (fun k_ hk_ hs_ => (hk_.2.1) hs_)) (fun k_ hk_ => ⟨hk_.1.1, hk_.1.2.1, hk_.1.2.2.1, hk_.1.2.2.2⟩)); replace BK325 := Aside0.mk (blk_kept (by (with_reducible repeat (first | refine blk_drewN ?_ _ | refine blk_drew ?_ | refine blk_alloc ?_ _)); exact BK325.out) hkp (fun hs_ => (fun e_ => (Kd.R_ne HO_9.out BK325.out (by decide)) e_) hs_)); replace BK350 := Aside0.mk (blk_kept (by (with_reducible repeat (first | refine blk_drewN ?_ _ | refine blk_drew ?_ | refine blk_alloc ?_ _)); exact BK350.out) hkp (fun hs_ => (fun e_ => (Kd.R_ne HO_9.out BK350.out (by decide)) e_) hs_)); replace HO_9 := Aside0.mk (Kd.R_reok rfl hy0 (fun k_ e_ => HO_9.out.1 k_ e_)); replace HO361 := Aside0.mk (Kd.R_mono (ok' := fun k_ => some k_ ≠ (v339 : Value).ownBlock ∧ some k_ ≠ (.slice Ao36 t351.length co36 : Value).ownBlock ∧ some k_ ≠ (v355 : Value).ownBlock ∧ some k_ ≠ (.slice Ao60 t368.length co60 : Value).ownBlock) (Kd.R_keptB (HO361.out) hkp (fun k_ hk_ hs_ => (hk_.2.1) hs_)) (fun k_ hk_ => ⟨hk_.1.1, hk_.1.2.1, hk_.1.2.2.1, hk_.1.2.2.2⟩)); replace HO370 := Aside0.mk (Kd.R_mono (ok' := fun k_ => some k_ ≠ (v339 : Value).ownBlock ∧ some k_ ≠ (.slice Ao36 t351.length co36 : Value).ownBlock ∧ some k_ ≠ (v355 : Value).ownBlock ∧ some k_ ≠ (.slice Ao56 t359.length co56 : Value).ownBlock) (Kd.R_keptB (HO370.out) hkp (fun k_ hk_ hs_ => (hk_.2.1) hs_)) (fun k_ hk_ => ⟨hk_.1.1, hk_.1.2.1, hk_.1.2.2.1, hk_.1.2.2.2⟩)); replace HB := Aside0.mk (hb); (try clear hb); (try clear hkp); (try clear hy0)))
        (try simp only [Act.put, List.setIfInBounds_toArray, List.set_cons_zero, List.set_cons_succ])
        go_cut [80] (fun v80 wc => ∃ (kq : Nat) (x80_52 : Bool), v80 = .bool x80_52 ∧ Aside0 (laws_FnExactTreeLongest.j1 kq l1 t338 t341 t354 x80_52 l0_0 a0_1 a0_2 l0_3 = some r) ∧ Aside0 (kq ≤ kj15) ∧ Aside0 (Kd.R (Kd.int .u8) 5 wc w.heap.size (fun k_ => some k_ ≠ (v355 : Value).ownBlock) v339 t338) ∧ Aside0 (Kd.R (Kd.int .u8) 5 wc w.heap.size (fun k_ => some k_ ≠ (v339 : Value).ownBlock) v355 t354) ∧ Aside0 (wc.heap[gb325]? = some (.cells #[(.slice A0_0 l0_0.length c0_0), .bool a0_1, .int .i64 a0_2, (.slice A0_3 l0_3.length c0_3)] 25 (0, 0))) ∧ Aside0 (Below w.heap.size w wc))
        case first =>
         have H := HC53.out
         clear HC53
         by_cases c65 : t373 < 0
         ·rw [if_pos c65] at H
          have c65b0 : decide (t373 < 0) = true := decide_eq_true c65
          clear c65
          (first | rw [c65b0] | (simp only [i64_w, i32_w]; rw [c65b0]) | skip)
          have H' := Aside0.mk H
          clear H
          go_wp2
          go_meet
          case rel => exact ⟨_, (true), (by first | rfl | (simp; done) | (simp [*]; done)), H', ⟨by have := HJ15.out; first | omega | exact Nat.le_refl _⟩, ⟨by (with_reducible repeat (first | apply Kd.R_alloc | apply Kd.R_drewN | apply Kd.R_drew)); exact Kd.R_mono HO_6.out (fun _ hk => hk.2.1)⟩, ⟨by (with_reducible repeat (first | apply Kd.R_alloc | apply Kd.R_drewN | apply Kd.R_drew)); exact Kd.R_mono HO_10.out (fun _ hk => hk.1)⟩, ⟨by (with_reducible repeat (first | refine blk_drewN ?_ _ | refine blk_drew ?_ | refine blk_alloc ?_ _)); exact BK325.out⟩, ⟨by repeat (first | (with_reducible first | exact HB.out | apply below_alloc | apply pw_below_drewN | apply below_drew1 | refine below_set ?_ GE325.out | refine below_set ?_ GE350.out) | exact HB.out)⟩⟩
         ·rw [if_neg c65] at H
          have c65b0 : decide (t373 < 0) = false := decide_eq_false c65
          clear c65
          (first | rw [c65b0] | (simp only [i64_w, i32_w]; rw [c65b0]) | skip)
          replace H := Option.bind_eq_some_iff.mp H
          obtain ⟨t375, A660, H⟩ := H
          replace H : (if t375 = true then (laws_FnExactTreeLongest.j1 kj15 l1 t338 t341 t354 (t357 != t341) l0_0 a0_1 a0_2 l0_3) else (laws_FnExactTreeLongest.j1 kj15 l1 t338 t341 t354 true l0_0 a0_1 a0_2 l0_3)) = some r := H
          have A66 := Aside0.mk A660
          clear A660
          by_cases c67 : t375 = true
          ·subst c67
           have H1 : (laws_FnExactTreeLongest.j1 kj15 l1 t338 t341 t354 (t357 != t341) l0_0 a0_1 a0_2 l0_3) = some r := by rw [if_pos rfl] at H; exact H
           clear H
           have H := H1
           clear H1
           have H' := Aside0.mk H
           clear H
           obtain ⟨Ao68, co68, eo68⟩ := Kd.R_slice HO_10.out
           subst eo68
           obtain ⟨Ao69, co69, eo69⟩ := Kd.R_slice HO_6.out
           subst eo69
           go_wp2_with (first | (go_at_call 25; (with_reducible refine (laws_eqByteS.calls kj15 _ _ t354 _ _ t338 true _ ?side1 ?side2 ?side3 ?side4 A66.out).mono ?_); (case side1 => repeat (first | exact (Kd.R_reads' HO_10.out).2.2 | (with_reducible refine Kd.C_alloc ?_ _) | (with_reducible refine Kd.C_drewN ?_ _) | (with_reducible refine Kd.C_drew ?_))); (case side2 => exact (Kd.R_reads' HO_10.out).2.1); (case side3 => repeat (first | exact (Kd.R_reads' HO_6.out).2.2 | (with_reducible refine Kd.C_alloc ?_ _) | (with_reducible refine Kd.C_drewN ?_ _) | (with_reducible refine Kd.C_drew ?_))); (case side4 => exact (Kd.R_reads' HO_6.out).2.1); rintro e w' ⟨rfl, ⟨nd, rfl⟩⟩))
           go_meet
           case rel => exact ⟨_, ((t357 != t341)), (by first | rfl | (simp; done) | (simp [*]; done)), H', ⟨by have := HJ15.out; first | omega | exact Nat.le_refl _⟩, ⟨by (with_reducible repeat (first | apply Kd.R_alloc | apply Kd.R_drewN | apply Kd.R_drew)); exact Kd.R_mono HO_6.out (fun _ hk => hk.2.1)⟩, ⟨by (with_reducible repeat (first | apply Kd.R_alloc | apply Kd.R_drewN | apply Kd.R_drew)); exact Kd.R_mono HO_10.out (fun _ hk => hk.1)⟩, ⟨by (with_reducible repeat (first | refine blk_drewN ?_ _ | refine blk_drew ?_ | refine blk_alloc ?_ _)); exact BK325.out⟩, ⟨by repeat (first | (with_reducible first | exact HB.out | apply below_alloc | apply pw_below_drewN | apply below_drew1 | refine below_set ?_ GE325.out | refine below_set ?_ GE350.out) | exact HB.out)⟩⟩
          ·replace c67 := Bool.eq_false_iff.mpr c67
           subst c67
           have H1 : (laws_FnExactTreeLongest.j1 kj15 l1 t338 t341 t354 true l0_0 a0_1 a0_2 l0_3) = some r := by rw [if_neg (show ¬ (false = true) by decide)] at H; exact H
           clear H
           have H := H1
           clear H1
           have H' := Aside0.mk H
           clear H
           obtain ⟨Ao70, co70, eo70⟩ := Kd.R_slice HO_10.out
           subst eo70
           obtain ⟨Ao71, co71, eo71⟩ := Kd.R_slice HO_6.out
           subst eo71
           go_wp2_with (first | (go_at_call 25; (with_reducible refine (laws_eqByteS.calls kj15 _ _ t354 _ _ t338 false _ ?side1 ?side2 ?side3 ?side4 A66.out).mono ?_); (case side1 => repeat (first | exact (Kd.R_reads' HO_10.out).2.2 | (with_reducible refine Kd.C_alloc ?_ _) | (with_reducible refine Kd.C_drewN ?_ _) | (with_reducible refine Kd.C_drew ?_))); (case side2 => exact (Kd.R_reads' HO_10.out).2.1); (case side3 => repeat (first | exact (Kd.R_reads' HO_6.out).2.2 | (with_reducible refine Kd.C_alloc ?_ _) | (with_reducible refine Kd.C_drewN ?_ _) | (with_reducible refine Kd.C_drew ?_))); (case side4 => exact (Kd.R_reads' HO_6.out).2.1); rintro e w' ⟨rfl, ⟨nd, rfl⟩⟩))
           go_meet
           case rel => exact ⟨_, (true), (by first | rfl | (simp; done) | (simp [*]; done)), H', ⟨by have := HJ15.out; first | omega | exact Nat.le_refl _⟩, ⟨by (with_reducible repeat (first | apply Kd.R_alloc | apply Kd.R_drewN | apply Kd.R_drew)); exact Kd.R_mono HO_6.out (fun _ hk => hk.2.1)⟩, ⟨by (with_reducible repeat (first | apply Kd.R_alloc | apply Kd.R_drewN | apply Kd.R_drew)); exact Kd.R_mono HO_10.out (fun _ hk => hk.1)⟩, ⟨by (with_reducible repeat (first | refine blk_drewN ?_ _ | refine blk_drew ?_ | refine blk_alloc ?_ _)); exact BK325.out⟩, ⟨by repeat (first | (with_reducible first | exact HB.out | apply below_alloc | apply pw_below_drewN | apply below_drew1 | refine below_set ?_ GE325.out | refine below_set ?_ GE350.out) | exact HB.out)⟩⟩
        case rest =>
         clear HC53
         try clear c1; try clear c2; try clear p2; try clear c3; try clear c3b0; try clear c3b1; try clear c4; try clear c5; try clear c6; try clear c6b0; try clear c8; try clear c15; try clear c17; try clear c19; try clear c23; try clear c25; try clear c28; try clear c31; try clear c33; try clear c34; try clear c36; try clear c39; try clear c44; try clear c47; try clear c50; try clear c61; try clear c65; try clear c65b0; try clear c67; try clear hcz18_0; try clear hcz18_1; try clear hcz18_2; try clear hcz18_3; try clear hcz20_0; try clear hcz20_1; try clear hcz20_2; try clear hcz20_3; try clear hcz27_0; try clear hcz27_1; try clear hcz27_2; try clear hcz27_3; try clear hcz32_0; try clear hcz32_1; try clear hcz32_2; try clear hcz32_3; try clear hcz35_0; try clear hcz35_1; try clear hcz35_2; try clear hcz35_3; try clear hcz62_0; try clear hcz62_1; try clear hcz62_2; try clear hcz62_3; try clear hcz8_0; try clear hcz8_1; try clear hcz8_2; try clear hcz8_3; try clear hfz18_0; try clear hfz18_1; try clear hfz18_2; try clear hfz18_3; try clear hfz20_0; try clear hfz20_1; try clear hfz20_2; try clear hfz20_3; try clear hfz27_0; try clear hfz27_1; try clear hfz27_2; try clear hfz27_3; try clear hfz32_0; try clear hfz32_1; try clear hfz32_2; try clear hfz32_3; try clear hfz35_0; try clear hfz35_1; try clear hfz35_2; try clear hfz35_3; try clear hfz62_0; try clear hfz62_1; try clear hfz62_2; try clear hfz62_3; try clear hfz8_0; try clear hfz8_1; try clear hfz8_2; try clear hfz8_3; try clear p2
         obtain ⟨kq, x80_52, rfl, HA, HJ52, HO_6, HO_10, BK325, HB⟩ := hcut
         cases kq with
         | zero => exact absurd HA.out (by simp [laws_FnExactTreeLongest.j1])
         | succ kj52 =>
          have H := HA.out
          clear HA
          simp only [laws_FnExactTreeLongest.j1] at H
          by_cases c72 : x80_52 = true
          ·subst c72
           have H1 : (some false) = some r := by rw [if_pos rfl] at H; exact H
           clear H
           have H := H1
           clear H1
           obtain rfl := Option.some.inj H
           go_wp2
           go_ret
           exact ⟨by first | rfl | (simp [errW_none, errW_some] <;> rfl) | (simp [*, errW_none, errW_some] <;> rfl), by repeat (first | (with_reducible first | exact HB.out | apply below_alloc | apply pw_below_drewN | apply below_drew1 | refine below_set ?_ GE325.out) | exact HB.out)⟩
          ·replace c72 := Bool.eq_false_iff.mpr c72
           subst c72
           have H1 : ((laws_markByteS.f kj52 t354 1).bind fun bt376 => ((laws_heldByteS.f kj52 bt376.2 1).bind fun t378 => (if t378 < 0 then (some false) else (if t378 = bt376.1 then ((laws_toTree.f kj52 l0_0 a0_1 a0_2 l0_3).bind fun bt379 => ((laws_toByteS.f kj52 l1).bind fun t387 => ((impl_TreeLongest.f kj52 bt379.1 bt379.2.1 bt379.2.2.1 bt379.2.2.2 t387).bind fun bt390 => ((laws_eqByteS.f kj52 bt390.1 t338).bind fun t394 => (if t394 = true then (laws_FnExactTreeLongest.j2 kj52 bt376.2 bt376.1 (bt390.2 != t341)) else (laws_FnExactTreeLongest.j2 kj52 bt376.2 bt376.1 true)))))) else (some false))))) = some r := by rw [if_neg (show ¬ (false = true) by decide)] at H; exact H
           clear H
           have H := H1
           clear H1
           replace H := Option.bind_eq_some_iff.mp H
           obtain ⟨⟨t376, t377⟩, A730, H⟩ := H
           replace H : ((laws_heldByteS.f kj52 t377 1).bind fun t378 => (if t378 < 0 then (some false) else (if t378 = t376 then ((laws_toTree.f kj52 l0_0 a0_1 a0_2 l0_3).bind fun bt379 => ((laws_toByteS.f kj52 l1).bind fun t387 => ((impl_TreeLongest.f kj52 bt379.1 bt379.2.1 bt379.2.2.1 bt379.2.2.2 t387).bind fun bt390 => ((laws_eqByteS.f kj52 bt390.1 t338).bind fun t394 => (if t394 = true then (laws_FnExactTreeLongest.j2 kj52 t377 t376 (bt390.2 != t341)) else (laws_FnExactTreeLongest.j2 kj52 t377 t376 true)))))) else (some false)))) = some r := H
           have A73 := Aside0.mk A730
           clear A730
           replace H := Option.bind_eq_some_iff.mp H
           obtain ⟨t378, A740, H⟩ := H
           replace H : (if t378 < 0 then (some false) else (if t378 = t376 then ((laws_toTree.f kj52 l0_0 a0_1 a0_2 l0_3).bind fun bt379 => ((laws_toByteS.f kj52 l1).bind fun t387 => ((impl_TreeLongest.f kj52 bt379.1 bt379.2.1 bt379.2.2.1 bt379.2.2.2 t387).bind fun bt390 => ((laws_eqByteS.f kj52 bt390.1 t338).bind fun t394 => (if t394 = true then (laws_FnExactTreeLongest.j2 kj52 t377 t376 (bt390.2 != t341)) else (laws_FnExactTreeLongest.j2 kj52 t377 t376 true)))))) else (some false))) = some r := H
           have A74 := Aside0.mk A740
           clear A740
           by_cases c75 : t378 < 0
           ·rw [if_pos c75] at H
            have c75b0 : decide (t378 < 0) = true := decide_eq_true c75
            clear c75
            obtain rfl := Option.some.inj H
            obtain ⟨Ao76, co76, eo76⟩ := Kd.R_slice HO_10.out
            subst eo76
            go_wp2_with (first | ((with_reducible refine gate_callee (f := 34) rfl ?_); refine gl_ (some 83) Try.func34 #[.slice Ao76 t354.length co76, .int .i64 1] (h := ?_); (with_reducible refine (laws_markByteS.calls kj52 (fun k_ => some k_ = (.slice Ao76 t354.length co76 : Value).ownBlock) (.slice Ao76 t354.length co76) t354 1 t376 t377 w _ ?side1 ?side2 A73.out).mono ?_); (case side1 => repeat (first | (with_reducible first | exact HB.out | apply below_alloc | apply pw_below_drewN | apply below_drew1 | refine below_set ?_ GE325.out) | exact HB.out)); (case side2 => exact Kd.R_tight rfl HO_10.out); rintro e w77 ⟨rfl, hy0, hb, hkp⟩; refine ⟨_, rfl, ?_⟩; replace HO_6 := Aside0.mk (Kd.R_mono (ok' := fun k_ => some k_ ≠ (.slice Ao76 t354.length co76 : Value).ownBlock) (Kd.R_keptB (HO_6.out) hkp (fun k_ hk_ hs_ => (hk_) hs_)) (fun k_ hk_ => hk_.1)); replace BK325 := Aside0.mk (blk_kept (by (with_reducible repeat (first | refine blk_drewN ?_ _ | refine blk_drew ?_ | refine blk_alloc ?_ _)); exact BK325.out) hkp (fun hs_ => (fun e_ => (Kd.R_ne HO_10.out BK325.out (by decide)) e_) hs_)); replace HO_10 := Aside0.mk (Kd.R_reok rfl hy0 (fun k_ e_ => HO_10.out.1 k_ e_)); replace HB := Aside0.mk (hb); (try clear hb); (try clear hkp); (try clear hy0)) | ((with_reducible refine gate_callee (f := 35) rfl ?_); refine goesL_ (some 86) rfl rfl Try.func35 (by kernel_rfl) rfl #[.slice Ao76 t377.length co76, .int .i64 1] rfl (by (try simp only [List.map_toArray, List.map_cons, List.map_nil]); first | done | (rw [show t377.length = t354.length from (Kd.R_reads' HO_10.out).1.symm] <;> rfl) | rfl | (simp only [List.length_drop, List.length_take]; rfl)) ?_; (with_reducible refine (laws_heldByteS.calls kj52 _ _ t377 1 t378 _ ?side1 ?side2 A74.out).mono ?_); (case side1 => repeat (first | exact (Kd.R_reads' HO_10.out).2.2 | (with_reducible refine Kd.C_alloc ?_ _) | (with_reducible refine Kd.C_drewN ?_ _) | (with_reducible refine Kd.C_drew ?_))); (case side2 => rw [show t377.length = t354.length from (Kd.R_reads' HO_10.out).1.symm]; exact (Kd.R_reads' HO_10.out).2.1); rintro e w' ⟨rfl, ⟨nd, rfl⟩⟩; refine ⟨_, rfl, ?_⟩))
            go_ret
            exact ⟨by first | rfl | (simp [errW_none, errW_some] <;> rfl) | (simp [*, errW_none, errW_some] <;> rfl), by repeat (first | (with_reducible first | exact HB.out | apply below_alloc | apply pw_below_drewN | apply below_drew1 | refine below_set ?_ GE325.out) | exact HB.out)⟩
           ·rw [if_neg c75] at H
            have c75b0 : decide (t378 < 0) = false := decide_eq_false c75
            clear c75
            by_cases c78 : t378 = t376
            ·rw [if_pos c78] at H
             have c78b0 : (t378 == t376) = true := beq_iff_eq.mpr c78
             have c78b1 : (t378 != t376) = false := bne_eq_false_iff_eq.mpr c78
             clear c78
             replace H := Option.bind_eq_some_iff.mp H
             obtain ⟨⟨t379, t382, t383, t384⟩, A790, H⟩ := H
             replace H : ((laws_toByteS.f kj52 l1).bind fun t387 => ((impl_TreeLongest.f kj52 t379 t382 t383 t384 t387).bind fun bt390 => ((laws_eqByteS.f kj52 bt390.1 t338).bind fun t394 => (if t394 = true then (laws_FnExactTreeLongest.j2 kj52 t377 t376 (bt390.2 != t341)) else (laws_FnExactTreeLongest.j2 kj52 t377 t376 true))))) = some r := H
             have A79 := Aside0.mk A790
             clear A790
             replace H := Option.bind_eq_some_iff.mp H
             obtain ⟨t387, A800, H⟩ := H
             replace H : ((impl_TreeLongest.f kj52 t379 t382 t383 t384 t387).bind fun bt390 => ((laws_eqByteS.f kj52 bt390.1 t338).bind fun t394 => (if t394 = true then (laws_FnExactTreeLongest.j2 kj52 t377 t376 (bt390.2 != t341)) else (laws_FnExactTreeLongest.j2 kj52 t377 t376 true)))) = some r := H
             have A80 := Aside0.mk A800
             clear A800
             replace H := Option.bind_eq_some_iff.mp H
             obtain ⟨⟨t390, t393⟩, A810, H⟩ := H
             replace H : ((laws_eqByteS.f kj52 t390 t338).bind fun t394 => (if t394 = true then (laws_FnExactTreeLongest.j2 kj52 t377 t376 (t393 != t341)) else (laws_FnExactTreeLongest.j2 kj52 t377 t376 true))) = some r := H
             have A81 := Aside0.mk A810
             clear A810
             have HC82 := Aside0.mk H
             clear H
             obtain ⟨Ao83, co83, eo83⟩ := Kd.R_slice HO_10.out
             subst eo83
             go_upto_region 31 with (first | ((with_reducible refine gate_callee (f := 34) rfl ?_); refine gl_ (some 83) Try.func34 #[.slice Ao83 t354.length co83, .int .i64 1] (h := ?_); (with_reducible refine (laws_markByteS.calls kj52 (fun k_ => some k_ = (.slice Ao83 t354.length co83 : Value).ownBlock) (.slice Ao83 t354.length co83) t354 1 t376 t377 w _ ?side1 ?side2 A73.out).mono ?_); (case side1 => repeat (first | (with_reducible first | exact HB.out | apply below_alloc | apply pw_below_drewN | apply below_drew1 | refine below_set ?_ GE325.out) | exact HB.out)); (case side2 => exact Kd.R_tight rfl HO_10.out); rintro e w84 ⟨rfl, hy0, hb, hkp⟩; refine ⟨_, rfl, ?_⟩; replace HO_6 := Aside0.mk (Kd.R_mono (ok' := fun k_ => some k_ ≠ (.slice Ao83 t354.length co83 : Value).ownBlock) (Kd.R_keptB (HO_6.out) hkp (fun k_ hk_ hs_ => (hk_) hs_)) (fun k_ hk_ => hk_.1)); replace BK325 := Aside0.mk (blk_kept (by (with_reducible repeat (first | refine blk_drewN ?_ _ | refine blk_drew ?_ | refine blk_alloc ?_ _)); exact BK325.out) hkp (fun hs_ => (fun e_ => (Kd.R_ne HO_10.out BK325.out (by decide)) e_) hs_)); replace HO_10 := Aside0.mk (Kd.R_reok rfl hy0 (fun k_ e_ => HO_10.out.1 k_ e_)); replace HB := Aside0.mk (hb); (try clear hb); (try clear hkp); (try clear hy0)) | ((with_reducible refine gate_callee (f := 35) rfl ?_); refine goesL_ (some 86) rfl rfl Try.func35 (by kernel_rfl) rfl #[.slice Ao83 t377.length co83, .int .i64 1] rfl (by (try simp only [List.map_toArray, List.map_cons, List.map_nil]); first | done | (rw [show t377.length = t354.length from (Kd.R_reads' HO_10.out).1.symm] <;> rfl) | rfl | (simp only [List.length_drop, List.length_take]; rfl)) ?_; (with_reducible refine (laws_heldByteS.calls kj52 _ _ t377 1 t378 _ ?side1 ?side2 A74.out).mono ?_); (case side1 => repeat (first | exact (Kd.R_reads' HO_10.out).2.2 | (with_reducible refine Kd.C_alloc ?_ _) | (with_reducible refine Kd.C_drewN ?_ _) | (with_reducible refine Kd.C_drew ?_))); (case side2 => rw [show t377.length = t354.length from (Kd.R_reads' HO_10.out).1.symm]; exact (Kd.R_reads' HO_10.out).2.1); rintro e w' ⟨rfl, ⟨nd, rfl⟩⟩; refine ⟨_, rfl, ?_⟩; obtain ⟨hcz85_0, hcz85_1, hcz85_2, hcz85_3, -⟩ := cells_4 BK325.out trivial; obtain ⟨hfz85_0, hfz85_1, hfz85_2, hfz85_3, -⟩ := frz_4 BK325.out) | ((with_reducible refine gate_callee (f := 17) rfl ?_); refine gl_ (some 94) Try.func17 #[.agg #[.slice A0_0 l0_0.length c0_0, .bool a0_1, .int .i64 a0_2, .slice A0_3 l0_3.length c0_3]] (h := ?_); (with_reducible refine (laws_toTree.calls kj52 _ _ l0_0 a0_1 a0_2 _ _ l0_3 t379 t382 t383 t384 _ ?side1 ?side2 ?side3 ?side4 A79.out).mono ?_); (case side1 => exact kcb); (case side2 => exact HC0_0.out); (case side3 => exact kcb); (case side4 => exact HC0_3.out); rintro e w86 ⟨v380, v385, rfl, ho0, ho1, hb⟩; refine ⟨_, rfl, ?_⟩; have HO381 := Aside0.mk (Kd.R_lower (Kd.R_new' (Kd.R_new' ho0 (Kd.R_lt (by (with_reducible repeat (first | apply Kd.R_alloc | apply Kd.R_drewN | apply Kd.R_drew)); exact HO_6.out))) (Kd.R_lt (by (with_reducible repeat (first | apply Kd.R_alloc | apply Kd.R_drewN | apply Kd.R_drew)); exact HO_10.out))) (below_size bel)); have HO386 := Aside0.mk (Kd.R_lower (Kd.R_new' (Kd.R_new' ho1 (Kd.R_lt (by (with_reducible repeat (first | apply Kd.R_alloc | apply Kd.R_drewN | apply Kd.R_drew)); exact HO_6.out))) (Kd.R_lt (by (with_reducible repeat (first | apply Kd.R_alloc | apply Kd.R_drewN | apply Kd.R_drew)); exact HO_10.out))) (below_size bel)); replace HO_6 := Aside0.mk (Kd.R_elder' (by (with_reducible repeat (first | apply Kd.R_alloc | apply Kd.R_drewN | apply Kd.R_drew)); exact HO_6.out) (Kd.R_base ho0) hb); replace HO_10 := Aside0.mk (Kd.R_elder' (by (with_reducible repeat (first | apply Kd.R_alloc | apply Kd.R_drewN | apply Kd.R_drew)); exact HO_10.out) (Kd.R_base ho0) hb); replace BK325 := Aside0.mk (blb BK325 hb); replace HB := Aside0.mk (below_step bel hb); (try clear hb); (try clear hb2); (try clear hk); (try clear hi); (try clear ho0); (try clear ho1)) | ((with_reducible refine gate_callee (f := 23) rfl ?_); refine gl_ (some 96) Try.func23 #[.slice A1 l1.length c1] (h := ?_); (with_reducible refine (laws_toByteS.calls kj52 _ _ l1 t387 _ ?side1 ?side2 A80.out).mono ?_); (case side1 => exact kcb); (case side2 => exact HC1.out); rintro e w87 ⟨v388, rfl, ho0, hb⟩; refine ⟨_, rfl, ?_⟩; have HO389 := Aside0.mk (Kd.R_lower (Kd.R_new' (Kd.R_new' (Kd.R_new' ho0 (Kd.R_lt (by (with_reducible repeat (first | apply Kd.R_alloc | apply Kd.R_drewN | apply Kd.R_drew)); exact HO_6.out))) (Kd.R_lt (by (with_reducible repeat (first | apply Kd.R_alloc | apply Kd.R_drewN | apply Kd.R_drew)); exact HO_10.out))) (Kd.R_lt (by (with_reducible repeat (first | apply Kd.R_alloc | apply Kd.R_drewN | apply Kd.R_drew)); exact HO381.out))) (below_size bel)); replace HO_6 := Aside0.mk (Kd.R_elder' (by (with_reducible repeat (first | apply Kd.R_alloc | apply Kd.R_drewN | apply Kd.R_drew)); exact HO_6.out) (Kd.R_base ho0) hb); replace HO_10 := Aside0.mk (Kd.R_elder' (by (with_reducible repeat (first | apply Kd.R_alloc | apply Kd.R_drewN | apply Kd.R_drew)); exact HO_10.out) (Kd.R_base ho0) hb); replace HO381 := Aside0.mk (Kd.R_elder' (by (with_reducible repeat (first | apply Kd.R_alloc | apply Kd.R_drewN | apply Kd.R_drew)); exact HO381.out) (Kd.R_base ho0) hb); replace HO386 := Aside0.mk (Kd.R_elder' (by (with_reducible repeat (first | apply Kd.R_alloc | apply Kd.R_drewN | apply Kd.R_drew)); exact HO386.out) (Kd.R_base ho0) hb); replace BK325 := Aside0.mk (blb BK325 hb); replace HB := Aside0.mk (below_step bel hb); (try clear hb); (try clear hb2); (try clear hk); (try clear hi); (try clear ho0); obtain ⟨Ao88, co88, eo88⟩ := Kd.R_slice HO381.out; subst eo88; obtain ⟨Ao89, co89, eo89⟩ := Kd.R_slice HO386.out; subst eo89; obtain ⟨Ao90, co90, eo90⟩ := Kd.R_slice HO389.out; subst eo90) | ((with_reducible refine gate_callee (f := 28) rfl ?_); refine gl_ (some 97) Try.func28 #[.agg #[.slice Ao88 t379.length co88, .bool t382, .int .i64 t383, .slice Ao89 t384.length co89], .slice Ao90 t387.length co90] (h := ?_); (with_reducible refine (impl_TreeLongest.calls kj52 _ _ t379 t382 t383 _ _ t384 _ _ t387 t390 t393 _ ?side1 ?side2 ?side3 ?side4 ?side5 ?side6 A81.out).mono ?_); (case side1 => repeat (first | exact (Kd.R_reads' HO381.out).2.2 | (with_reducible refine Kd.C_alloc ?_ _) | (with_reducible refine Kd.C_drewN ?_ _) | (with_reducible refine Kd.C_drew ?_))); (case side2 => exact (Kd.R_reads' HO381.out).2.1); (case side3 => repeat (first | exact (Kd.R_reads' HO386.out).2.2 | (with_reducible refine Kd.C_alloc ?_ _) | (with_reducible refine Kd.C_drewN ?_ _) | (with_reducible refine Kd.C_drew ?_))); (case side4 => exact (Kd.R_reads' HO386.out).2.1); (case side5 => repeat (first | exact (Kd.R_reads' HO389.out).2.2 | (with_reducible refine Kd.C_alloc ?_ _) | (with_reducible refine Kd.C_drewN ?_ _) | (with_reducible refine Kd.C_drew ?_))); (case side6 => exact (Kd.R_reads' HO389.out).2.1); rintro e w91 ⟨v391, rfl, ho0, hb⟩; refine ⟨_, rfl, ?_⟩; have HO392 := Aside0.mk (Kd.R_lower (Kd.R_new' (Kd.R_new' (Kd.R_new' (Kd.R_new' ho0 (Kd.R_lt (by (with_reducible repeat (first | apply Kd.R_alloc | apply Kd.R_drewN | apply Kd.R_drew)); exact HO_6.out))) (Kd.R_lt (by (with_reducible repeat (first | apply Kd.R_alloc | apply Kd.R_drewN | apply Kd.R_drew)); exact HO_10.out))) (Kd.R_lt (by (with_reducible repeat (first | apply Kd.R_alloc | apply Kd.R_drewN | apply Kd.R_drew)); exact HO381.out))) (Kd.R_lt (by (with_reducible repeat (first | apply Kd.R_alloc | apply Kd.R_drewN | apply Kd.R_drew)); exact HO389.out))) (below_size bel)); replace HO_6 := Aside0.mk (Kd.R_elder' (by (with_reducible repeat (first | apply Kd.R_alloc | apply Kd.R_drewN | apply Kd.R_drew)); exact HO_6.out) (Kd.R_base ho0) hb); replace HO_10 := Aside0.mk (Kd.R_elder' (by (with_reducible repeat (first | apply Kd.R_alloc | apply Kd.R_drewN | apply Kd.R_drew)); exact HO_10.out) (Kd.R_base ho0) hb); replace HO381 := Aside0.mk (Kd.R_elder' (by (with_reducible repeat (first | apply Kd.R_alloc | apply Kd.R_drewN | apply Kd.R_drew)); exact HO381.out) (Kd.R_base ho0) hb); replace HO386 := Aside0.mk (Kd.R_elder' (by (with_reducible repeat (first | apply Kd.R_alloc | apply Kd.R_drewN | apply Kd.R_drew)); exact HO386.out) (Kd.R_base ho0) hb); replace HO389 := Aside0.mk (Kd.R_elder' (by (with_reducible repeat (first | apply Kd.R_alloc | apply Kd.R_drewN | apply Kd.R_drew)); exact HO389.out) (Kd.R_base ho0) hb); replace BK325 := Aside0.mk (blb BK325 hb); replace HB := Aside0.mk (below_step bel hb); (try clear hb); (try clear hb2); (try clear hk); (try clear hi); (try clear ho0)))
             (try simp only [Act.put, List.setIfInBounds_toArray, List.set_cons_zero, List.set_cons_succ])
             go_cut [108] (fun v108 wc => ∃ (kq : Nat) (x108_81 : Bool), v108 = .bool x108_81 ∧ Aside0 (laws_FnExactTreeLongest.j2 kq t377 t376 x108_81 = some r) ∧ Aside0 (kq ≤ kj52) ∧ Aside0 (Kd.R (Kd.int .u8) 5 wc w.heap.size (fun _ => True) (.slice Ao83 t354.length co83) t377) ∧ Aside0 (wc.heap[gb325]? = some (.cells #[(.slice A0_0 l0_0.length c0_0), .bool a0_1, .int .i64 a0_2, (.slice A0_3 l0_3.length c0_3)] 25 (0, 0))) ∧ Aside0 (Below w.heap.size w wc))
             case first =>
              have H := HC82.out
              clear HC82
              replace H := Option.bind_eq_some_iff.mp H
              obtain ⟨t394, A920, H⟩ := H
              replace H : (if t394 = true then (laws_FnExactTreeLongest.j2 kj52 t377 t376 (t393 != t341)) else (laws_FnExactTreeLongest.j2 kj52 t377 t376 true)) = some r := H
              have A92 := Aside0.mk A920
              clear A920
              by_cases c93 : t394 = true
              ·subst c93
               have H1 : (laws_FnExactTreeLongest.j2 kj52 t377 t376 (t393 != t341)) = some r := by rw [if_pos rfl] at H; exact H
               clear H
               have H := H1
               clear H1
               have H' := Aside0.mk H
               clear H
               obtain ⟨Ao94, co94, eo94⟩ := Kd.R_slice HO392.out
               subst eo94
               obtain ⟨Ao95, co95, eo95⟩ := Kd.R_slice HO_6.out
               subst eo95
               go_wp2_with (first | ((with_reducible refine gate_callee (f := 25) rfl ?_); refine gl_ (some 102) Try.func25 #[.slice Ao94 t390.length co94, .slice Ao95 t338.length co95] (h := ?_); (with_reducible refine (laws_eqByteS.calls kj52 _ _ t390 _ _ t338 true _ ?side1 ?side2 ?side3 ?side4 A92.out).mono ?_); (case side1 => repeat (first | exact (Kd.R_reads' HO392.out).2.2 | (with_reducible refine Kd.C_alloc ?_ _) | (with_reducible refine Kd.C_drewN ?_ _) | (with_reducible refine Kd.C_drew ?_))); (case side2 => exact (Kd.R_reads' HO392.out).2.1); (case side3 => repeat (first | exact (Kd.R_reads' HO_6.out).2.2 | (with_reducible refine Kd.C_alloc ?_ _) | (with_reducible refine Kd.C_drewN ?_ _) | (with_reducible refine Kd.C_drew ?_))); (case side4 => exact (Kd.R_reads' HO_6.out).2.1); rintro e w' ⟨rfl, ⟨nd, rfl⟩⟩; refine ⟨_, rfl, ?_⟩))
               go_meet
               case rel => exact ⟨_, ((t393 != t341)), (by first | rfl | (simp; done) | (simp [*]; done)), H', ⟨by have := HJ15.out; have := HJ52.out; first | omega | exact Nat.le_refl _⟩, ⟨by (with_reducible repeat (first | apply Kd.R_alloc | apply Kd.R_drewN | apply Kd.R_drew)); exact Kd.R_mono HO_10.out (fun _ hk => trivial)⟩, ⟨by (with_reducible repeat (first | refine blk_drewN ?_ _ | refine blk_drew ?_ | refine blk_alloc ?_ _)); exact BK325.out⟩, ⟨by repeat (first | (with_reducible first | exact HB.out | apply below_alloc | apply pw_below_drewN | apply below_drew1 | refine below_set ?_ GE325.out) | exact HB.out)⟩⟩
              ·replace c93 := Bool.eq_false_iff.mpr c93
               subst c93
               have H1 : (laws_FnExactTreeLongest.j2 kj52 t377 t376 true) = some r := by rw [if_neg (show ¬ (false = true) by decide)] at H; exact H
               clear H
               have H := H1
               clear H1
               have H' := Aside0.mk H
               clear H
               obtain ⟨Ao96, co96, eo96⟩ := Kd.R_slice HO392.out
               subst eo96
               obtain ⟨Ao97, co97, eo97⟩ := Kd.R_slice HO_6.out
               subst eo97
               go_wp2_with (first | ((with_reducible refine gate_callee (f := 25) rfl ?_); refine gl_ (some 102) Try.func25 #[.slice Ao96 t390.length co96, .slice Ao97 t338.length co97] (h := ?_); (with_reducible refine (laws_eqByteS.calls kj52 _ _ t390 _ _ t338 false _ ?side1 ?side2 ?side3 ?side4 A92.out).mono ?_); (case side1 => repeat (first | exact (Kd.R_reads' HO392.out).2.2 | (with_reducible refine Kd.C_alloc ?_ _) | (with_reducible refine Kd.C_drewN ?_ _) | (with_reducible refine Kd.C_drew ?_))); (case side2 => exact (Kd.R_reads' HO392.out).2.1); (case side3 => repeat (first | exact (Kd.R_reads' HO_6.out).2.2 | (with_reducible refine Kd.C_alloc ?_ _) | (with_reducible refine Kd.C_drewN ?_ _) | (with_reducible refine Kd.C_drew ?_))); (case side4 => exact (Kd.R_reads' HO_6.out).2.1); rintro e w' ⟨rfl, ⟨nd, rfl⟩⟩; refine ⟨_, rfl, ?_⟩))
               go_meet
               case rel => exact ⟨_, (true), (by first | rfl | (simp; done) | (simp [*]; done)), H', ⟨by have := HJ15.out; have := HJ52.out; first | omega | exact Nat.le_refl _⟩, ⟨by (with_reducible repeat (first | apply Kd.R_alloc | apply Kd.R_drewN | apply Kd.R_drew)); exact Kd.R_mono HO_10.out (fun _ hk => trivial)⟩, ⟨by (with_reducible repeat (first | refine blk_drewN ?_ _ | refine blk_drew ?_ | refine blk_alloc ?_ _)); exact BK325.out⟩, ⟨by repeat (first | (with_reducible first | exact HB.out | apply below_alloc | apply pw_below_drewN | apply below_drew1 | refine below_set ?_ GE325.out) | exact HB.out)⟩⟩
             case rest =>
              clear HC82
              try clear c1; try clear c2; try clear p2; try clear c3; try clear c3b0; try clear c3b1; try clear c4; try clear c5; try clear c6; try clear c6b0; try clear c7; try clear c8; try clear c9; try clear c15; try clear c17; try clear c19; try clear c23; try clear c25; try clear c28; try clear c31; try clear c33; try clear c34; try clear c35; try clear c36; try clear c39; try clear c44; try clear c47; try clear c50; try clear c61; try clear c65; try clear c65b0; try clear c67; try clear c72; try clear c75; try clear c75b0; try clear c78; try clear c78b0; try clear c78b1; try clear c93; try clear hcz18_0; try clear hcz18_1; try clear hcz18_2; try clear hcz18_3; try clear hcz20_0; try clear hcz20_1; try clear hcz20_2; try clear hcz20_3; try clear hcz27_0; try clear hcz27_1; try clear hcz27_2; try clear hcz27_3; try clear hcz32_0; try clear hcz32_1; try clear hcz32_2; try clear hcz32_3; try clear hcz35_0; try clear hcz35_1; try clear hcz35_2; try clear hcz35_3; try clear hcz62_0; try clear hcz62_1; try clear hcz62_2; try clear hcz62_3; try clear hcz85_0; try clear hcz85_1; try clear hcz85_2; try clear hcz85_3; try clear hcz8_0; try clear hcz8_1; try clear hcz8_2; try clear hcz8_3; try clear hfz18_0; try clear hfz18_1; try clear hfz18_2; try clear hfz18_3; try clear hfz20_0; try clear hfz20_1; try clear hfz20_2; try clear hfz20_3; try clear hfz27_0; try clear hfz27_1; try clear hfz27_2; try clear hfz27_3; try clear hfz32_0; try clear hfz32_1; try clear hfz32_2; try clear hfz32_3; try clear hfz35_0; try clear hfz35_1; try clear hfz35_2; try clear hfz35_3; try clear hfz62_0; try clear hfz62_1; try clear hfz62_2; try clear hfz62_3; try clear hfz85_0; try clear hfz85_1; try clear hfz85_2; try clear hfz85_3; try clear hfz8_0; try clear hfz8_1; try clear hfz8_2; try clear hfz8_3; try clear p2
              obtain ⟨kq, x108_81, rfl, HA, HJ81, HO_10, BK325, HB⟩ := hcut
              have hl10_81 := (Kd.R_reads' HO_10.out).1
              rw [hl10_81] at HO_10
              (try simp only [hl10_81])
              (try simp only [hl10_81] at BK325)
              cases kq with
              | zero => exact absurd HA.out (by simp [laws_FnExactTreeLongest.j2])
              | succ kj81 =>
               have H := HA.out
               clear HA
               simp only [laws_FnExactTreeLongest.j2] at H
               by_cases c98 : x108_81 = true
               ·subst c98
                have H1 : (some false) = some r := by rw [if_pos rfl] at H; exact H
                clear H
                have H := H1
                clear H1
                obtain rfl := Option.some.inj H
                go_wp2
                go_ret
                exact ⟨by first | rfl | (simp [errW_none, errW_some] <;> rfl) | (simp [*, errW_none, errW_some] <;> rfl), by repeat (first | (with_reducible first | exact HB.out | apply below_alloc | apply pw_below_drewN | apply below_drew1 | refine below_set ?_ GE325.out) | exact HB.out)⟩
               ·replace c98 := Bool.eq_false_iff.mpr c98
                subst c98
                have H1 : ((laws_heldByteS.f kj81 t377 1).bind fun t395 => (if t395 < 0 then (some false) else (if t395 = t376 then (some true) else (some false)))) = some r := by rw [if_neg (show ¬ (false = true) by decide)] at H; exact H
                clear H
                have H := H1
                clear H1
                replace H := Option.bind_eq_some_iff.mp H
                obtain ⟨t395, A990, H⟩ := H
                replace H : (if t395 < 0 then (some false) else (if t395 = t376 then (some true) else (some false))) = some r := H
                have A99 := Aside0.mk A990
                clear A990
                by_cases c100 : t395 < 0
                ·rw [if_pos c100] at H
                 have c100b0 : decide (t395 < 0) = true := decide_eq_true c100
                 clear c100
                 obtain rfl := Option.some.inj H
                 go_wp2_with (first | ((with_reducible refine gate_callee (f := 35) rfl ?_); refine gl_ (some 111) Try.func35 #[.slice Ao83 t377.length co83, .int .i64 1] (h := ?_); (with_reducible refine (laws_heldByteS.calls kj81 _ _ t377 1 t395 _ ?side1 ?side2 A99.out).mono ?_); (case side1 => repeat (first | exact (Kd.R_reads' HO_10.out).2.2 | (with_reducible refine Kd.C_alloc ?_ _) | (with_reducible refine Kd.C_drewN ?_ _) | (with_reducible refine Kd.C_drew ?_))); (case side2 => exact (Kd.R_reads' HO_10.out).2.1); rintro e w' ⟨rfl, ⟨nd, rfl⟩⟩; refine ⟨_, rfl, ?_⟩))
                 go_ret
                 exact ⟨by first | rfl | (simp [errW_none, errW_some] <;> rfl) | (simp [*, errW_none, errW_some] <;> rfl), by repeat (first | (with_reducible first | exact HB.out | apply below_alloc | apply pw_below_drewN | apply below_drew1 | refine below_set ?_ GE325.out) | exact HB.out)⟩
                ·rw [if_neg c100] at H
                 have c100b0 : decide (t395 < 0) = false := decide_eq_false c100
                 clear c100
                 by_cases c101 : t395 = t376
                 ·rw [if_pos c101] at H
                  have c101b0 : (t395 == t376) = true := beq_iff_eq.mpr c101
                  have c101b1 : (t395 != t376) = false := bne_eq_false_iff_eq.mpr c101
                  clear c101
                  obtain rfl := Option.some.inj H
                  go_wp2_with (first | ((with_reducible refine gate_callee (f := 35) rfl ?_); refine gl_ (some 111) Try.func35 #[.slice Ao83 t377.length co83, .int .i64 1] (h := ?_); (with_reducible refine (laws_heldByteS.calls kj81 _ _ t377 1 t395 _ ?side1 ?side2 A99.out).mono ?_); (case side1 => repeat (first | exact (Kd.R_reads' HO_10.out).2.2 | (with_reducible refine Kd.C_alloc ?_ _) | (with_reducible refine Kd.C_drewN ?_ _) | (with_reducible refine Kd.C_drew ?_))); (case side2 => exact (Kd.R_reads' HO_10.out).2.1); rintro e w' ⟨rfl, ⟨nd, rfl⟩⟩; refine ⟨_, rfl, ?_⟩))
                  go_ret
                  exact ⟨by first | rfl | (simp [errW_none, errW_some] <;> rfl) | (simp [*, errW_none, errW_some] <;> rfl), by repeat (first | (with_reducible first | exact HB.out | apply below_alloc | apply pw_below_drewN | apply below_drew1 | refine below_set ?_ GE325.out) | exact HB.out)⟩
                 ·rw [if_neg c101] at H
                  have c101b0 : (t395 == t376) = false := beq_eq_false_iff_ne.mpr c101
                  have c101b1 : (t395 != t376) = true := bne_iff_ne.mpr c101
                  obtain rfl := Option.some.inj H
                  go_wp2_with (first | ((with_reducible refine gate_callee (f := 35) rfl ?_); refine gl_ (some 111) Try.func35 #[.slice Ao83 t377.length co83, .int .i64 1] (h := ?_); (with_reducible refine (laws_heldByteS.calls kj81 _ _ t377 1 t395 _ ?side1 ?side2 A99.out).mono ?_); (case side1 => repeat (first | exact (Kd.R_reads' HO_10.out).2.2 | (with_reducible refine Kd.C_alloc ?_ _) | (with_reducible refine Kd.C_drewN ?_ _) | (with_reducible refine Kd.C_drew ?_))); (case side2 => exact (Kd.R_reads' HO_10.out).2.1); rintro e w' ⟨rfl, ⟨nd, rfl⟩⟩; refine ⟨_, rfl, ?_⟩))
                  go_ret
                  exact ⟨by first | rfl | (simp [errW_none, errW_some] <;> rfl) | (simp [*, errW_none, errW_some] <;> rfl), by repeat (first | (with_reducible first | exact HB.out | apply below_alloc | apply pw_below_drewN | apply below_drew1 | refine below_set ?_ GE325.out) | exact HB.out)⟩
            ·rw [if_neg c78] at H
             have c78b0 : (t378 == t376) = false := beq_eq_false_iff_ne.mpr c78
             have c78b1 : (t378 != t376) = true := bne_iff_ne.mpr c78
             obtain rfl := Option.some.inj H
             obtain ⟨Ao102, co102, eo102⟩ := Kd.R_slice HO_10.out
             subst eo102
             go_wp2_with (first | ((with_reducible refine gate_callee (f := 34) rfl ?_); refine gl_ (some 83) Try.func34 #[.slice Ao102 t354.length co102, .int .i64 1] (h := ?_); (with_reducible refine (laws_markByteS.calls kj52 (fun k_ => some k_ = (.slice Ao102 t354.length co102 : Value).ownBlock) (.slice Ao102 t354.length co102) t354 1 t376 t377 w _ ?side1 ?side2 A73.out).mono ?_); (case side1 => repeat (first | (with_reducible first | exact HB.out | apply below_alloc | apply pw_below_drewN | apply below_drew1 | refine below_set ?_ GE325.out) | exact HB.out)); (case side2 => exact Kd.R_tight rfl HO_10.out); rintro e w103 ⟨rfl, hy0, hb, hkp⟩; refine ⟨_, rfl, ?_⟩; replace HO_6 := Aside0.mk (Kd.R_mono (ok' := fun k_ => some k_ ≠ (.slice Ao102 t354.length co102 : Value).ownBlock) (Kd.R_keptB (HO_6.out) hkp (fun k_ hk_ hs_ => (hk_) hs_)) (fun k_ hk_ => hk_.1)); replace BK325 := Aside0.mk (blk_kept (by (with_reducible repeat (first | refine blk_drewN ?_ _ | refine blk_drew ?_ | refine blk_alloc ?_ _)); exact BK325.out) hkp (fun hs_ => (fun e_ => (Kd.R_ne HO_10.out BK325.out (by decide)) e_) hs_)); replace HO_10 := Aside0.mk (Kd.R_reok rfl hy0 (fun k_ e_ => HO_10.out.1 k_ e_)); replace HB := Aside0.mk (hb); (try clear hb); (try clear hkp); (try clear hy0)) | ((with_reducible refine gate_callee (f := 35) rfl ?_); refine goesL_ (some 86) rfl rfl Try.func35 (by kernel_rfl) rfl #[.slice Ao102 t377.length co102, .int .i64 1] rfl (by (try simp only [List.map_toArray, List.map_cons, List.map_nil]); first | done | (rw [show t377.length = t354.length from (Kd.R_reads' HO_10.out).1.symm] <;> rfl) | rfl | (simp only [List.length_drop, List.length_take]; rfl)) ?_; (with_reducible refine (laws_heldByteS.calls kj52 _ _ t377 1 t378 _ ?side1 ?side2 A74.out).mono ?_); (case side1 => repeat (first | exact (Kd.R_reads' HO_10.out).2.2 | (with_reducible refine Kd.C_alloc ?_ _) | (with_reducible refine Kd.C_drewN ?_ _) | (with_reducible refine Kd.C_drew ?_))); (case side2 => rw [show t377.length = t354.length from (Kd.R_reads' HO_10.out).1.symm]; exact (Kd.R_reads' HO_10.out).2.1); rintro e w' ⟨rfl, ⟨nd, rfl⟩⟩; refine ⟨_, rfl, ?_⟩))
             go_ret
             exact ⟨by first | rfl | (simp [errW_none, errW_some] <;> rfl) | (simp [*, errW_none, errW_some] <;> rfl), by repeat (first | (with_reducible first | exact HB.out | apply below_alloc | apply pw_below_drewN | apply below_drew1 | refine below_set ?_ GE325.out) | exact HB.out)⟩
       ·replace c50 := Bool.eq_false_iff.mpr c50
        subst c50
        have H1 : (some false) = some r := by rw [if_neg (show ¬ (false = true) by decide)] at H; exact H
        clear H
        have H := H1
        clear H1
        obtain rfl := Option.some.inj H
        try go_wp2
        replace HO_6 := Aside0.mk (Kd.R_drew HO_6.out)
        replace HO_9 := Aside0.mk (Kd.R_drew HO_9.out)
        replace HO_10 := Aside0.mk (Kd.R_drew HO_10.out)
        replace HO_351000 := Aside0.mk (Kd.R_drew HO_351000.out)
        replace HO_351003 := Aside0.mk (Kd.R_drew HO_351003.out)
        replace BK325 := Aside0.mk (blk_drew BK325.out)
        replace BK350 := Aside0.mk (blk_drew BK350.out)
        replace HB := Aside0.mk (below_drew1 HB.out)
        refine start_ (n := 5) (S := fun w' => w'.cell? ⟨gb350, 0, none⟩ = some (.slice Ao30 t342.length co30) ∧ w'.cell? ⟨gb350, 1, none⟩ = some (.bool t345) ∧ w'.cell? ⟨gb350, 2, none⟩ = some (.int .i64 t346) ∧ w'.cell? ⟨gb350, 3, none⟩ = some (.slice Ao33 t347.length co33) ∧ w'.cell? ⟨gb325, 0, none⟩ = some (.slice A0_0 l0_0.length c0_0) ∧ w'.cell? ⟨gb325, 1, none⟩ = some (.bool a0_1) ∧ w'.cell? ⟨gb325, 2, none⟩ = some (.int .i64 a0_2) ∧ w'.cell? ⟨gb325, 3, none⟩ = some (.slice A0_3 l0_3.length c0_3)) (ds := []) #[false, false, false, false, false] (by kernel_rfl) rfl rfl (cells_4 BK350.out ⟨(blk_cell BK325.out 0).trans rfl, (blk_cell BK325.out 1).trans rfl, (blk_cell BK325.out 2).trans rfl, (blk_cell BK325.out 3).trans rfl⟩) (fun hHeld => ?_)
        generalize wc.drew = w104 at HO_6 HO_9 HO_10 HO_351000 HO_351003 BK325 BK350 HB hHeld ⊢
        refine take_ (i := 0) (N := some 52) (v := ?_) (a' := ?_) #[true, false, false, false, false] rfl rfl (by kernel_rfl) (fun _ _ _ h => h) (Or.inl ⟨by rfl, ?_⟩) hHeld ?_ ?_
        rotate_left
        ·rintro w' ⟨s0, s1, s2, s3, s4, s5, s6, s7⟩
         go_simp
         with_reducible rfl
        rotate_left
        ·simp only [Act.put, List.setIfInBounds_toArray, List.set_cons_zero, List.set_cons_succ, i64_w, i32_w]
         rfl
        refine take_ (i := 1) (N := some 53) (v := ?_) (a' := ?_) #[true, true, false, false, false] rfl rfl (by kernel_rfl) (fun _ _ _ h => h) (Or.inl ⟨by rfl, ?_⟩) hHeld ?_ ?_
        rotate_left
        ·rintro w' ⟨s0, s1, s2, s3, s4, s5, s6, s7⟩
         go_simp
         with_reducible rfl
        rotate_left
        ·simp only [Act.put, List.setIfInBounds_toArray, List.set_cons_zero, List.set_cons_succ, i64_w, i32_w]
         rfl
        refine one_ (i := 2) (N := some 54) #[true, true, true, false, false] rfl rfl (by kernel_rfl) (by decide) (fun K hK => ?_)
        refine gs_ Try.func17 #[.agg #[.slice A0_0 l0_0.length c0_0, .bool a0_1, .int .i64 a0_2, .slice A0_3 l0_3.length c0_3]] (h := ?_)
        with_reducible refine (laws_toTree.calls kj15 _ _ l0_0 a0_1 a0_2 _ _ l0_3 t359 t362 t363 t364 _ ?side1 ?side2 ?side3 ?side4 A45.out).mono ?_
        (case side1 => exact kcb)
        (case side2 => exact HC0_0.out)
        (case side3 => exact kcb)
        (case side4 => exact HC0_3.out)
        rintro e w105 ⟨v360, v365, rfl, ho0, ho1, hb⟩
        refine ⟨_, rfl, ?_⟩
        have HO361 := Aside0.mk (Kd.R_lower (Kd.R_new' (Kd.R_new' (Kd.R_new' (Kd.R_new' ho0 (Kd.R_lt (by (with_reducible repeat (first | apply Kd.R_alloc | apply Kd.R_drewN | apply Kd.R_drew)); exact HO_6.out))) (Kd.R_lt (by (with_reducible repeat (first | apply Kd.R_alloc | apply Kd.R_drewN | apply Kd.R_drew)); exact HO_9.out))) (Kd.R_lt (by (with_reducible repeat (first | apply Kd.R_alloc | apply Kd.R_drewN | apply Kd.R_drew)); exact HO_10.out))) (Kd.R_lt (by (with_reducible repeat (first | apply Kd.R_alloc | apply Kd.R_drewN | apply Kd.R_drew)); exact HO_351000.out))) (below_size bel))
        have HO366 := Aside0.mk (Kd.R_lower (Kd.R_newB (Kd.R_new' (Kd.R_new' (Kd.R_new' (Kd.R_new' (Kd.R_new' ho1 (Kd.R_lt (by (with_reducible repeat (first | apply Kd.R_alloc | apply Kd.R_drewN | apply Kd.R_drew)); exact HO_6.out))) (Kd.R_lt (by (with_reducible repeat (first | apply Kd.R_alloc | apply Kd.R_drewN | apply Kd.R_drew)); exact HO_9.out))) (Kd.R_lt (by (with_reducible repeat (first | apply Kd.R_alloc | apply Kd.R_drewN | apply Kd.R_drew)); exact HO_10.out))) (Kd.R_lt (by (with_reducible repeat (first | apply Kd.R_alloc | apply Kd.R_drewN | apply Kd.R_drew)); exact HO_351000.out))) (Kd.R_lt (by (with_reducible repeat (first | apply Kd.R_alloc | apply Kd.R_drewN | apply Kd.R_drew)); exact HO_351003.out))) (g := gb350) (o := .cells #[.slice Ao30 t342.length co30, .bool t345, .int .i64 t346, .slice Ao33 t347.length co33] 30 (0, 0)) (by (with_reducible repeat (first | refine blk_drewN ?_ _ | refine blk_drew ?_ | refine blk_alloc ?_ _)); exact BK350.out)) (below_size bel))
        replace HO_6 := Aside0.mk (Kd.R_elder' (by (with_reducible repeat (first | apply Kd.R_alloc | apply Kd.R_drewN | apply Kd.R_drew)); exact HO_6.out) (Kd.R_base ho0) hb)
        replace HO_9 := Aside0.mk (Kd.R_elder' (by (with_reducible repeat (first | apply Kd.R_alloc | apply Kd.R_drewN | apply Kd.R_drew)); exact HO_9.out) (Kd.R_base ho0) hb)
        replace HO_10 := Aside0.mk (Kd.R_elder' (by (with_reducible repeat (first | apply Kd.R_alloc | apply Kd.R_drewN | apply Kd.R_drew)); exact HO_10.out) (Kd.R_base ho0) hb)
        replace HO_351000 := Aside0.mk (Kd.R_elder' (by (with_reducible repeat (first | apply Kd.R_alloc | apply Kd.R_drewN | apply Kd.R_drew)); exact HO_351000.out) (Kd.R_base ho0) hb)
        replace HO_351003 := Aside0.mk (Kd.R_mono (Kd.R_told (Kd.R_told (Kd.R_old (by (with_reducible repeat (first | apply Kd.R_alloc | apply Kd.R_drewN | apply Kd.R_drew)); exact HO_351003.out) hb) (Kd.R_base ho0)) (Kd.R_base ho1)) (fun _ h_ => h_.1))
        replace BK325 := Aside0.mk (blb BK325 hb)
        replace BK350 := Aside0.mk (blb BK350 hb)
        replace HB := Aside0.mk (below_step bel hb)
        (try clear hb)
        (try clear hb2)
        (try clear hk)
        (try clear hi)
        (try clear ho0)
        (try clear ho1)
        obtain ⟨Ao106, co106, eo106⟩ := Kd.R_slice HO361.out
        (first | subst eo106 | (injection eo106 with f1_ f2_ f3_; have f4_ := f1_.symm; have f5_ := f3_.symm; clear f1_ f2_ f3_; subst f4_; subst f5_))
        obtain ⟨Ao107, co107, eo107⟩ := Kd.R_slice HO366.out
        (first | subst eo107 | (injection eo107 with f1_ f2_ f3_; have f4_ := f1_.symm; have f5_ := f3_.symm; clear f1_ f2_ f3_; subst f4_; subst f5_))
        refine hK.out _ _ (cells_4 BK350.out ⟨(blk_cell BK325.out 0).trans rfl, (blk_cell BK325.out 1).trans rfl, (blk_cell BK325.out 2).trans rfl, (blk_cell BK325.out 3).trans rfl⟩) (fun hHeld => ?_)
        clear hK K
        refine norm_ (a' := ?_) ?_ ?_
        rotate_left
        ·show Act.put _ (some 54) _ = _
         simp only [Act.put, List.setIfInBounds_toArray, List.set_cons_zero, List.set_cons_succ, i64_w, i32_w]
         rfl
        refine one_ (i := 3) (N := some 55) #[true, true, true, true, false] rfl rfl (by kernel_rfl) (by decide) (fun K hK => ?_)
        refine gs_ Try.func19 #[.agg #[.slice Ao30 t342.length co30, .bool t345, .int .i64 t346, .slice Ao33 t347.length co33], .agg #[.slice Ao106 t359.length co106, .bool t362, .int .i64 t363, .slice Ao107 t364.length co107]] (h := ?_)
        with_reducible refine (laws_eqTree.calls kj15 _ _ t342 t345 t346 _ _ t347 _ _ t359 t362 t363 _ _ t364 true _ ?side1 ?side2 ?side3 ?side4 ?side5 ?side6 ?side7 ?side8 A46.out).mono ?_
        (case side1 => repeat (first | exact (Kd.R_reads' HO_351000.out).2.2 | (with_reducible refine Kd.C_alloc ?_ _) | (with_reducible refine Kd.C_drewN ?_ _) | (with_reducible refine Kd.C_drew ?_)))
        (case side2 => exact (Kd.R_reads' HO_351000.out).2.1)
        (case side3 => repeat (first | exact (Kd.R_reads' HO_351003.out).2.2 | (with_reducible refine Kd.C_alloc ?_ _) | (with_reducible refine Kd.C_drewN ?_ _) | (with_reducible refine Kd.C_drew ?_)))
        (case side4 => exact (Kd.R_reads' HO_351003.out).2.1)
        (case side5 => repeat (first | exact (Kd.R_reads' HO361.out).2.2 | (with_reducible refine Kd.C_alloc ?_ _) | (with_reducible refine Kd.C_drewN ?_ _) | (with_reducible refine Kd.C_drew ?_)))
        (case side6 => exact (Kd.R_reads' HO361.out).2.1)
        (case side7 => repeat (first | exact (Kd.R_reads' HO366.out).2.2 | (with_reducible refine Kd.C_alloc ?_ _) | (with_reducible refine Kd.C_drewN ?_ _) | (with_reducible refine Kd.C_drew ?_)))
        (case side8 => exact (Kd.R_reads' HO366.out).2.1)
        rintro e w108 ⟨rfl, hb⟩
        refine ⟨_, rfl, ?_⟩
        replace HO_6 := Aside0.mk (rbl HO_6 hb)
        replace HO_9 := Aside0.mk (rbl HO_9 hb)
        replace HO_10 := Aside0.mk (rbl HO_10 hb)
        replace HO_351000 := Aside0.mk (rbl HO_351000 hb)
        replace HO_351003 := Aside0.mk (rbl HO_351003 hb)
        replace HO361 := Aside0.mk (rbl HO361 hb)
        replace HO366 := Aside0.mk (rbl HO366 hb)
        replace BK325 := Aside0.mk (blb BK325 hb)
        replace BK350 := Aside0.mk (blb BK350 hb)
        replace HB := Aside0.mk (below_step bel hb)
        (try clear hb)
        (try clear hb2)
        (try clear hk)
        (try clear hi)
        refine hK.out _ _ (cells_4 BK350.out ⟨(blk_cell BK325.out 0).trans rfl, (blk_cell BK325.out 1).trans rfl, (blk_cell BK325.out 2).trans rfl, (blk_cell BK325.out 3).trans rfl⟩) (fun hHeld => ?_)
        clear hK K
        refine norm_ (a' := ?_) ?_ ?_
        rotate_left
        ·show Act.put _ (some 55) _ = _
         simp only [Act.put, List.setIfInBounds_toArray, List.set_cons_zero, List.set_cons_succ, i64_w, i32_w]
         rfl
        refine pure_ (i := 4) (N := some 56) (v := ?_) (a' := ?_) #[true, true, true, true, true] rfl rfl (by kernel_rfl) (fun _ _ _ h => h) (Or.inl ⟨by rfl, ?_⟩) ?_ ?_
        rotate_left
        ·intro w'
         go_simp
         with_reducible rfl
        rotate_left
        ·simp only [Act.put, List.setIfInBounds_toArray, List.set_cons_zero, List.set_cons_succ, i64_w, i32_w]
         rfl
        refine done_ (by kernel_rfl) ?_
        try go_wp2_with (first | ((with_reducible refine gate_callee (f := 23) rfl ?_); refine gl_ (some 59) Try.func23 #[.slice A1 l1.length c1] (h := ?_); (with_reducible refine (laws_toByteS.calls kj15 _ _ l1 t368 _ ?side1 ?side2 A48.out).mono ?_); (case side1 => exact kcb); (case side2 => exact HC1.out); rintro e w109 ⟨v369, rfl, ho0, hb⟩; refine ⟨_, rfl, ?_⟩; have HO370 := Aside0.mk (Kd.R_lower (Kd.R_new' (Kd.R_new' (Kd.R_new' (Kd.R_new' (Kd.R_new' ho0 (Kd.R_lt (by (with_reducible repeat (first | apply Kd.R_alloc | apply Kd.R_drewN | apply Kd.R_drew)); exact HO_6.out))) (Kd.R_lt (by (with_reducible repeat (first | apply Kd.R_alloc | apply Kd.R_drewN | apply Kd.R_drew)); exact HO_9.out))) (Kd.R_lt (by (with_reducible repeat (first | apply Kd.R_alloc | apply Kd.R_drewN | apply Kd.R_drew)); exact HO_10.out))) (Kd.R_lt (by (with_reducible repeat (first | apply Kd.R_alloc | apply Kd.R_drewN | apply Kd.R_drew)); exact HO_351000.out))) (Kd.R_lt (by (with_reducible repeat (first | apply Kd.R_alloc | apply Kd.R_drewN | apply Kd.R_drew)); exact HO361.out))) (below_size bel)); replace HO_6 := Aside0.mk (Kd.R_elder' (by (with_reducible repeat (first | apply Kd.R_alloc | apply Kd.R_drewN | apply Kd.R_drew)); exact HO_6.out) (Kd.R_base ho0) hb); replace HO_9 := Aside0.mk (Kd.R_elder' (by (with_reducible repeat (first | apply Kd.R_alloc | apply Kd.R_drewN | apply Kd.R_drew)); exact HO_9.out) (Kd.R_base ho0) hb); replace HO_10 := Aside0.mk (Kd.R_elder' (by (with_reducible repeat (first | apply Kd.R_alloc | apply Kd.R_drewN | apply Kd.R_drew)); exact HO_10.out) (Kd.R_base ho0) hb); replace HO_351000 := Aside0.mk (Kd.R_elder' (by (with_reducible repeat (first | apply Kd.R_alloc | apply Kd.R_drewN | apply Kd.R_drew)); exact HO_351000.out) (Kd.R_base ho0) hb); replace HO_351003 := Aside0.mk (Kd.R_elder' (by (with_reducible repeat (first | apply Kd.R_alloc | apply Kd.R_drewN | apply Kd.R_drew)); exact HO_351003.out) (Kd.R_base ho0) hb); replace HO361 := Aside0.mk (Kd.R_elder' (by (with_reducible repeat (first | apply Kd.R_alloc | apply Kd.R_drewN | apply Kd.R_drew)); exact HO361.out) (Kd.R_base ho0) hb); replace HO366 := Aside0.mk (Kd.R_elder' (by (with_reducible repeat (first | apply Kd.R_alloc | apply Kd.R_drewN | apply Kd.R_drew)); exact HO366.out) (Kd.R_base ho0) hb); replace BK325 := Aside0.mk (blb BK325 hb); replace BK350 := Aside0.mk (blb BK350 hb); replace HB := Aside0.mk (below_step bel hb); (try clear hb); (try clear hb2); (try clear hk); (try clear hi); (try clear ho0); obtain ⟨Ao110, co110, eo110⟩ := Kd.R_slice HO370.out; subst eo110) | ((with_reducible refine gate_callee (f := 25) rfl ?_); refine gl_ (some 60) Try.func25 #[.slice Ao36 t351.length co36, .slice Ao110 t368.length co110] (h := ?_); (with_reducible refine (laws_eqByteS.calls kj15 _ _ t351 _ _ t368 false _ ?side1 ?side2 ?side3 ?side4 A49.out).mono ?_); (case side1 => repeat (first | exact (Kd.R_reads' HO_9.out).2.2 | (with_reducible refine Kd.C_alloc ?_ _) | (with_reducible refine Kd.C_drewN ?_ _) | (with_reducible refine Kd.C_drew ?_))); (case side2 => exact (Kd.R_reads' HO_9.out).2.1); (case side3 => repeat (first | exact (Kd.R_reads' HO370.out).2.2 | (with_reducible refine Kd.C_alloc ?_ _) | (with_reducible refine Kd.C_drewN ?_ _) | (with_reducible refine Kd.C_drew ?_))); (case side4 => exact (Kd.R_reads' HO370.out).2.1); rintro e w' ⟨rfl, ⟨nd, rfl⟩⟩; refine ⟨_, rfl, ?_⟩))
        go_ret
        exact ⟨by first | rfl | (simp [errW_none, errW_some] <;> rfl) | (simp [*, errW_none, errW_some] <;> rfl), by repeat (first | (with_reducible first | exact HB.out | apply below_alloc | apply pw_below_drewN | apply below_drew1 | refine below_set ?_ GE325.out | refine below_set ?_ GE350.out) | exact HB.out)⟩
      ·replace c47 := Bool.eq_false_iff.mpr c47
       subst c47
       have H1 : (some false) = some r := by rw [if_neg (show ¬ (false = true) by decide)] at H; exact H
       clear H
       have H := H1
       clear H1
       obtain rfl := Option.some.inj H
       try go_wp2
       replace HO_6 := Aside0.mk (Kd.R_drew HO_6.out)
       replace HO_9 := Aside0.mk (Kd.R_drew HO_9.out)
       replace HO_10 := Aside0.mk (Kd.R_drew HO_10.out)
       replace HO_351000 := Aside0.mk (Kd.R_drew HO_351000.out)
       replace HO_351003 := Aside0.mk (Kd.R_drew HO_351003.out)
       replace BK325 := Aside0.mk (blk_drew BK325.out)
       replace BK350 := Aside0.mk (blk_drew BK350.out)
       replace HB := Aside0.mk (below_drew1 HB.out)
       refine start_ (n := 5) (S := fun w' => w'.cell? ⟨gb350, 0, none⟩ = some (.slice Ao30 t342.length co30) ∧ w'.cell? ⟨gb350, 1, none⟩ = some (.bool t345) ∧ w'.cell? ⟨gb350, 2, none⟩ = some (.int .i64 t346) ∧ w'.cell? ⟨gb350, 3, none⟩ = some (.slice Ao33 t347.length co33) ∧ w'.cell? ⟨gb325, 0, none⟩ = some (.slice A0_0 l0_0.length c0_0) ∧ w'.cell? ⟨gb325, 1, none⟩ = some (.bool a0_1) ∧ w'.cell? ⟨gb325, 2, none⟩ = some (.int .i64 a0_2) ∧ w'.cell? ⟨gb325, 3, none⟩ = some (.slice A0_3 l0_3.length c0_3)) (ds := []) #[false, false, false, false, false] (by kernel_rfl) rfl rfl (cells_4 BK350.out ⟨(blk_cell BK325.out 0).trans rfl, (blk_cell BK325.out 1).trans rfl, (blk_cell BK325.out 2).trans rfl, (blk_cell BK325.out 3).trans rfl⟩) (fun hHeld => ?_)
       generalize wc.drew = w111 at HO_6 HO_9 HO_10 HO_351000 HO_351003 BK325 BK350 HB hHeld ⊢
       refine take_ (i := 0) (N := some 52) (v := ?_) (a' := ?_) #[true, false, false, false, false] rfl rfl (by kernel_rfl) (fun _ _ _ h => h) (Or.inl ⟨by rfl, ?_⟩) hHeld ?_ ?_
       rotate_left
       ·rintro w' ⟨s0, s1, s2, s3, s4, s5, s6, s7⟩
        go_simp
        with_reducible rfl
       rotate_left
       ·simp only [Act.put, List.setIfInBounds_toArray, List.set_cons_zero, List.set_cons_succ, i64_w, i32_w]
        rfl
       refine take_ (i := 1) (N := some 53) (v := ?_) (a' := ?_) #[true, true, false, false, false] rfl rfl (by kernel_rfl) (fun _ _ _ h => h) (Or.inl ⟨by rfl, ?_⟩) hHeld ?_ ?_
       rotate_left
       ·rintro w' ⟨s0, s1, s2, s3, s4, s5, s6, s7⟩
        go_simp
        with_reducible rfl
       rotate_left
       ·simp only [Act.put, List.setIfInBounds_toArray, List.set_cons_zero, List.set_cons_succ, i64_w, i32_w]
        rfl
       refine one_ (i := 2) (N := some 54) #[true, true, true, false, false] rfl rfl (by kernel_rfl) (by decide) (fun K hK => ?_)
       refine gs_ Try.func17 #[.agg #[.slice A0_0 l0_0.length c0_0, .bool a0_1, .int .i64 a0_2, .slice A0_3 l0_3.length c0_3]] (h := ?_)
       with_reducible refine (laws_toTree.calls kj15 _ _ l0_0 a0_1 a0_2 _ _ l0_3 t359 t362 t363 t364 _ ?side1 ?side2 ?side3 ?side4 A45.out).mono ?_
       (case side1 => exact kcb)
       (case side2 => exact HC0_0.out)
       (case side3 => exact kcb)
       (case side4 => exact HC0_3.out)
       rintro e w112 ⟨v360, v365, rfl, ho0, ho1, hb⟩
       refine ⟨_, rfl, ?_⟩
       have HO361 := Aside0.mk (Kd.R_lower (Kd.R_new' (Kd.R_new' (Kd.R_new' (Kd.R_new' ho0 (Kd.R_lt (by (with_reducible repeat (first | apply Kd.R_alloc | apply Kd.R_drewN | apply Kd.R_drew)); exact HO_6.out))) (Kd.R_lt (by (with_reducible repeat (first | apply Kd.R_alloc | apply Kd.R_drewN | apply Kd.R_drew)); exact HO_9.out))) (Kd.R_lt (by (with_reducible repeat (first | apply Kd.R_alloc | apply Kd.R_drewN | apply Kd.R_drew)); exact HO_10.out))) (Kd.R_lt (by (with_reducible repeat (first | apply Kd.R_alloc | apply Kd.R_drewN | apply Kd.R_drew)); exact HO_351000.out))) (below_size bel))
       have HO366 := Aside0.mk (Kd.R_lower (Kd.R_newB (Kd.R_new' (Kd.R_new' (Kd.R_new' (Kd.R_new' (Kd.R_new' ho1 (Kd.R_lt (by (with_reducible repeat (first | apply Kd.R_alloc | apply Kd.R_drewN | apply Kd.R_drew)); exact HO_6.out))) (Kd.R_lt (by (with_reducible repeat (first | apply Kd.R_alloc | apply Kd.R_drewN | apply Kd.R_drew)); exact HO_9.out))) (Kd.R_lt (by (with_reducible repeat (first | apply Kd.R_alloc | apply Kd.R_drewN | apply Kd.R_drew)); exact HO_10.out))) (Kd.R_lt (by (with_reducible repeat (first | apply Kd.R_alloc | apply Kd.R_drewN | apply Kd.R_drew)); exact HO_351000.out))) (Kd.R_lt (by (with_reducible repeat (first | apply Kd.R_alloc | apply Kd.R_drewN | apply Kd.R_drew)); exact HO_351003.out))) (g := gb350) (o := .cells #[.slice Ao30 t342.length co30, .bool t345, .int .i64 t346, .slice Ao33 t347.length co33] 30 (0, 0)) (by (with_reducible repeat (first | refine blk_drewN ?_ _ | refine blk_drew ?_ | refine blk_alloc ?_ _)); exact BK350.out)) (below_size bel))
       replace HO_6 := Aside0.mk (Kd.R_elder' (by (with_reducible repeat (first | apply Kd.R_alloc | apply Kd.R_drewN | apply Kd.R_drew)); exact HO_6.out) (Kd.R_base ho0) hb)
       replace HO_9 := Aside0.mk (Kd.R_elder' (by (with_reducible repeat (first | apply Kd.R_alloc | apply Kd.R_drewN | apply Kd.R_drew)); exact HO_9.out) (Kd.R_base ho0) hb)
       replace HO_10 := Aside0.mk (Kd.R_elder' (by (with_reducible repeat (first | apply Kd.R_alloc | apply Kd.R_drewN | apply Kd.R_drew)); exact HO_10.out) (Kd.R_base ho0) hb)
       replace HO_351000 := Aside0.mk (Kd.R_elder' (by (with_reducible repeat (first | apply Kd.R_alloc | apply Kd.R_drewN | apply Kd.R_drew)); exact HO_351000.out) (Kd.R_base ho0) hb)
       replace HO_351003 := Aside0.mk (Kd.R_mono (Kd.R_told (Kd.R_told (Kd.R_old (by (with_reducible repeat (first | apply Kd.R_alloc | apply Kd.R_drewN | apply Kd.R_drew)); exact HO_351003.out) hb) (Kd.R_base ho0)) (Kd.R_base ho1)) (fun _ h_ => h_.1))
       replace BK325 := Aside0.mk (blb BK325 hb)
       replace BK350 := Aside0.mk (blb BK350 hb)
       replace HB := Aside0.mk (below_step bel hb)
       (try clear hb)
       (try clear hb2)
       (try clear hk)
       (try clear hi)
       (try clear ho0)
       (try clear ho1)
       obtain ⟨Ao113, co113, eo113⟩ := Kd.R_slice HO361.out
       (first | subst eo113 | (injection eo113 with f1_ f2_ f3_; have f4_ := f1_.symm; have f5_ := f3_.symm; clear f1_ f2_ f3_; subst f4_; subst f5_))
       obtain ⟨Ao114, co114, eo114⟩ := Kd.R_slice HO366.out
       (first | subst eo114 | (injection eo114 with f1_ f2_ f3_; have f4_ := f1_.symm; have f5_ := f3_.symm; clear f1_ f2_ f3_; subst f4_; subst f5_))
       refine hK.out _ _ (cells_4 BK350.out ⟨(blk_cell BK325.out 0).trans rfl, (blk_cell BK325.out 1).trans rfl, (blk_cell BK325.out 2).trans rfl, (blk_cell BK325.out 3).trans rfl⟩) (fun hHeld => ?_)
       clear hK K
       refine norm_ (a' := ?_) ?_ ?_
       rotate_left
       ·show Act.put _ (some 54) _ = _
        simp only [Act.put, List.setIfInBounds_toArray, List.set_cons_zero, List.set_cons_succ, i64_w, i32_w]
        rfl
       refine one_ (i := 3) (N := some 55) #[true, true, true, true, false] rfl rfl (by kernel_rfl) (by decide) (fun K hK => ?_)
       refine gs_ Try.func19 #[.agg #[.slice Ao30 t342.length co30, .bool t345, .int .i64 t346, .slice Ao33 t347.length co33], .agg #[.slice Ao113 t359.length co113, .bool t362, .int .i64 t363, .slice Ao114 t364.length co114]] (h := ?_)
       with_reducible refine (laws_eqTree.calls kj15 _ _ t342 t345 t346 _ _ t347 _ _ t359 t362 t363 _ _ t364 false _ ?side1 ?side2 ?side3 ?side4 ?side5 ?side6 ?side7 ?side8 A46.out).mono ?_
       (case side1 => repeat (first | exact (Kd.R_reads' HO_351000.out).2.2 | (with_reducible refine Kd.C_alloc ?_ _) | (with_reducible refine Kd.C_drewN ?_ _) | (with_reducible refine Kd.C_drew ?_)))
       (case side2 => exact (Kd.R_reads' HO_351000.out).2.1)
       (case side3 => repeat (first | exact (Kd.R_reads' HO_351003.out).2.2 | (with_reducible refine Kd.C_alloc ?_ _) | (with_reducible refine Kd.C_drewN ?_ _) | (with_reducible refine Kd.C_drew ?_)))
       (case side4 => exact (Kd.R_reads' HO_351003.out).2.1)
       (case side5 => repeat (first | exact (Kd.R_reads' HO361.out).2.2 | (with_reducible refine Kd.C_alloc ?_ _) | (with_reducible refine Kd.C_drewN ?_ _) | (with_reducible refine Kd.C_drew ?_)))
       (case side6 => exact (Kd.R_reads' HO361.out).2.1)
       (case side7 => repeat (first | exact (Kd.R_reads' HO366.out).2.2 | (with_reducible refine Kd.C_alloc ?_ _) | (with_reducible refine Kd.C_drewN ?_ _) | (with_reducible refine Kd.C_drew ?_)))
       (case side8 => exact (Kd.R_reads' HO366.out).2.1)
       rintro e w115 ⟨rfl, hb⟩
       refine ⟨_, rfl, ?_⟩
       replace HO_6 := Aside0.mk (rbl HO_6 hb)
       replace HO_9 := Aside0.mk (rbl HO_9 hb)
       replace HO_10 := Aside0.mk (rbl HO_10 hb)
       replace HO_351000 := Aside0.mk (rbl HO_351000 hb)
       replace HO_351003 := Aside0.mk (rbl HO_351003 hb)
       replace HO361 := Aside0.mk (rbl HO361 hb)
       replace HO366 := Aside0.mk (rbl HO366 hb)
       replace BK325 := Aside0.mk (blb BK325 hb)
       replace BK350 := Aside0.mk (blb BK350 hb)
       replace HB := Aside0.mk (below_step bel hb)
       (try clear hb)
       (try clear hb2)
       (try clear hk)
       (try clear hi)
       refine hK.out _ _ (cells_4 BK350.out ⟨(blk_cell BK325.out 0).trans rfl, (blk_cell BK325.out 1).trans rfl, (blk_cell BK325.out 2).trans rfl, (blk_cell BK325.out 3).trans rfl⟩) (fun hHeld => ?_)
       clear hK K
       refine norm_ (a' := ?_) ?_ ?_
       rotate_left
       ·show Act.put _ (some 55) _ = _
        simp only [Act.put, List.setIfInBounds_toArray, List.set_cons_zero, List.set_cons_succ, i64_w, i32_w]
        rfl
       refine pure_ (i := 4) (N := some 56) (v := ?_) (a' := ?_) #[true, true, true, true, true] rfl rfl (by kernel_rfl) (fun _ _ _ h => h) (Or.inl ⟨by rfl, ?_⟩) ?_ ?_
       rotate_left
       ·intro w'
        go_simp
        with_reducible rfl
       rotate_left
       ·simp only [Act.put, List.setIfInBounds_toArray, List.set_cons_zero, List.set_cons_succ, i64_w, i32_w]
        rfl
       refine done_ (by kernel_rfl) ?_
       try go_wp2
       go_ret
       exact ⟨by first | rfl | (simp [errW_none, errW_some] <;> rfl) | (simp [*, errW_none, errW_some] <;> rfl), by repeat (first | (with_reducible first | exact HB.out | apply below_alloc | apply pw_below_drewN | apply below_drew1 | refine below_set ?_ GE325.out | refine below_set ?_ GE350.out) | exact HB.out)⟩

/-- THE ONE PURE STATEMENT of laws_FnExactTreeLongest. -/
def laws_FnExactTreeLongest.Pure : Prop := ∀ (x0 : S25) (l1 : List Int), okS25 x0 → l1.length ≤ maxLen → l1.length * 1 ≤ 140737488351232 → (∀ x ∈ l1, (Lit.int .u8 x).wf = true) → ∃ k, laws_FnExactTreeLongest.f k x0.f0 x0.f1 x0.f2 x0.f3 l1 = some true
theorem laws_FnExactTreeLongest.walk (P : laws_FnExactTreeLongest.Pure) (x0 : S25) (cs0 : List Value) (a1 : Option Addr) (len1 cap1 : Nat) (z1 : List Int) (w : World) (w0 : k25.K w x0 cs0) (o0 : okS25 x0) (w1 : (a1 = none ∧ len1 = 0 ∧ cap1 = 0 ∧ z1 = []) ∨ ∃ x, a1 = some x ∧ len1 ≤ cap1 ∧ cap1 ≤ maxLen ∧ z1.length = cap1 ∧ (∀ i, i < z1.length → w.cell? (x.add i) = some (.int .u8 (z1.getD i 0))) ∧ ∀ n ∈ z1, (Lit.int .u8 n).wf = true) (y1 : len1 * 1 ≤ 140737488351232) :
  Calls Try.prog 8 #[.agg ⟨cs0⟩, .slice a1 len1 cap1] w fun e w' => e = .returned (.bool true) ∧ Below w.heap.size w w' := by
 obtain ⟨A0_0, c0_0, A0_3, c0_3, rfl, m0_0, g0_0, m0_3, g0_3⟩ := k25_open w0
 obtain ⟨l1, rfl, hr1, hm1, hw1, hc1⟩ := ReadsInt.ofRowC w1
 obtain ⟨k, h⟩ := P x0 l1 o0 hm1 y1 hw1
 refine (laws_FnExactTreeLongest.calls k _ _ x0.f0 x0.f1 x0.f2 _ _ x0.f3 _ _ l1 true w g0_0 m0_0 g0_3 m0_3 (Kd.C_of_reads (d := (0 : Int)) (h1 := fun _ => rfl) hr1) hc1 h).mono ?_
 rintro e w' ⟨rfl, hd⟩
 exact ⟨rfl, hd⟩

end Go.Proofs.Ytoaddpfoecggpaa.PT
