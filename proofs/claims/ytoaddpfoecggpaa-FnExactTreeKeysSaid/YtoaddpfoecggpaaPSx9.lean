-- Written for this claim by the session's program pp.py, out of the kit's print and the seat's translation.
import Derived.Test.YtoaddpfoecggpaaPSx0
import Derived.Test.YtoaddpfoecggpaaPSx1
import Derived.Test.YtoaddpfoecggpaaPSx2
import Derived.Test.YtoaddpfoecggpaaPSx4
import Derived.Test.YtoaddpfoecggpaaPSx5
import Derived.Test.YtoaddpfoecggpaaPSx7
import Derived.Test.YtoaddpfoecggpaaPSx8
namespace Go.Proofs.Ytoaddpfoecggpaa.PS
open Go.RowKit Go.Proofs.YtoaddpfoecggpaaW.PrintWords Go.Proofs.YtoaddpfoecggpaaW.PrintLast Go.Proofs.YtoaddpfoecggpaaW.PrintMore
attribute [local go_sem] max2_int min2_int max_two min_two max_three min_three max_four min_four   -- for this text's walks alone
set_option linter.unusedVariables false
set_option linter.unusedSimpArgs false

/-! ### laws_FnExactTreeKeys: function 9 -/
def laws_FnExactTreeKeys.j0 : Nat → List Int → List (List Int) → List (List Int) → Bool → List Int → Bool → Int → List (S25) → Option (Bool)
 | 0, _, _, _, _, _, _, _, _ => none
 | k + 1, x1, x6, x9, x61, x236000, x236001, x236002, x236003 => if x61 = true then (some false) else ((laws_markByteSS1.f k x9 1).bind fun t280 => ((laws_heldByteSSm.f k x9 1).bind fun t281 => (if t281 < 0 then (some false) else (if t281 = t280 then ((laws_toTree.f k x236000 x236001 x236002 x236003).bind fun bt282 => ((laws_toByteS.f k x1).bind fun t290 => ((impl_TreeKeys.f k bt282.1 bt282.2.1 bt282.2.2.1 bt282.2.2.2 t290).bind fun t293 => ((laws_eqByteSS.f k t293 x6).bind fun t294 => (if t294 = true then ((laws_heldByteSSm.f k x9 1).bind fun t295 => (if t295 < 0 then (some false) else (if t295 = t280 then (some true) else (some false)))) else (some false)))))) else (some false)))))
def laws_FnExactTreeKeys.f (k : Nat) (l0_0 : List Int) (a0_1 : Bool) (a0_2 : Int) (l0_3 : List (S25)) (l1 : List Int) : Option (Bool) := if (l1.length : Int) > 1048576 then (some true) else ((laws_szTree.f k l0_0 a0_1 a0_2 l0_3 1048576).bind fun t236 => (if t236 < 0 then (some true) else ((laws_toTree.f k l0_0 a0_1 a0_2 l0_3).bind fun bt237 => ((laws_toByteS.f k l1).bind fun t245 => ((spec_TreeKeys.f k bt237.1 bt237.2.1 bt237.2.2.1 bt237.2.2.2 t245).bind fun t248 => ((laws_toTree.f k l0_0 a0_1 a0_2 l0_3).bind fun bt249 => ((laws_toByteS.f k l1).bind fun t258 => ((impl_TreeKeys.f k bt249.1 bt249.2.1 bt249.2.2.1 bt249.2.2.2 t258).bind fun t261 => ((laws_eqByteSS.f k t261 t248).bind fun t262 => (if t262 = true then ((laws_toTree.f k l0_0 a0_1 a0_2 l0_3).bind fun bt263 => ((laws_eqTree.f k bt249.1 bt249.2.1 bt249.2.2.1 bt249.2.2.2 bt263.1 bt263.2.1 bt263.2.2.1 bt263.2.2.2).bind fun t271 => (if t271 = true then ((laws_toByteS.f k l1).bind fun t272 => ((laws_eqByteS.f k t258 t272).bind fun t275 => (if t275 = true then ((laws_markTree.f k bt249.1 bt249.2.1 bt249.2.2.1 bt249.2.2.2 1).bind fun t276 => ((laws_markByteS.f k t258 t276).bind fun bt277 => (if bt277.1 < 0 then (laws_FnExactTreeKeys.j0 k l1 t248 t261 true l0_0 a0_1 a0_2 l0_3) else ((laws_eqByteSS.f k t261 t248).bind fun t279 => (laws_FnExactTreeKeys.j0 k l1 t248 t261 (!t279) l0_0 a0_1 a0_2 l0_3))))) else (some false)))) else (some false)))) else (some false)))))))))))
set_option maxHeartbeats 8000000 in
set_option maxRecDepth 100000 in
theorem laws_FnExactTreeKeys.calls (k : Nat) (A0_0 : Option Addr) (c0_0 : Nat) (l0_0 : List Int) (a0_1 : Bool) (a0_2 : Int) (A0_3 : Option Addr) (c0_3 : Nat) (l0_3 : List (S25)) (A1 : Option Addr) (c1 : Nat) (l1 : List Int) (w : World) (hr0_0 : Kd.C (Kd.int .u8) w A0_0 l0_0.length l0_0) (hc0_0 : l0_0.length ≤ c0_0) (hr0_3 : Kd.C k25 w A0_3 l0_3.length l0_3) (hc0_3 : l0_3.length ≤ c0_3) (hr1 : Kd.C (Kd.int .u8) w A1 l1.length l1) (hc1 : l1.length ≤ c1) (h : laws_FnExactTreeKeys.f k l0_0 a0_1 a0_2 l0_3 l1 = some true) :
  Calls Try.prog 9 #[.agg #[.slice A0_0 l0_0.length c0_0, .bool a0_1, .int .i64 a0_2, .slice A0_3 l0_3.length c0_3], .slice A1 l1.length c1] w fun e w' => e = .returned (.bool true) ∧ Below w.heap.size w w' := by
 have hu25 := Try.underlying25
 have hu30 := Try.underlying30
 have HR0_0 := Aside0.mk hr0_0
 have HC0_0 := Aside0.mk hc0_0
 clear hr0_0 hc0_0
 have HR0_3 := Aside0.mk hr0_3
 have HC0_3 := Aside0.mk hc0_3
 clear hr0_3 hc0_3
 have HR1 := Aside0.mk hr1
 have HC1 := Aside0.mk hc1
 clear hr1 hc1
 have HB := Aside0.mk (Below.refl w.heap.size w)
 have H : (if (l1.length : Int) > 1048576 then (some true) else ((laws_szTree.f k l0_0 a0_1 a0_2 l0_3 1048576).bind fun t236 => (if t236 < 0 then (some true) else ((laws_toTree.f k l0_0 a0_1 a0_2 l0_3).bind fun bt237 => ((laws_toByteS.f k l1).bind fun t245 => ((spec_TreeKeys.f k bt237.1 bt237.2.1 bt237.2.2.1 bt237.2.2.2 t245).bind fun t248 => ((laws_toTree.f k l0_0 a0_1 a0_2 l0_3).bind fun bt249 => ((laws_toByteS.f k l1).bind fun t258 => ((impl_TreeKeys.f k bt249.1 bt249.2.1 bt249.2.2.1 bt249.2.2.2 t258).bind fun t261 => ((laws_eqByteSS.f k t261 t248).bind fun t262 => (if t262 = true then ((laws_toTree.f k l0_0 a0_1 a0_2 l0_3).bind fun bt263 => ((laws_eqTree.f k bt249.1 bt249.2.1 bt249.2.2.1 bt249.2.2.2 bt263.1 bt263.2.1 bt263.2.2.1 bt263.2.2.2).bind fun t271 => (if t271 = true then ((laws_toByteS.f k l1).bind fun t272 => ((laws_eqByteS.f k t258 t272).bind fun t275 => (if t275 = true then ((laws_markTree.f k bt249.1 bt249.2.1 bt249.2.2.1 bt249.2.2.2 1).bind fun t276 => ((laws_markByteS.f k t258 t276).bind fun bt277 => (if bt277.1 < 0 then (laws_FnExactTreeKeys.j0 k l1 t248 t261 true l0_0 a0_1 a0_2 l0_3) else ((laws_eqByteSS.f k t261 t248).bind fun t279 => (laws_FnExactTreeKeys.j0 k l1 t248 t261 (!t279) l0_0 a0_1 a0_2 l0_3))))) else (some false)))) else (some false)))) else (some false)))))))))))) = some true := h
 clear h
 by_cases c3 : (l1.length : Int) > 1048576
 ·rw [if_pos c3] at H
  have c3b0 : decide (1048576 < (l1.length : Int)) = true := decide_eq_true c3
  have c3b1 : decide (1048576 < l1.length) = true := decide_eq_true (by omega)
  clear c3
  clear H
  go_enter Try.func9, Try.ntmps9
  go_wp2_with (first | ((with_reducible refine gate_dst (N := 2) rfl ?_); refine bx_ 2 #[.slice A0_0 l0_0.length c0_0, .bool a0_1, .int .i64 a0_2, .slice A0_3 l0_3.length c0_3] 25 (h := ?_); intro gb235 hg w4 hbox hb; have BK235 := Aside0.mk (hbox); have GW235 := Aside0.mk ((by rw [hg]; exact (below_size bel) : w.heap.size ≤ gb235)); have GE235 := GW235; replace HB := bst hb; clear hb hbox hg))
  go_ret
  exact ⟨rz_, bel⟩
 rw [if_neg c3] at H
 have c3b0 : decide (1048576 < (l1.length : Int)) = false := decide_eq_false c3
 have c3b1 : decide (1048576 < l1.length) = false := decide_eq_false (by omega)
 clear c3
 replace H := Option.bind_eq_some_iff.mp H
 obtain ⟨t236, A50, H⟩ := H
 replace H : (if t236 < 0 then (some true) else ((laws_toTree.f k l0_0 a0_1 a0_2 l0_3).bind fun bt237 => ((laws_toByteS.f k l1).bind fun t245 => ((spec_TreeKeys.f k bt237.1 bt237.2.1 bt237.2.2.1 bt237.2.2.2 t245).bind fun t248 => ((laws_toTree.f k l0_0 a0_1 a0_2 l0_3).bind fun bt249 => ((laws_toByteS.f k l1).bind fun t258 => ((impl_TreeKeys.f k bt249.1 bt249.2.1 bt249.2.2.1 bt249.2.2.2 t258).bind fun t261 => ((laws_eqByteSS.f k t261 t248).bind fun t262 => (if t262 = true then ((laws_toTree.f k l0_0 a0_1 a0_2 l0_3).bind fun bt263 => ((laws_eqTree.f k bt249.1 bt249.2.1 bt249.2.2.1 bt249.2.2.2 bt263.1 bt263.2.1 bt263.2.2.1 bt263.2.2.2).bind fun t271 => (if t271 = true then ((laws_toByteS.f k l1).bind fun t272 => ((laws_eqByteS.f k t258 t272).bind fun t275 => (if t275 = true then ((laws_markTree.f k bt249.1 bt249.2.1 bt249.2.2.1 bt249.2.2.2 1).bind fun t276 => ((laws_markByteS.f k t258 t276).bind fun bt277 => (if bt277.1 < 0 then (laws_FnExactTreeKeys.j0 k l1 t248 t261 true l0_0 a0_1 a0_2 l0_3) else ((laws_eqByteSS.f k t261 t248).bind fun t279 => (laws_FnExactTreeKeys.j0 k l1 t248 t261 (!t279) l0_0 a0_1 a0_2 l0_3))))) else (some false)))) else (some false)))) else (some false)))))))))) = some true := H
 have A5 := Aside0.mk A50
 clear A50
 by_cases c6 : t236 < 0
 ·rw [if_pos c6] at H
  have c6b0 : decide (t236 < 0) = true := decide_eq_true c6
  clear c6
  clear H
  go_enter Try.func9, Try.ntmps9
  go_wp2_with (first | ((with_reducible refine gate_dst (N := 2) rfl ?_); refine bx_ 2 #[.slice A0_0 l0_0.length c0_0, .bool a0_1, .int .i64 a0_2, .slice A0_3 l0_3.length c0_3] 25 (h := ?_); intro gb235 hg w7 hbox hb; have BK235 := Aside0.mk (hbox); have GW235 := Aside0.mk ((by rw [hg]; exact (below_size bel) : w.heap.size ≤ gb235)); have GE235 := GW235; replace HB := bst hb; clear hb hbox hg; obtain ⟨C8_0, C8_1, C8_2, C8_3, -⟩ := cells_4 BK235.out trivial; obtain ⟨F8_0, F8_1, F8_2, F8_3, -⟩ := frz_4 BK235.out) | ((with_reducible refine gate_callee (f := 15) rfl ?_); refine gl_ (some 19) Try.func15 #[.agg #[.slice A0_0 l0_0.length c0_0, .bool a0_1, .int .i64 a0_2, .slice A0_3 l0_3.length c0_3], .int .i64 1048576] (h := ?_); (with_reducible refine (laws_szTree.calls k _ _ l0_0 a0_1 a0_2 _ _ l0_3 1048576 t236 _ ?side1 ?side2 ?side3 ?side4 A5.out).mono ?_); (case side1 => exact kcb); (case side2 => exact HC0_0.out); (case side3 => exact kcb); (case side4 => exact HC0_3.out); rintro e w9 ⟨rfl, hb⟩; refine ⟨_, rfl, ?_⟩; replace BK235 := Aside0.mk (blb BK235 hb); replace HB := bst hb; (try clear hb); (try clear hb2); (try clear hk); (try clear hi)))
  go_ret
  exact ⟨rz_, bel⟩
 rw [if_neg c6] at H
 have c6b0 : decide (t236 < 0) = false := decide_eq_false c6
 clear c6
 replace H := Option.bind_eq_some_iff.mp H
 obtain ⟨⟨t237, t240, t241, t242⟩, A100, H⟩ := H
 replace H : ((laws_toByteS.f k l1).bind fun t245 => ((spec_TreeKeys.f k t237 t240 t241 t242 t245).bind fun t248 => ((laws_toTree.f k l0_0 a0_1 a0_2 l0_3).bind fun bt249 => ((laws_toByteS.f k l1).bind fun t258 => ((impl_TreeKeys.f k bt249.1 bt249.2.1 bt249.2.2.1 bt249.2.2.2 t258).bind fun t261 => ((laws_eqByteSS.f k t261 t248).bind fun t262 => (if t262 = true then ((laws_toTree.f k l0_0 a0_1 a0_2 l0_3).bind fun bt263 => ((laws_eqTree.f k bt249.1 bt249.2.1 bt249.2.2.1 bt249.2.2.2 bt263.1 bt263.2.1 bt263.2.2.1 bt263.2.2.2).bind fun t271 => (if t271 = true then ((laws_toByteS.f k l1).bind fun t272 => ((laws_eqByteS.f k t258 t272).bind fun t275 => (if t275 = true then ((laws_markTree.f k bt249.1 bt249.2.1 bt249.2.2.1 bt249.2.2.2 1).bind fun t276 => ((laws_markByteS.f k t258 t276).bind fun bt277 => (if bt277.1 < 0 then (laws_FnExactTreeKeys.j0 k l1 t248 t261 true l0_0 a0_1 a0_2 l0_3) else ((laws_eqByteSS.f k t261 t248).bind fun t279 => (laws_FnExactTreeKeys.j0 k l1 t248 t261 (!t279) l0_0 a0_1 a0_2 l0_3))))) else (some false)))) else (some false)))) else (some false)))))))) = some true := H
 have A10 := Aside0.mk A100
 clear A100
 replace H := Option.bind_eq_some_iff.mp H
 obtain ⟨t245, A110, H⟩ := H
 replace H : ((spec_TreeKeys.f k t237 t240 t241 t242 t245).bind fun t248 => ((laws_toTree.f k l0_0 a0_1 a0_2 l0_3).bind fun bt249 => ((laws_toByteS.f k l1).bind fun t258 => ((impl_TreeKeys.f k bt249.1 bt249.2.1 bt249.2.2.1 bt249.2.2.2 t258).bind fun t261 => ((laws_eqByteSS.f k t261 t248).bind fun t262 => (if t262 = true then ((laws_toTree.f k l0_0 a0_1 a0_2 l0_3).bind fun bt263 => ((laws_eqTree.f k bt249.1 bt249.2.1 bt249.2.2.1 bt249.2.2.2 bt263.1 bt263.2.1 bt263.2.2.1 bt263.2.2.2).bind fun t271 => (if t271 = true then ((laws_toByteS.f k l1).bind fun t272 => ((laws_eqByteS.f k t258 t272).bind fun t275 => (if t275 = true then ((laws_markTree.f k bt249.1 bt249.2.1 bt249.2.2.1 bt249.2.2.2 1).bind fun t276 => ((laws_markByteS.f k t258 t276).bind fun bt277 => (if bt277.1 < 0 then (laws_FnExactTreeKeys.j0 k l1 t248 t261 true l0_0 a0_1 a0_2 l0_3) else ((laws_eqByteSS.f k t261 t248).bind fun t279 => (laws_FnExactTreeKeys.j0 k l1 t248 t261 (!t279) l0_0 a0_1 a0_2 l0_3))))) else (some false)))) else (some false)))) else (some false))))))) = some true := H
 have A11 := Aside0.mk A110
 clear A110
 replace H := Option.bind_eq_some_iff.mp H
 obtain ⟨t248, A120, H⟩ := H
 replace H : ((laws_toTree.f k l0_0 a0_1 a0_2 l0_3).bind fun bt249 => ((laws_toByteS.f k l1).bind fun t258 => ((impl_TreeKeys.f k bt249.1 bt249.2.1 bt249.2.2.1 bt249.2.2.2 t258).bind fun t261 => ((laws_eqByteSS.f k t261 t248).bind fun t262 => (if t262 = true then ((laws_toTree.f k l0_0 a0_1 a0_2 l0_3).bind fun bt263 => ((laws_eqTree.f k bt249.1 bt249.2.1 bt249.2.2.1 bt249.2.2.2 bt263.1 bt263.2.1 bt263.2.2.1 bt263.2.2.2).bind fun t271 => (if t271 = true then ((laws_toByteS.f k l1).bind fun t272 => ((laws_eqByteS.f k t258 t272).bind fun t275 => (if t275 = true then ((laws_markTree.f k bt249.1 bt249.2.1 bt249.2.2.1 bt249.2.2.2 1).bind fun t276 => ((laws_markByteS.f k t258 t276).bind fun bt277 => (if bt277.1 < 0 then (laws_FnExactTreeKeys.j0 k l1 t248 t261 true l0_0 a0_1 a0_2 l0_3) else ((laws_eqByteSS.f k t261 t248).bind fun t279 => (laws_FnExactTreeKeys.j0 k l1 t248 t261 (!t279) l0_0 a0_1 a0_2 l0_3))))) else (some false)))) else (some false)))) else (some false)))))) = some true := H
 have A12 := Aside0.mk A120
 clear A120
 replace H := Option.bind_eq_some_iff.mp H
 obtain ⟨⟨t249, t252, t253, t254⟩, A130, H⟩ := H
 replace H : ((laws_toByteS.f k l1).bind fun t258 => ((impl_TreeKeys.f k t249 t252 t253 t254 t258).bind fun t261 => ((laws_eqByteSS.f k t261 t248).bind fun t262 => (if t262 = true then ((laws_toTree.f k l0_0 a0_1 a0_2 l0_3).bind fun bt263 => ((laws_eqTree.f k t249 t252 t253 t254 bt263.1 bt263.2.1 bt263.2.2.1 bt263.2.2.2).bind fun t271 => (if t271 = true then ((laws_toByteS.f k l1).bind fun t272 => ((laws_eqByteS.f k t258 t272).bind fun t275 => (if t275 = true then ((laws_markTree.f k t249 t252 t253 t254 1).bind fun t276 => ((laws_markByteS.f k t258 t276).bind fun bt277 => (if bt277.1 < 0 then (laws_FnExactTreeKeys.j0 k l1 t248 t261 true l0_0 a0_1 a0_2 l0_3) else ((laws_eqByteSS.f k t261 t248).bind fun t279 => (laws_FnExactTreeKeys.j0 k l1 t248 t261 (!t279) l0_0 a0_1 a0_2 l0_3))))) else (some false)))) else (some false)))) else (some false))))) = some true := H
 have A13 := Aside0.mk A130
 clear A130
 replace H := Option.bind_eq_some_iff.mp H
 obtain ⟨t258, A140, H⟩ := H
 replace H : ((impl_TreeKeys.f k t249 t252 t253 t254 t258).bind fun t261 => ((laws_eqByteSS.f k t261 t248).bind fun t262 => (if t262 = true then ((laws_toTree.f k l0_0 a0_1 a0_2 l0_3).bind fun bt263 => ((laws_eqTree.f k t249 t252 t253 t254 bt263.1 bt263.2.1 bt263.2.2.1 bt263.2.2.2).bind fun t271 => (if t271 = true then ((laws_toByteS.f k l1).bind fun t272 => ((laws_eqByteS.f k t258 t272).bind fun t275 => (if t275 = true then ((laws_markTree.f k t249 t252 t253 t254 1).bind fun t276 => ((laws_markByteS.f k t258 t276).bind fun bt277 => (if bt277.1 < 0 then (laws_FnExactTreeKeys.j0 k l1 t248 t261 true l0_0 a0_1 a0_2 l0_3) else ((laws_eqByteSS.f k t261 t248).bind fun t279 => (laws_FnExactTreeKeys.j0 k l1 t248 t261 (!t279) l0_0 a0_1 a0_2 l0_3))))) else (some false)))) else (some false)))) else (some false)))) = some true := H
 have A14 := Aside0.mk A140
 clear A140
 replace H := Option.bind_eq_some_iff.mp H
 obtain ⟨t261, A150, H⟩ := H
 replace H : ((laws_eqByteSS.f k t261 t248).bind fun t262 => (if t262 = true then ((laws_toTree.f k l0_0 a0_1 a0_2 l0_3).bind fun bt263 => ((laws_eqTree.f k t249 t252 t253 t254 bt263.1 bt263.2.1 bt263.2.2.1 bt263.2.2.2).bind fun t271 => (if t271 = true then ((laws_toByteS.f k l1).bind fun t272 => ((laws_eqByteS.f k t258 t272).bind fun t275 => (if t275 = true then ((laws_markTree.f k t249 t252 t253 t254 1).bind fun t276 => ((laws_markByteS.f k t258 t276).bind fun bt277 => (if bt277.1 < 0 then (laws_FnExactTreeKeys.j0 k l1 t248 t261 true l0_0 a0_1 a0_2 l0_3) else ((laws_eqByteSS.f k t261 t248).bind fun t279 => (laws_FnExactTreeKeys.j0 k l1 t248 t261 (!t279) l0_0 a0_1 a0_2 l0_3))))) else (some false)))) else (some false)))) else (some false))) = some true := H
 have A15 := Aside0.mk A150
 clear A150
 replace H := Option.bind_eq_some_iff.mp H
 obtain ⟨t262, A160, H⟩ := H
 replace H : (if t262 = true then ((laws_toTree.f k l0_0 a0_1 a0_2 l0_3).bind fun bt263 => ((laws_eqTree.f k t249 t252 t253 t254 bt263.1 bt263.2.1 bt263.2.2.1 bt263.2.2.2).bind fun t271 => (if t271 = true then ((laws_toByteS.f k l1).bind fun t272 => ((laws_eqByteS.f k t258 t272).bind fun t275 => (if t275 = true then ((laws_markTree.f k t249 t252 t253 t254 1).bind fun t276 => ((laws_markByteS.f k t258 t276).bind fun bt277 => (if bt277.1 < 0 then (laws_FnExactTreeKeys.j0 k l1 t248 t261 true l0_0 a0_1 a0_2 l0_3) else ((laws_eqByteSS.f k t261 t248).bind fun t279 => (laws_FnExactTreeKeys.j0 k l1 t248 t261 (!t279) l0_0 a0_1 a0_2 l0_3))))) else (some false)))) else (some false)))) else (some false)) = some true := H
 have A16 := Aside0.mk A160
 clear A160
 by_cases c17 : t262 = true
 ·subst c17
  have H1 : ((laws_toTree.f k l0_0 a0_1 a0_2 l0_3).bind fun bt263 => ((laws_eqTree.f k t249 t252 t253 t254 bt263.1 bt263.2.1 bt263.2.2.1 bt263.2.2.2).bind fun t271 => (if t271 = true then ((laws_toByteS.f k l1).bind fun t272 => ((laws_eqByteS.f k t258 t272).bind fun t275 => (if t275 = true then ((laws_markTree.f k t249 t252 t253 t254 1).bind fun t276 => ((laws_markByteS.f k t258 t276).bind fun bt277 => (if bt277.1 < 0 then (laws_FnExactTreeKeys.j0 k l1 t248 t261 true l0_0 a0_1 a0_2 l0_3) else ((laws_eqByteSS.f k t261 t248).bind fun t279 => (laws_FnExactTreeKeys.j0 k l1 t248 t261 (!t279) l0_0 a0_1 a0_2 l0_3))))) else (some false)))) else (some false)))) = some true := by rw [if_pos rfl] at H; exact H
  clear H
  have H := H1
  clear H1
  replace H := Option.bind_eq_some_iff.mp H
  obtain ⟨⟨t263, t266, t267, t268⟩, A180, H⟩ := H
  replace H : ((laws_eqTree.f k t249 t252 t253 t254 t263 t266 t267 t268).bind fun t271 => (if t271 = true then ((laws_toByteS.f k l1).bind fun t272 => ((laws_eqByteS.f k t258 t272).bind fun t275 => (if t275 = true then ((laws_markTree.f k t249 t252 t253 t254 1).bind fun t276 => ((laws_markByteS.f k t258 t276).bind fun bt277 => (if bt277.1 < 0 then (laws_FnExactTreeKeys.j0 k l1 t248 t261 true l0_0 a0_1 a0_2 l0_3) else ((laws_eqByteSS.f k t261 t248).bind fun t279 => (laws_FnExactTreeKeys.j0 k l1 t248 t261 (!t279) l0_0 a0_1 a0_2 l0_3))))) else (some false)))) else (some false))) = some true := H
  have A18 := Aside0.mk A180
  clear A180
  replace H := Option.bind_eq_some_iff.mp H
  obtain ⟨t271, A190, H⟩ := H
  replace H : (if t271 = true then ((laws_toByteS.f k l1).bind fun t272 => ((laws_eqByteS.f k t258 t272).bind fun t275 => (if t275 = true then ((laws_markTree.f k t249 t252 t253 t254 1).bind fun t276 => ((laws_markByteS.f k t258 t276).bind fun bt277 => (if bt277.1 < 0 then (laws_FnExactTreeKeys.j0 k l1 t248 t261 true l0_0 a0_1 a0_2 l0_3) else ((laws_eqByteSS.f k t261 t248).bind fun t279 => (laws_FnExactTreeKeys.j0 k l1 t248 t261 (!t279) l0_0 a0_1 a0_2 l0_3))))) else (some false)))) else (some false)) = some true := H
  have A19 := Aside0.mk A190
  clear A190
  by_cases c20 : t271 = true
  ·subst c20
   have H1 : ((laws_toByteS.f k l1).bind fun t272 => ((laws_eqByteS.f k t258 t272).bind fun t275 => (if t275 = true then ((laws_markTree.f k t249 t252 t253 t254 1).bind fun t276 => ((laws_markByteS.f k t258 t276).bind fun bt277 => (if bt277.1 < 0 then (laws_FnExactTreeKeys.j0 k l1 t248 t261 true l0_0 a0_1 a0_2 l0_3) else ((laws_eqByteSS.f k t261 t248).bind fun t279 => (laws_FnExactTreeKeys.j0 k l1 t248 t261 (!t279) l0_0 a0_1 a0_2 l0_3))))) else (some false)))) = some true := by rw [if_pos rfl] at H; exact H
   clear H
   have H := H1
   clear H1
   replace H := Option.bind_eq_some_iff.mp H
   obtain ⟨t272, A210, H⟩ := H
   replace H : ((laws_eqByteS.f k t258 t272).bind fun t275 => (if t275 = true then ((laws_markTree.f k t249 t252 t253 t254 1).bind fun t276 => ((laws_markByteS.f k t258 t276).bind fun bt277 => (if bt277.1 < 0 then (laws_FnExactTreeKeys.j0 k l1 t248 t261 true l0_0 a0_1 a0_2 l0_3) else ((laws_eqByteSS.f k t261 t248).bind fun t279 => (laws_FnExactTreeKeys.j0 k l1 t248 t261 (!t279) l0_0 a0_1 a0_2 l0_3))))) else (some false))) = some true := H
   have A21 := Aside0.mk A210
   clear A210
   replace H := Option.bind_eq_some_iff.mp H
   obtain ⟨t275, A220, H⟩ := H
   replace H : (if t275 = true then ((laws_markTree.f k t249 t252 t253 t254 1).bind fun t276 => ((laws_markByteS.f k t258 t276).bind fun bt277 => (if bt277.1 < 0 then (laws_FnExactTreeKeys.j0 k l1 t248 t261 true l0_0 a0_1 a0_2 l0_3) else ((laws_eqByteSS.f k t261 t248).bind fun t279 => (laws_FnExactTreeKeys.j0 k l1 t248 t261 (!t279) l0_0 a0_1 a0_2 l0_3))))) else (some false)) = some true := H
   have A22 := Aside0.mk A220
   clear A220
   by_cases c23 : t275 = true
   ·subst c23
    have H1 : ((laws_markTree.f k t249 t252 t253 t254 1).bind fun t276 => ((laws_markByteS.f k t258 t276).bind fun bt277 => (if bt277.1 < 0 then (laws_FnExactTreeKeys.j0 k l1 t248 t261 true l0_0 a0_1 a0_2 l0_3) else ((laws_eqByteSS.f k t261 t248).bind fun t279 => (laws_FnExactTreeKeys.j0 k l1 t248 t261 (!t279) l0_0 a0_1 a0_2 l0_3))))) = some true := by rw [if_pos rfl] at H; exact H
    clear H
    have H := H1
    clear H1
    replace H := Option.bind_eq_some_iff.mp H
    obtain ⟨t276, A240, H⟩ := H
    replace H : ((laws_markByteS.f k t258 t276).bind fun bt277 => (if bt277.1 < 0 then (laws_FnExactTreeKeys.j0 k l1 t248 t261 true l0_0 a0_1 a0_2 l0_3) else ((laws_eqByteSS.f k t261 t248).bind fun t279 => (laws_FnExactTreeKeys.j0 k l1 t248 t261 (!t279) l0_0 a0_1 a0_2 l0_3)))) = some true := H
    have A24 := Aside0.mk A240
    clear A240
    replace H := Option.bind_eq_some_iff.mp H
    obtain ⟨⟨t277, t278⟩, A250, H⟩ := H
    replace H : (if t277 < 0 then (laws_FnExactTreeKeys.j0 k l1 t248 t261 true l0_0 a0_1 a0_2 l0_3) else ((laws_eqByteSS.f k t261 t248).bind fun t279 => (laws_FnExactTreeKeys.j0 k l1 t248 t261 (!t279) l0_0 a0_1 a0_2 l0_3))) = some true := H
    have A25 := Aside0.mk A250
    clear A250
    have HC26 := Aside0.mk H
    clear H
    go_enter Try.func9, Try.ntmps9
    try go_wp2_with (first | ((with_reducible refine gate_dst (N := 2) rfl ?_); refine bx_ 2 #[.slice A0_0 l0_0.length c0_0, .bool a0_1, .int .i64 a0_2, .slice A0_3 l0_3.length c0_3] 25 (h := ?_); intro gb235 hg w27 hbox hb; have BK235 := Aside0.mk (hbox); have GW235 := Aside0.mk ((by rw [hg]; exact (below_size bel) : w.heap.size ≤ gb235)); have GE235 := GW235; replace HB := bst hb; clear hb hbox hg; obtain ⟨C28_0, C28_1, C28_2, C28_3, -⟩ := cells_4 BK235.out trivial; obtain ⟨F28_0, F28_1, F28_2, F28_3, -⟩ := frz_4 BK235.out) | ((with_reducible refine gate_callee (f := 15) rfl ?_); refine gl_ (some 19) Try.func15 #[.agg #[.slice A0_0 l0_0.length c0_0, .bool a0_1, .int .i64 a0_2, .slice A0_3 l0_3.length c0_3], .int .i64 1048576] (h := ?_); (with_reducible refine (laws_szTree.calls k _ _ l0_0 a0_1 a0_2 _ _ l0_3 1048576 t236 _ ?side1 ?side2 ?side3 ?side4 A5.out).mono ?_); (case side1 => exact kcb); (case side2 => exact HC0_0.out); (case side3 => exact kcb); (case side4 => exact HC0_3.out); rintro e w29 ⟨rfl, hb⟩; refine ⟨_, rfl, ?_⟩; replace BK235 := Aside0.mk (blb BK235 hb); replace HB := bst hb; (try clear hb); (try clear hb2); (try clear hk); (try clear hi); obtain ⟨C30_0, C30_1, C30_2, C30_3, -⟩ := cells_4 BK235.out trivial; obtain ⟨F30_0, F30_1, F30_2, F30_3, -⟩ := frz_4 BK235.out) | ((with_reducible refine gate_callee (f := 17) rfl ?_); refine gl_ (some 23) Try.func17 #[.agg #[.slice A0_0 l0_0.length c0_0, .bool a0_1, .int .i64 a0_2, .slice A0_3 l0_3.length c0_3]] (h := ?_); (with_reducible refine (laws_toTree.calls k _ _ l0_0 a0_1 a0_2 _ _ l0_3 t237 t240 t241 t242 _ ?side1 ?side2 ?side3 ?side4 A10.out).mono ?_); (case side1 => exact kcb); (case side2 => exact HC0_0.out); (case side3 => exact kcb); (case side4 => exact HC0_3.out); rintro e w31 ⟨v238, v243, rfl, ho0, ho1, hb⟩; refine ⟨_, rfl, ?_⟩; have HO239 := Aside0.mk (Kd.R_lower ho0 (below_size bel)); have HO244 := Aside0.mk (Kd.R_lower ho1 (below_size bel)); replace BK235 := Aside0.mk (blb BK235 hb); replace HB := bst hb; (try clear hb); (try clear hb2); (try clear hk); (try clear hi); (try clear ho0); (try clear ho1)) | ((with_reducible refine gate_callee (f := 23) rfl ?_); refine gl_ (some 25) Try.func23 #[.slice A1 l1.length c1] (h := ?_); (with_reducible refine (laws_toByteS.calls k _ _ l1 t245 _ ?side1 ?side2 A11.out).mono ?_); (case side1 => exact kcb); (case side2 => exact HC1.out); rintro e w32 ⟨v246, rfl, ho0, hb⟩; refine ⟨_, rfl, ?_⟩; have HO247 := Aside0.mk (Kd.R_lower (Kd.R_new' ho0 (Kd.R_lt (rkp HO239))) (below_size bel)); replace HO239 := Aside0.mk (Kd.R_elder' (rkp HO239) (Kd.R_base ho0) hb); replace HO244 := Aside0.mk (Kd.R_elder' (rkp HO244) (Kd.R_base ho0) hb); replace BK235 := Aside0.mk (blb BK235 hb); replace HB := bst hb; (try clear hb); (try clear hb2); (try clear hk); (try clear hi); (try clear ho0); obtain ⟨Ao33, co33, eo33⟩ := Kd.R_slice HO239.out; subst eo33; obtain ⟨Ao34, co34, eo34⟩ := Kd.R_slice HO244.out; subst eo34; obtain ⟨Ao35, co35, eo35⟩ := Kd.R_slice HO247.out; subst eo35) | ((with_reducible refine gate_callee (f := 37) rfl ?_); refine gl_ (some 26) Try.func37 #[.agg #[.slice Ao33 t237.length co33, .bool t240, .int .i64 t241, .slice Ao34 t242.length co34], .slice Ao35 t245.length co35] (h := ?_); (with_reducible refine (spec_TreeKeys.calls k _ _ t237 t240 t241 _ _ t242 _ _ t245 t248 _ ?side1 ?side2 ?side3 ?side4 ?side5 ?side6 A12.out).mono ?_); (case side1 => repeat (first | exact (Kd.R_reads' HO239.out).2.2 | (with_reducible refine Kd.C_alloc ?_ _) | (with_reducible refine Kd.C_drewN ?_ _) | (with_reducible refine Kd.C_drew ?_))); (case side2 => exact (Kd.R_reads' HO239.out).2.1); (case side3 => repeat (first | exact (Kd.R_reads' HO244.out).2.2 | (with_reducible refine Kd.C_alloc ?_ _) | (with_reducible refine Kd.C_drewN ?_ _) | (with_reducible refine Kd.C_drew ?_))); (case side4 => exact (Kd.R_reads' HO244.out).2.1); (case side5 => repeat (first | exact (Kd.R_reads' HO247.out).2.2 | (with_reducible refine Kd.C_alloc ?_ _) | (with_reducible refine Kd.C_drewN ?_ _) | (with_reducible refine Kd.C_drew ?_))); (case side6 => exact (Kd.R_reads' HO247.out).2.1); rintro e w36 ⟨vW, rfl, hoW, hb⟩; refine ⟨_, rfl, ?_⟩; have HRW := Aside0.mk (Kd.R_mono (ok' := fun k_ => k_ < w36.heap.size) (Kd.R_lower (Kd.R_bound hoW) (below_size bel)) (fun _ h_ => h_.2.2.1)); clear hoW; obtain ⟨AoW, coW, eoW⟩ := Kd.R_slice HRW.out; subst eoW; replace HO239 := Aside0.mk (rbl HO239 hb); replace HO244 := Aside0.mk (rbl HO244 hb); replace HO247 := Aside0.mk (rbl HO247 hb); replace BK235 := Aside0.mk (blb BK235 hb); have GLT := Aside0.mk (show gb235 < w36.heap.size from blk_lt BK235.out); replace HB := bst hb; (try clear hb); (try clear hb2); (try clear hk); (try clear hi); obtain ⟨C37_0, C37_1, C37_2, C37_3, -⟩ := cells_4 BK235.out trivial; obtain ⟨F37_0, F37_1, F37_2, F37_3, -⟩ := frz_4 BK235.out) | ((with_reducible refine gate_callee (f := 17) rfl ?_); refine gl_ (some 28) Try.func17 #[.agg #[.slice A0_0 l0_0.length c0_0, .bool a0_1, .int .i64 a0_2, .slice A0_3 l0_3.length c0_3]] (h := ?_); (with_reducible refine (laws_toTree.calls k _ _ l0_0 a0_1 a0_2 _ _ l0_3 t249 t252 t253 t254 _ ?side1 ?side2 ?side3 ?side4 A13.out).mono ?_); (case side1 => exact kcb); (case side2 => exact HC0_0.out); (case side3 => exact kcb); (case side4 => exact HC0_3.out); rintro e w38 ⟨v250, v255, rfl, ho0, ho1, hb⟩; refine ⟨_, rfl, ?_⟩; have HSZ12 := Aside0.mk (show w36.heap.size ≤ w38.heap.size from hb.size); replace HRW := Aside0.mk (Kd.R_below (rkp HRW) hb); have HX0 := Aside0.mk (Kd.R_mono (ok' := fun k_ => w36.heap.size ≤ k_ ∧ k_ < w38.heap.size) (Kd.R_lower (Kd.R_bound ho0) (below_size bel)) (fun _ h_ => ⟨h_.2.1, h_.2.2.1⟩)); have HX1 := Aside0.mk (Kd.R_mono (ok' := fun k_ => w36.heap.size ≤ k_ ∧ k_ < w38.heap.size) (Kd.R_lower (Kd.R_bound ho1) (below_size bel)) (fun _ h_ => ⟨h_.2.1, h_.2.2.1⟩)); have HO251 := Aside0.mk (Kd.R_lower (Kd.R_new' (Kd.R_new' ho0 (Kd.R_lt (rkp HO239))) (Kd.R_lt (rkp HO247))) (below_size bel)); have HO256 := Aside0.mk (Kd.R_lower (Kd.R_new' (Kd.R_new' (Kd.R_new' ho1 (Kd.R_lt (rkp HO239))) (Kd.R_lt (rkp HO244))) (Kd.R_lt (rkp HO247))) (below_size bel)); replace HO239 := Aside0.mk (Kd.R_elder' (rkp HO239) (Kd.R_base ho0) hb); replace HO244 := Aside0.mk (Kd.R_mono (Kd.R_told (Kd.R_told (Kd.R_old (rkp HO244) hb) (Kd.R_base ho0)) (Kd.R_base ho1)) (fun _ h_ => h_.1)); replace HO247 := Aside0.mk (Kd.R_elder' (rkp HO247) (Kd.R_base ho0) hb); replace BK235 := Aside0.mk (blb BK235 hb); replace HB := bst hb; (try clear hb); (try clear hb2); (try clear hk); (try clear hi); (try clear ho0); (try clear ho1)) | ((with_reducible refine gate_dst (N := 7) rfl ?_); refine bx_ 7 #[.slice none 0 0, .bool false, .int .i64 0, .slice none 0 0] 30 (h := ?_); intro gb257 hg w39 hbox hb; have BK257 := Aside0.mk (hbox); have GEN2 := Aside0.mk (show w38.heap.size ≤ gb257 from Nat.le_of_eq hg.symm); have GEN1 := Aside0.mk (show w36.heap.size ≤ gb257 from Nat.le_trans HSZ12.out (Nat.le_of_eq hg.symm)); have HSZ3 := Aside0.mk (show w38.heap.size ≤ w39.heap.size from hb.size); replace HRW := Aside0.mk (rbl HRW hb); replace HX0 := Aside0.mk (rbl HX0 hb); replace HX1 := Aside0.mk (rbl HX1 hb); have GW257 := Aside0.mk ((by rw [hg]; exact (below_size bel) : w.heap.size ≤ gb257)); have GE257 := GW257; have NB235_257 := Aside0.mk ((by rw [hg]; exact Nat.ne_of_lt (blt BK235) : gb235 ≠ gb257)); have NB257_235 := Aside0.mk NB235_257.out.symm; replace HO239 := Aside0.mk (rbl HO239 hb); replace HO244 := Aside0.mk (Kd.R_below (Kd.R_elderB (rkp HO244) gb257 (Nat.le_of_eq hg.symm)) hb); replace HO247 := Aside0.mk (rbl HO247 hb); replace HO251 := Aside0.mk (rbl HO251 hb); replace HO256 := Aside0.mk (Kd.R_below (Kd.R_elderB (rkp HO256) gb257 (Nat.le_of_eq hg.symm)) hb); replace BK235 := Aside0.mk (blb BK235 hb); replace HB := bst hb; clear hb hbox hg; obtain ⟨Ao40, co40, eo40⟩ := Kd.R_slice HO251.out; subst eo40; have hnb41 := NB257_235.out; have hnc41 := NB235_257.out; obtain ⟨C42_0, C42_1, C42_2, C42_3, -⟩ := cells_4 BK257.out trivial; obtain ⟨F42_0, F42_1, F42_2, F42_3, -⟩ := frz_4 BK257.out; obtain ⟨Ao43, co43, eo43⟩ := Kd.R_slice HO256.out; subst eo43) | ((with_reducible refine gate_callee (f := 23) rfl ?_); refine gl_ (some 30) Try.func23 #[.slice A1 l1.length c1] (h := ?_); (with_reducible refine (laws_toByteS.calls k _ _ l1 t258 _ ?side1 ?side2 A14.out).mono ?_); (case side1 => exact Kd.C_below HR1.out bel); (case side2 => exact HC1.out); rintro e w44 ⟨v259, rfl, ho0, hb⟩; refine ⟨_, rfl, ?_⟩; have HSZ4 := Aside0.mk (show w38.heap.size ≤ w44.heap.size from Nat.le_trans HSZ3.out (Nat.le_trans (by simp [World.setCell]) hb.size)); have HY := Aside0.mk (Kd.R_mono (ok' := fun k_ => w38.heap.size ≤ k_ ∧ k_ < w44.heap.size) (Kd.R_lower (Kd.R_bound ho0) (below_size bel)) (fun _ h_ => ⟨Nat.le_trans HSZ3.out (Nat.le_trans (by simp [World.setCell]) h_.2.1), h_.2.2.1⟩)); replace HRW := Aside0.mk (Kd.R_below (Kd.R_mono (Kd.R_far (p := ⟨gb257, 3, none⟩) (Kd.R_far (p := ⟨gb257, 2, none⟩) (Kd.R_far (p := ⟨gb257, 1, none⟩) (Kd.R_far (p := ⟨gb257, 0, none⟩) (Kd.R_mono (ok' := fun k_ => (k_ < w36.heap.size) ∧ k_ ≠ gb257) HRW.out (fun k_ h_ => ⟨h_, Nat.ne_of_lt (Nat.lt_of_lt_of_le h_ GEN1.out)⟩)) (fun _ hk => hk.2) (.slice Ao40 t249.length co40)) (fun _ hk => hk.2) (.bool t252)) (fun _ hk => hk.2) (.int .i64 t253)) (fun _ hk => hk.2) (.slice Ao43 t254.length co43)) (fun _ h_ => h_.1)) hb); replace HX0 := Aside0.mk (Kd.R_below (Kd.R_mono (Kd.R_far (p := ⟨gb257, 3, none⟩) (Kd.R_far (p := ⟨gb257, 2, none⟩) (Kd.R_far (p := ⟨gb257, 1, none⟩) (Kd.R_far (p := ⟨gb257, 0, none⟩) (Kd.R_mono (ok' := fun k_ => (w36.heap.size ≤ k_ ∧ k_ < w38.heap.size) ∧ k_ ≠ gb257) HX0.out (fun k_ h_ => ⟨h_, Nat.ne_of_lt (Nat.lt_of_lt_of_le h_.2 GEN2.out)⟩)) (fun _ hk => hk.2) (.slice Ao40 t249.length co40)) (fun _ hk => hk.2) (.bool t252)) (fun _ hk => hk.2) (.int .i64 t253)) (fun _ hk => hk.2) (.slice Ao43 t254.length co43)) (fun _ h_ => h_.1)) hb); replace HX1 := Aside0.mk (Kd.R_below (Kd.R_mono (Kd.R_far (p := ⟨gb257, 3, none⟩) (Kd.R_far (p := ⟨gb257, 2, none⟩) (Kd.R_far (p := ⟨gb257, 1, none⟩) (Kd.R_far (p := ⟨gb257, 0, none⟩) (Kd.R_mono (ok' := fun k_ => (w36.heap.size ≤ k_ ∧ k_ < w38.heap.size) ∧ k_ ≠ gb257) HX1.out (fun k_ h_ => ⟨h_, Nat.ne_of_lt (Nat.lt_of_lt_of_le h_.2 GEN2.out)⟩)) (fun _ hk => hk.2) (.slice Ao40 t249.length co40)) (fun _ hk => hk.2) (.bool t252)) (fun _ hk => hk.2) (.int .i64 t253)) (fun _ hk => hk.2) (.slice Ao43 t254.length co43)) (fun _ h_ => h_.1)) hb); have HO260 := Aside0.mk (Kd.R_lower (Kd.R_new' (Kd.R_new' (Kd.R_new' ho0 (Kd.R_lt (by (with_reducible repeat (first | apply Kd.R_alloc | apply Kd.R_drewN | apply Kd.R_drew)); exact (Kd.R_mono (Kd.R_far (p := ⟨gb257, 3, none⟩) (Kd.R_far (p := ⟨gb257, 2, none⟩) (Kd.R_far (p := ⟨gb257, 1, none⟩) (Kd.R_far (p := ⟨gb257, 0, none⟩) (Kd.R_types HO239.out BK257.out (by decide)) (fun _ hk => hk.2) (.slice Ao40 t249.length co40)) (fun _ hk => hk.2) (.bool t252)) (fun _ hk => hk.2) (.int .i64 t253)) (fun _ hk => hk.2) (.slice Ao43 t254.length co43)) (fun _ h_ => h_.1))))) (Kd.R_lt (by (with_reducible repeat (first | apply Kd.R_alloc | apply Kd.R_drewN | apply Kd.R_drew)); exact (Kd.R_mono (Kd.R_far (p := ⟨gb257, 3, none⟩) (Kd.R_far (p := ⟨gb257, 2, none⟩) (Kd.R_far (p := ⟨gb257, 1, none⟩) (Kd.R_far (p := ⟨gb257, 0, none⟩) (Kd.R_types HO247.out BK257.out (by decide)) (fun _ hk => hk.2) (.slice Ao40 t249.length co40)) (fun _ hk => hk.2) (.bool t252)) (fun _ hk => hk.2) (.int .i64 t253)) (fun _ hk => hk.2) (.slice Ao43 t254.length co43)) (fun _ h_ => h_.1))))) (Kd.R_lt (by (with_reducible repeat (first | apply Kd.R_alloc | apply Kd.R_drewN | apply Kd.R_drew)); exact (Kd.R_mono (Kd.R_far (p := ⟨gb257, 3, none⟩) (Kd.R_far (p := ⟨gb257, 2, none⟩) (Kd.R_far (p := ⟨gb257, 1, none⟩) (Kd.R_far (p := ⟨gb257, 0, none⟩) (Kd.R_types HO251.out BK257.out (by decide)) (fun _ hk => hk.2) (.slice Ao40 t249.length co40)) (fun _ hk => hk.2) (.bool t252)) (fun _ hk => hk.2) (.int .i64 t253)) (fun _ hk => hk.2) (.slice Ao43 t254.length co43)) (fun _ h_ => h_.1))))) (below_size bel)); replace HO239 := Aside0.mk (Kd.R_elder' (by (with_reducible repeat (first | apply Kd.R_alloc | apply Kd.R_drewN | apply Kd.R_drew)); exact (Kd.R_mono (Kd.R_far (p := ⟨gb257, 3, none⟩) (Kd.R_far (p := ⟨gb257, 2, none⟩) (Kd.R_far (p := ⟨gb257, 1, none⟩) (Kd.R_far (p := ⟨gb257, 0, none⟩) (Kd.R_types HO239.out BK257.out (by decide)) (fun _ hk => hk.2) (.slice Ao40 t249.length co40)) (fun _ hk => hk.2) (.bool t252)) (fun _ hk => hk.2) (.int .i64 t253)) (fun _ hk => hk.2) (.slice Ao43 t254.length co43)) (fun _ h_ => h_.1))) (Kd.R_base ho0) hb); replace HO244 := Aside0.mk (Kd.R_elder' (by (with_reducible repeat (first | apply Kd.R_alloc | apply Kd.R_drewN | apply Kd.R_drew)); exact (Kd.R_mono (Kd.R_far (p := ⟨gb257, 3, none⟩) (Kd.R_far (p := ⟨gb257, 2, none⟩) (Kd.R_far (p := ⟨gb257, 1, none⟩) (Kd.R_far (p := ⟨gb257, 0, none⟩) (Kd.R_mono HO244.out (fun k_ hk => (⟨hk, hk.2⟩ : _ ∧ k_ ≠ gb257))) (fun _ hk => hk.2) (.slice Ao40 t249.length co40)) (fun _ hk => hk.2) (.bool t252)) (fun _ hk => hk.2) (.int .i64 t253)) (fun _ hk => hk.2) (.slice Ao43 t254.length co43)) (fun _ h_ => h_.1))) (Kd.R_base ho0) hb); replace HO247 := Aside0.mk (Kd.R_elder' (by (with_reducible repeat (first | apply Kd.R_alloc | apply Kd.R_drewN | apply Kd.R_drew)); exact (Kd.R_mono (Kd.R_far (p := ⟨gb257, 3, none⟩) (Kd.R_far (p := ⟨gb257, 2, none⟩) (Kd.R_far (p := ⟨gb257, 1, none⟩) (Kd.R_far (p := ⟨gb257, 0, none⟩) (Kd.R_types HO247.out BK257.out (by decide)) (fun _ hk => hk.2) (.slice Ao40 t249.length co40)) (fun _ hk => hk.2) (.bool t252)) (fun _ hk => hk.2) (.int .i64 t253)) (fun _ hk => hk.2) (.slice Ao43 t254.length co43)) (fun _ h_ => h_.1))) (Kd.R_base ho0) hb); replace HO251 := Aside0.mk (Kd.R_elder' (by (with_reducible repeat (first | apply Kd.R_alloc | apply Kd.R_drewN | apply Kd.R_drew)); exact (Kd.R_mono (Kd.R_far (p := ⟨gb257, 3, none⟩) (Kd.R_far (p := ⟨gb257, 2, none⟩) (Kd.R_far (p := ⟨gb257, 1, none⟩) (Kd.R_far (p := ⟨gb257, 0, none⟩) (Kd.R_types HO251.out BK257.out (by decide)) (fun _ hk => hk.2) (.slice Ao40 t249.length co40)) (fun _ hk => hk.2) (.bool t252)) (fun _ hk => hk.2) (.int .i64 t253)) (fun _ hk => hk.2) (.slice Ao43 t254.length co43)) (fun _ h_ => h_.1))) (Kd.R_base ho0) hb); replace HO256 := Aside0.mk (Kd.R_elder' (by (with_reducible repeat (first | apply Kd.R_alloc | apply Kd.R_drewN | apply Kd.R_drew)); exact (Kd.R_mono (Kd.R_far (p := ⟨gb257, 3, none⟩) (Kd.R_far (p := ⟨gb257, 2, none⟩) (Kd.R_far (p := ⟨gb257, 1, none⟩) (Kd.R_far (p := ⟨gb257, 0, none⟩) (Kd.R_mono HO256.out (fun k_ hk => (⟨hk, hk.2⟩ : _ ∧ k_ ≠ gb257))) (fun _ hk => hk.2) (.slice Ao40 t249.length co40)) (fun _ hk => hk.2) (.bool t252)) (fun _ hk => hk.2) (.int .i64 t253)) (fun _ hk => hk.2) (.slice Ao43 t254.length co43)) (fun _ h_ => h_.1))) (Kd.R_base ho0) hb); replace BK235 := Aside0.mk (blk_below (g := gb235) (o := .cells #[.slice A0_0 l0_0.length c0_0, .bool a0_1, .int .i64 a0_2, .slice A0_3 l0_3.length c0_3] 25 (0, 0)) (by (with_reducible repeat (first | refine blk_drewN ?_ _ | refine blk_drew ?_ | refine blk_alloc ?_ _)); refine blk_far ?_ NB235_257.out _; (with_reducible repeat (first | refine blk_drewN ?_ _ | refine blk_drew ?_ | refine blk_alloc ?_ _)); refine blk_far ?_ NB235_257.out _; (with_reducible repeat (first | refine blk_drewN ?_ _ | refine blk_drew ?_ | refine blk_alloc ?_ _)); refine blk_far ?_ NB235_257.out _; (with_reducible repeat (first | refine blk_drewN ?_ _ | refine blk_drew ?_ | refine blk_alloc ?_ _)); refine blk_far ?_ NB235_257.out _; (with_reducible repeat (first | refine blk_drewN ?_ _ | refine blk_drew ?_ | refine blk_alloc ?_ _)); exact BK235.out) hb); replace BK257 := Aside0.mk (blk_below (g := gb257) (o := .cells #[.slice Ao40 t249.length co40, .bool t252, .int .i64 t253, .slice Ao43 t254.length co43] 30 (0, 0)) (by (with_reducible repeat (first | refine blk_drewN ?_ _ | refine blk_drew ?_ | refine blk_alloc ?_ _)); refine blk_put (cs := #[.slice Ao40 t249.length co40, .bool t252, .int .i64 t253, .slice none 0 0]) ?_ 3 _ rfl; (with_reducible repeat (first | refine blk_drewN ?_ _ | refine blk_drew ?_ | refine blk_alloc ?_ _)); refine blk_put (cs := #[.slice Ao40 t249.length co40, .bool t252, .int .i64 0, .slice none 0 0]) ?_ 2 _ rfl; (with_reducible repeat (first | refine blk_drewN ?_ _ | refine blk_drew ?_ | refine blk_alloc ?_ _)); refine blk_put (cs := #[.slice Ao40 t249.length co40, .bool false, .int .i64 0, .slice none 0 0]) ?_ 1 _ rfl; (with_reducible repeat (first | refine blk_drewN ?_ _ | refine blk_drew ?_ | refine blk_alloc ?_ _)); refine blk_put (cs := #[.slice none 0 0, .bool false, .int .i64 0, .slice none 0 0]) ?_ 0 _ rfl; (with_reducible repeat (first | refine blk_drewN ?_ _ | refine blk_drew ?_ | refine blk_alloc ?_ _)); exact BK257.out) hb); replace HB := bst hb; (try clear hb); (try clear hb2); (try clear hk); (try clear hi); (try clear ho0); obtain ⟨C45_0, C45_1, C45_2, C45_3, -⟩ := cells_4 BK257.out trivial; obtain ⟨F45_0, F45_1, F45_2, F45_3, -⟩ := frz_4 BK257.out; obtain ⟨Ao46, co46, eo46⟩ := Kd.R_slice HO260.out; subst eo46) | ((with_reducible refine gate_callee (f := 27) rfl ?_); refine gl_ (some 33) Try.func27 #[.agg #[.slice Ao40 t249.length co40, .bool t252, .int .i64 t253, .slice Ao43 t254.length co43], .slice Ao46 t258.length co46] (h := ?_); (with_reducible refine (impl_TreeKeys.calls k _ _ t249 t252 t253 _ _ t254 _ _ t258 t261 _ ?side1 ?side2 ?side3 ?side4 ?side5 ?side6 A15.out).mono ?_); (case side1 => repeat (first | exact (Kd.R_reads' HO251.out).2.2 | (with_reducible refine Kd.C_alloc ?_ _) | (with_reducible refine Kd.C_drewN ?_ _) | (with_reducible refine Kd.C_drew ?_))); (case side2 => exact (Kd.R_reads' HO251.out).2.1); (case side3 => repeat (first | exact (Kd.R_reads' HO256.out).2.2 | (with_reducible refine Kd.C_alloc ?_ _) | (with_reducible refine Kd.C_drewN ?_ _) | (with_reducible refine Kd.C_drew ?_))); (case side4 => exact (Kd.R_reads' HO256.out).2.1); (case side5 => repeat (first | exact (Kd.R_reads' HO260.out).2.2 | (with_reducible refine Kd.C_alloc ?_ _) | (with_reducible refine Kd.C_drewN ?_ _) | (with_reducible refine Kd.C_drew ?_))); (case side6 => exact (Kd.R_reads' HO260.out).2.1); rintro e w47 ⟨vG, rfl, hoG, hb⟩; refine ⟨_, rfl, ?_⟩; have HRG := Aside0.mk (Kd.S_mono (ok' := fun k_ => w44.heap.size ≤ k_) (Kd.S_lower (Kd.S_bound hoG) (below_size bel)) (fun _ h_ => h_.2.1)); clear hoG; obtain ⟨AoG, coG, eoG⟩ := Kd.S_slice HRG.out; subst eoG; replace HRW := Aside0.mk (rbl HRW hb); replace HX0 := Aside0.mk (rbl HX0 hb); replace HX1 := Aside0.mk (rbl HX1 hb); replace HY := Aside0.mk (rbl HY hb); replace HO239 := Aside0.mk (rbl HO239 hb); replace HO244 := Aside0.mk (rbl HO244 hb); replace HO247 := Aside0.mk (rbl HO247 hb); replace HO251 := Aside0.mk (rbl HO251 hb); replace HO256 := Aside0.mk (rbl HO256 hb); replace HO260 := Aside0.mk (rbl HO260 hb); replace BK235 := Aside0.mk (blb BK235 hb); replace BK257 := Aside0.mk (blb BK257 hb); replace HB := bst hb; (try clear hb); (try clear hb2); (try clear hk); (try clear hi)) | ((with_reducible refine gate_callee (f := 38) rfl ?_); refine gl_ (some 36) Try.func38 #[.slice AoG t261.length coG, .slice AoW t248.length coW] (h := ?_); (with_reducible refine (laws_eqByteSS.calls k _ _ t261 _ _ t248 true _ ?q1 ?q2 ?q3 ?q4 A16.out).mono ?_); (case q1 => repeat (first | exact (Kd.S_reads' HRG.out).2.2 | (with_reducible refine Kd.C_alloc ?_ _) | (with_reducible refine Kd.C_drewN ?_ _) | (with_reducible refine Kd.C_drew ?_))); (case q2 => exact (Kd.S_reads' HRG.out).2.1); (case q3 => repeat (first | exact (Kd.R_reads' HRW.out).2.2 | (with_reducible refine Kd.C_alloc ?_ _) | (with_reducible refine Kd.C_drewN ?_ _) | (with_reducible refine Kd.C_drew ?_))); (case q4 => exact (Kd.R_reads' HRW.out).2.1); rintro e w' ⟨rfl, ⟨nd, rfl⟩⟩; refine ⟨_, rfl, ?_⟩))
    (try (rw [drewN_self w47]; generalize hq_ : World.drewN w47 _ = w47; have m0_ : Aside0 (Kd.R (Kd.slice 5 (Kd.int .u8)) 22 w47 w.heap.size (fun k_ => k_ < w36.heap.size) (.slice AoW t248.length coW) t248) := ⟨by rw [← hq_]; exact (rkp HRW)⟩; have m1_ : Aside0 (Kd.R (Kd.int .u8) 5 w47 w.heap.size (fun k_ => w36.heap.size ≤ k_ ∧ k_ < w38.heap.size) (.slice Ao40 t249.length co40) t249) := ⟨by rw [← hq_]; exact (rkp HX0)⟩; have m2_ : Aside0 (Kd.R k30 30 w47 w.heap.size (fun k_ => w36.heap.size ≤ k_ ∧ k_ < w38.heap.size) (.slice Ao43 t254.length co43) t254) := ⟨by rw [← hq_]; exact (rkp HX1)⟩; have m3_ : Aside0 (Kd.S (Kd.slice 5 (Kd.int .u8)) 22 w47 w.heap.size (fun k_ => w44.heap.size ≤ k_) (.slice AoG t261.length coG) t261) := ⟨by rw [← hq_]; exact (skp HRG)⟩; have m4_ : Aside0 (Kd.R (Kd.int .u8) 5 w47 w.heap.size (fun k_ => w38.heap.size ≤ k_ ∧ k_ < w44.heap.size) (.slice Ao46 t258.length co46) t258) := ⟨by rw [← hq_]; exact (rkp HY)⟩; clear HRW HX0 HX1 HRG HY; have HRW := m0_; have HX0 := m1_; have HX1 := m2_; have HRG := m3_; have HY := m4_; clear m0_ m1_ m2_ m3_ m4_; have n0_ : Aside0 (Kd.R (Kd.int .u8) 5 w47 w.heap.size (fun k_ => some k_ ≠ (.slice Ao35 t245.length co35 : Value).ownBlock ∧ some k_ ≠ (.slice Ao40 t249.length co40 : Value).ownBlock ∧ some k_ ≠ (.slice Ao46 t258.length co46 : Value).ownBlock) (.slice Ao33 t237.length co33) t237) := ⟨by rw [← hq_]; exact (by (with_reducible repeat (first | apply Kd.R_alloc | apply Kd.R_drewN | apply Kd.R_drew)); exact Kd.R_mono HO239.out (fun _ hk => ⟨hk.1.1.2, ⟨hk.1.2, hk.2⟩⟩))⟩; have n1_ : Aside0 (Kd.R k30 30 w47 w.heap.size (fun k_ => some k_ ≠ (.slice Ao33 t237.length co33 : Value).ownBlock ∧ some k_ ≠ (.slice Ao35 t245.length co35 : Value).ownBlock ∧ some k_ ≠ (.slice Ao40 t249.length co40 : Value).ownBlock ∧ some k_ ≠ (.slice Ao43 t254.length co43 : Value).ownBlock ∧ some k_ ≠ (.slice Ao46 t258.length co46 : Value).ownBlock ∧ k_ ≠ gb257) (.slice Ao34 t242.length co34) t242) := ⟨by rw [← hq_]; exact (by (with_reducible repeat (first | apply Kd.R_alloc | apply Kd.R_drewN | apply Kd.R_drew)); exact Kd.R_mono HO244.out (fun _ hk => ⟨hk.1.1.1.1.1, ⟨hk.1.1.1.1.2, ⟨hk.1.1.1.2, ⟨hk.1.1.2, ⟨hk.2, hk.1.2⟩⟩⟩⟩⟩))⟩; have n2_ : Aside0 (Kd.R (Kd.int .u8) 5 w47 w.heap.size (fun k_ => some k_ ≠ (.slice Ao33 t237.length co33 : Value).ownBlock ∧ some k_ ≠ (.slice Ao40 t249.length co40 : Value).ownBlock ∧ some k_ ≠ (.slice Ao46 t258.length co46 : Value).ownBlock) (.slice Ao35 t245.length co35) t245) := ⟨by rw [← hq_]; exact (by (with_reducible repeat (first | apply Kd.R_alloc | apply Kd.R_drewN | apply Kd.R_drew)); exact Kd.R_mono HO247.out (fun _ hk => ⟨hk.1.1.2, ⟨hk.1.2, hk.2⟩⟩))⟩; have n3_ : Aside0 (Kd.R (Kd.int .u8) 5 w47 w.heap.size (fun k_ => some k_ ≠ (.slice Ao33 t237.length co33 : Value).ownBlock ∧ some k_ ≠ (.slice Ao35 t245.length co35 : Value).ownBlock ∧ some k_ ≠ (.slice Ao46 t258.length co46 : Value).ownBlock) (.slice Ao40 t249.length co40) t249) := ⟨by rw [← hq_]; exact (by (with_reducible repeat (first | apply Kd.R_alloc | apply Kd.R_drewN | apply Kd.R_drew)); exact Kd.R_mono HO251.out (fun _ hk => ⟨hk.1.1.2, ⟨hk.1.2, hk.2⟩⟩))⟩; have n4_ : Aside0 (Kd.R k30 30 w47 w.heap.size (fun k_ => some k_ ≠ (.slice Ao33 t237.length co33 : Value).ownBlock ∧ some k_ ≠ (.slice Ao34 t242.length co34 : Value).ownBlock ∧ some k_ ≠ (.slice Ao35 t245.length co35 : Value).ownBlock ∧ some k_ ≠ (.slice Ao40 t249.length co40 : Value).ownBlock ∧ some k_ ≠ (.slice Ao46 t258.length co46 : Value).ownBlock ∧ k_ ≠ gb257) (.slice Ao43 t254.length co43) t254) := ⟨by rw [← hq_]; exact (by (with_reducible repeat (first | apply Kd.R_alloc | apply Kd.R_drewN | apply Kd.R_drew)); exact Kd.R_mono HO256.out (fun _ hk => ⟨hk.1.1.1.1.2, ⟨hk.1.1.1.2, ⟨hk.1.1.2, ⟨hk.1.1.1.1.1, ⟨hk.2, hk.1.2⟩⟩⟩⟩⟩))⟩; have n5_ : Aside0 (Kd.R (Kd.int .u8) 5 w47 w.heap.size (fun k_ => some k_ ≠ (.slice Ao33 t237.length co33 : Value).ownBlock ∧ some k_ ≠ (.slice Ao35 t245.length co35 : Value).ownBlock ∧ some k_ ≠ (.slice Ao40 t249.length co40 : Value).ownBlock) (.slice Ao46 t258.length co46) t258) := ⟨by rw [← hq_]; exact (by (with_reducible repeat (first | apply Kd.R_alloc | apply Kd.R_drewN | apply Kd.R_drew)); exact Kd.R_mono HO260.out (fun _ hk => ⟨hk.1.1.2, ⟨hk.1.2, hk.2⟩⟩))⟩; have n6_ : Aside0 (w47.heap[gb235]? = some (.cells #[.slice A0_0 l0_0.length c0_0, .bool a0_1, .int .i64 a0_2, .slice A0_3 l0_3.length c0_3] 25 (0, 0))) := ⟨by rw [← hq_]; exact (bkp BK235)⟩; have n7_ : Aside0 (w47.heap[gb257]? = some (.cells #[.slice Ao40 t249.length co40, .bool t252, .int .i64 t253, .slice Ao43 t254.length co43] 30 (0, 0))) := ⟨by rw [← hq_]; exact (bkp BK257)⟩; have n8_ : Aside0 (Below w.heap.size w w47) := ⟨by rw [← hq_]; exact bel⟩; clear HO239 HO244 HO247 HO251 HO256 HO260 BK235 BK257 HB hq_; have HO239 := n0_; have HO244 := n1_; have HO247 := n2_; have HO251 := n3_; have HO256 := n4_; have HO260 := n5_; have BK235 := n6_; have BK257 := n7_; have HB := n8_; clear n0_ n1_ n2_ n3_ n4_ n5_ n6_ n7_ n8_))
    replace HO239 := Aside0.mk (Kd.R_drew HO239.out)
    replace HO244 := Aside0.mk (Kd.R_drew HO244.out)
    replace HO247 := Aside0.mk (Kd.R_drew HO247.out)
    replace HO251 := Aside0.mk (Kd.R_drew HO251.out)
    replace HO256 := Aside0.mk (Kd.R_drew HO256.out)
    replace HO260 := Aside0.mk (Kd.R_drew HO260.out)
    replace BK235 := Aside0.mk (blk_drew BK235.out)
    replace BK257 := Aside0.mk (blk_drew BK257.out)
    replace HB := Aside0.mk (below_drew1 HB.out)
    replace HRW := Aside0.mk (Kd.R_drew HRW.out)
    replace HX0 := Aside0.mk (Kd.R_drew HX0.out)
    replace HX1 := Aside0.mk (Kd.R_drew HX1.out)
    replace HRG := Aside0.mk (Kd.S_drew HRG.out)
    replace HY := Aside0.mk (Kd.R_drew HY.out)
    refine start_ (n := 5) (S := fun w' => w'.cell? ⟨gb257, 0, none⟩ = some (.slice Ao40 t249.length co40) ∧ w'.cell? ⟨gb257, 1, none⟩ = some (.bool t252) ∧ w'.cell? ⟨gb257, 2, none⟩ = some (.int .i64 t253) ∧ w'.cell? ⟨gb257, 3, none⟩ = some (.slice Ao43 t254.length co43) ∧ w'.cell? ⟨gb235, 0, none⟩ = some (.slice A0_0 l0_0.length c0_0) ∧ w'.cell? ⟨gb235, 1, none⟩ = some (.bool a0_1) ∧ w'.cell? ⟨gb235, 2, none⟩ = some (.int .i64 a0_2) ∧ w'.cell? ⟨gb235, 3, none⟩ = some (.slice A0_3 l0_3.length c0_3)) (ds := []) #[false, false, false, false, false] (by kernel_rfl) rfl rfl (cells_4 BK257.out (cellz_4 BK235.out)) (fun hHeld => ?_)
    generalize w47.drew = w48 at HRW HX0 HX1 HRG HY HO239 HO244 HO247 HO251 HO256 HO260 BK235 BK257 HB hHeld ⊢
    refine take_ (i := 0) (N := some 38) (v := ?_) (a' := ?_) #[true, false, false, false, false] rfl rfl (by kernel_rfl) (fun _ _ _ h => h) (Or.inl ⟨by rfl, ?_⟩) hHeld ?_ ?_
    rotate_left
    ·rintro w' ⟨s0, s1, s2, s3, s4, s5, s6, s7⟩
     go_simp
     with_reducible rfl
    rotate_left
    ·simp only [Act.put, List.setIfInBounds_toArray, List.set_cons_zero, List.set_cons_succ, i64_w, i32_w]
     rfl
    refine take_ (i := 1) (N := some 39) (v := ?_) (a' := ?_) #[true, true, false, false, false] rfl rfl (by kernel_rfl) (fun _ _ _ h => h) (Or.inl ⟨by rfl, ?_⟩) hHeld ?_ ?_
    rotate_left
    ·rintro w' ⟨s0, s1, s2, s3, s4, s5, s6, s7⟩
     go_simp
     with_reducible rfl
    rotate_left
    ·simp only [Act.put, List.setIfInBounds_toArray, List.set_cons_zero, List.set_cons_succ, i64_w, i32_w]
     rfl
    refine one_ (i := 2) (N := some 40) #[true, true, true, false, false] rfl rfl (by kernel_rfl) (by decide) (fun K hK => ?_)
    refine gs_ Try.func17 #[.agg #[.slice A0_0 l0_0.length c0_0, .bool a0_1, .int .i64 a0_2, .slice A0_3 l0_3.length c0_3]] (h := ?_)
    with_reducible refine (laws_toTree.calls k _ _ l0_0 a0_1 a0_2 _ _ l0_3 t263 t266 t267 t268 _ ?side1 ?side2 ?side3 ?side4 A18.out).mono ?_
    (case side1 => exact kcb)
    (case side2 => exact HC0_0.out)
    (case side3 => exact kcb)
    (case side4 => exact HC0_3.out)
    rintro e w49 ⟨v264, v269, rfl, ho0, ho1, hb⟩
    refine ⟨_, rfl, ?_⟩
    replace HRW := Aside0.mk (rbl HRW hb)
    replace HX0 := Aside0.mk (rbl HX0 hb)
    replace HX1 := Aside0.mk (rbl HX1 hb)
    replace HRG := Aside0.mk (Kd.S_below (skp HRG) hb)
    replace HY := Aside0.mk (rbl HY hb)
    have HO265 := Aside0.mk (Kd.R_lower (Kd.R_new' (Kd.R_new' (Kd.R_new' (Kd.R_new' ho0 (Kd.R_lt (rkp HO239))) (Kd.R_lt (rkp HO247))) (Kd.R_lt (rkp HO251))) (Kd.R_lt (rkp HO260))) (below_size bel))
    have HO270 := Aside0.mk (Kd.R_lower (Kd.R_newB (Kd.R_new' (Kd.R_new' (Kd.R_new' (Kd.R_new' (Kd.R_new' (Kd.R_new' ho1 (Kd.R_lt (rkp HO239))) (Kd.R_lt (rkp HO244))) (Kd.R_lt (rkp HO247))) (Kd.R_lt (rkp HO251))) (Kd.R_lt (rkp HO256))) (Kd.R_lt (rkp HO260))) (g := gb257) (o := .cells #[.slice Ao40 t249.length co40, .bool t252, .int .i64 t253, .slice Ao43 t254.length co43] 30 (0, 0)) (bkp BK257)) (below_size bel))
    replace HO239 := Aside0.mk (Kd.R_elder' (rkp HO239) (Kd.R_base ho0) hb)
    replace HO244 := Aside0.mk (Kd.R_mono (Kd.R_told (Kd.R_told (Kd.R_old (rkp HO244) hb) (Kd.R_base ho0)) (Kd.R_base ho1)) (fun _ h_ => h_.1))
    replace HO247 := Aside0.mk (Kd.R_elder' (rkp HO247) (Kd.R_base ho0) hb)
    replace HO251 := Aside0.mk (Kd.R_elder' (rkp HO251) (Kd.R_base ho0) hb)
    replace HO256 := Aside0.mk (Kd.R_mono (Kd.R_told (Kd.R_told (Kd.R_old (rkp HO256) hb) (Kd.R_base ho0)) (Kd.R_base ho1)) (fun _ h_ => h_.1))
    replace HO260 := Aside0.mk (Kd.R_elder' (rkp HO260) (Kd.R_base ho0) hb)
    replace BK235 := Aside0.mk (blb BK235 hb)
    replace BK257 := Aside0.mk (blb BK257 hb)
    replace HB := bst hb
    (try clear hb)
    (try clear hb2)
    (try clear hk)
    (try clear hi)
    (try clear ho0)
    (try clear ho1)
    obtain ⟨Ao50, co50, eo50⟩ := Kd.R_slice HO265.out
    (first | subst eo50 | (injection eo50 with f1_ f2_ f3_; have f4_ := f1_.symm; have f5_ := f3_.symm; clear f1_ f2_ f3_; subst f4_; subst f5_))
    obtain ⟨Ao51, co51, eo51⟩ := Kd.R_slice HO270.out
    (first | subst eo51 | (injection eo51 with f1_ f2_ f3_; have f4_ := f1_.symm; have f5_ := f3_.symm; clear f1_ f2_ f3_; subst f4_; subst f5_))
    refine hK.out _ _ (cells_4 BK257.out (cellz_4 BK235.out)) (fun hHeld => ?_)
    clear hK K
    refine nrm_ (some 40) (h := ?_)
    refine one_ (i := 3) (N := some 41) #[true, true, true, true, false] rfl rfl (by kernel_rfl) (by decide) (fun K hK => ?_)
    refine gs_ Try.func19 #[.agg #[.slice Ao40 t249.length co40, .bool t252, .int .i64 t253, .slice Ao43 t254.length co43], .agg #[.slice Ao50 t263.length co50, .bool t266, .int .i64 t267, .slice Ao51 t268.length co51]] (h := ?_)
    with_reducible refine (laws_eqTree.calls k _ _ t249 t252 t253 _ _ t254 _ _ t263 t266 t267 _ _ t268 true _ ?side1 ?side2 ?side3 ?side4 ?side5 ?side6 ?side7 ?side8 A19.out).mono ?_
    (case side1 => repeat (first | exact (Kd.R_reads' HO251.out).2.2 | (with_reducible refine Kd.C_alloc ?_ _) | (with_reducible refine Kd.C_drewN ?_ _) | (with_reducible refine Kd.C_drew ?_)))
    (case side2 => exact (Kd.R_reads' HO251.out).2.1)
    (case side3 => repeat (first | exact (Kd.R_reads' HO256.out).2.2 | (with_reducible refine Kd.C_alloc ?_ _) | (with_reducible refine Kd.C_drewN ?_ _) | (with_reducible refine Kd.C_drew ?_)))
    (case side4 => exact (Kd.R_reads' HO256.out).2.1)
    (case side5 => repeat (first | exact (Kd.R_reads' HO265.out).2.2 | (with_reducible refine Kd.C_alloc ?_ _) | (with_reducible refine Kd.C_drewN ?_ _) | (with_reducible refine Kd.C_drew ?_)))
    (case side6 => exact (Kd.R_reads' HO265.out).2.1)
    (case side7 => repeat (first | exact (Kd.R_reads' HO270.out).2.2 | (with_reducible refine Kd.C_alloc ?_ _) | (with_reducible refine Kd.C_drewN ?_ _) | (with_reducible refine Kd.C_drew ?_)))
    (case side8 => exact (Kd.R_reads' HO270.out).2.1)
    rintro e w52 ⟨rfl, hb⟩
    refine ⟨_, rfl, ?_⟩
    replace HRW := Aside0.mk (rbl HRW hb)
    replace HX0 := Aside0.mk (rbl HX0 hb)
    replace HX1 := Aside0.mk (rbl HX1 hb)
    replace HRG := Aside0.mk (Kd.S_below (skp HRG) hb)
    replace HY := Aside0.mk (rbl HY hb)
    replace HO239 := Aside0.mk (rbl HO239 hb)
    replace HO244 := Aside0.mk (rbl HO244 hb)
    replace HO247 := Aside0.mk (rbl HO247 hb)
    replace HO251 := Aside0.mk (rbl HO251 hb)
    replace HO256 := Aside0.mk (rbl HO256 hb)
    replace HO260 := Aside0.mk (rbl HO260 hb)
    replace HO265 := Aside0.mk (rbl HO265 hb)
    replace HO270 := Aside0.mk (rbl HO270 hb)
    replace BK235 := Aside0.mk (blb BK235 hb)
    replace BK257 := Aside0.mk (blb BK257 hb)
    replace HB := bst hb
    (try clear hb)
    (try clear hb2)
    (try clear hk)
    (try clear hi)
    refine hK.out _ _ (cells_4 BK257.out (cellz_4 BK235.out)) (fun hHeld => ?_)
    clear hK K
    refine nrm_ (some 41) (h := ?_)
    refine pure_ (i := 4) (N := some 42) (v := ?_) (a' := ?_) #[true, true, true, true, true] rfl rfl (by kernel_rfl) (fun _ _ _ h => h) (Or.inl ⟨by rfl, ?_⟩) ?_ ?_
    rotate_left
    ·intro w'
     go_simp
     with_reducible rfl
    rotate_left
    ·simp only [Act.put, List.setIfInBounds_toArray, List.set_cons_zero, List.set_cons_succ, i64_w, i32_w]
     rfl
    refine done_ (by kernel_rfl) ?_
    go_upto_region 20 with (first | ((with_reducible refine gate_callee (f := 23) rfl ?_); refine gl_ (some 45) Try.func23 #[.slice A1 l1.length c1] (h := ?_); (with_reducible refine (laws_toByteS.calls k _ _ l1 t272 _ ?side1 ?side2 A21.out).mono ?_); (case side1 => exact kcb); (case side2 => exact HC1.out); rintro e w53 ⟨v273, rfl, ho0, hb⟩; refine ⟨_, rfl, ?_⟩; replace HRW := Aside0.mk (rbl HRW hb); replace HX0 := Aside0.mk (rbl HX0 hb); replace HX1 := Aside0.mk (rbl HX1 hb); replace HRG := Aside0.mk (Kd.S_below (skp HRG) hb); replace HY := Aside0.mk (rbl HY hb); have HO274 := Aside0.mk (Kd.R_lower (Kd.R_new' (Kd.R_new' (Kd.R_new' (Kd.R_new' (Kd.R_new' ho0 (Kd.R_lt (rkp HO239))) (Kd.R_lt (rkp HO247))) (Kd.R_lt (rkp HO251))) (Kd.R_lt (rkp HO260))) (Kd.R_lt (rkp HO265))) (below_size bel)); replace HO239 := Aside0.mk (Kd.R_elder' (rkp HO239) (Kd.R_base ho0) hb); replace HO244 := Aside0.mk (Kd.R_elder' (rkp HO244) (Kd.R_base ho0) hb); replace HO247 := Aside0.mk (Kd.R_elder' (rkp HO247) (Kd.R_base ho0) hb); replace HO251 := Aside0.mk (Kd.R_elder' (rkp HO251) (Kd.R_base ho0) hb); replace HO256 := Aside0.mk (Kd.R_elder' (rkp HO256) (Kd.R_base ho0) hb); replace HO260 := Aside0.mk (Kd.R_elder' (rkp HO260) (Kd.R_base ho0) hb); replace HO265 := Aside0.mk (Kd.R_elder' (rkp HO265) (Kd.R_base ho0) hb); replace HO270 := Aside0.mk (Kd.R_elder' (rkp HO270) (Kd.R_base ho0) hb); replace BK235 := Aside0.mk (blb BK235 hb); replace BK257 := Aside0.mk (blb BK257 hb); replace HB := bst hb; (try clear hb); (try clear hb2); (try clear hk); (try clear hi); (try clear ho0); obtain ⟨Ao54, co54, eo54⟩ := Kd.R_slice HO274.out; subst eo54) | ((with_reducible refine gate_callee (f := 25) rfl ?_); refine gl_ (some 46) Try.func25 #[.slice Ao46 t258.length co46, .slice Ao54 t272.length co54] (h := ?_); (with_reducible refine (laws_eqByteS.calls k _ _ t258 _ _ t272 true _ ?side1 ?side2 ?side3 ?side4 A22.out).mono ?_); (case side1 => repeat (first | exact (Kd.R_reads' HO260.out).2.2 | (with_reducible refine Kd.C_alloc ?_ _) | (with_reducible refine Kd.C_drewN ?_ _) | (with_reducible refine Kd.C_drew ?_))); (case side2 => exact (Kd.R_reads' HO260.out).2.1); (case side3 => repeat (first | exact (Kd.R_reads' HO274.out).2.2 | (with_reducible refine Kd.C_alloc ?_ _) | (with_reducible refine Kd.C_drewN ?_ _) | (with_reducible refine Kd.C_drew ?_))); (case side4 => exact (Kd.R_reads' HO274.out).2.1); rintro e w' ⟨rfl, ⟨nd, rfl⟩⟩; refine ⟨_, rfl, ?_⟩; obtain ⟨C55_0, C55_1, C55_2, C55_3, -⟩ := cells_4 BK257.out trivial; obtain ⟨F55_0, F55_1, F55_2, F55_3, -⟩ := frz_4 BK257.out) | ((with_reducible refine gate_callee (f := 33) rfl ?_); refine gl_ (some 50) Try.func33 #[.agg #[.slice Ao40 t249.length co40, .bool t252, .int .i64 t253, .slice Ao43 t254.length co43], .int .i64 1] (h := ?_); (refine (laws_markTree.calls k (fun k_ => w36.heap.size ≤ k_ ∧ k_ < w38.heap.size) (.slice Ao40 t249.length co40) t249 t252 t253 (fun k_ => w36.heap.size ≤ k_ ∧ k_ < w38.heap.size) (.slice Ao43 t254.length co43) t254 1 t276 w _ ?side1 ?side2 ?side3 A24.out).mono ?_); (case side1 => repeat (first | (with_reducible first | exact HB.out | apply below_alloc | apply pw_below_drewN | apply below_drew1 | refine below_set ?_ GE235.out | refine below_set ?_ GE257.out) | exact HB.out)); (case side2 => exact rkp HX0); (case side3 => exact rkp HX1); rintro e w56 ⟨rfl, hb, hkp⟩; refine ⟨_, rfl, ?_⟩; have n0_ := Aside0.mk (blk_kept (bkp BK235) hkp (fun hs_ => by have := GLT.out; (try simp only at hs_); omega)); have n1_ := Aside0.mk (hb); have n2_ := Aside0.mk (Kd.R_kept (rkp HRW) hkp (fun k_ h_ hs_ => by have := GLT.out; have := HSZ12.out; have := HSZ4.out; (try simp only at hs_ h_); omega)); have n3_ := Aside0.mk (Kd.S_kept (skp HRG) hkp (fun k_ h_ hs_ => by have := GLT.out; have := HSZ12.out; have := HSZ4.out; (try simp only at hs_ h_); omega)); have n4_ := Aside0.mk (Kd.R_kept (rkp HY) hkp (fun k_ h_ hs_ => by have := GLT.out; have := HSZ12.out; have := HSZ4.out; (try simp only at hs_ h_); omega)); clear BK235 HB HRW HRG HY; have BK235 := n0_; have HB := n1_; have HRW := n2_; have HRG := n3_; have HY := n4_; clear n0_ n1_ n2_ n3_ n4_ hb hkp) | ((with_reducible refine gate_callee (f := 34) rfl ?_); refine gl_ (some 53) Try.func34 #[.slice Ao46 t258.length co46, .int .i64 t276] (h := ?_); (with_reducible refine (laws_markByteS.calls k (fun k_ => some k_ = (.slice Ao46 t258.length co46 : Value).ownBlock) (.slice Ao46 t258.length co46) t258 t276 t277 t278 w _ ?side1 ?side2 A25.out).mono ?_); (case side1 => repeat (first | (with_reducible first | exact HB.out | apply below_alloc | apply pw_below_drewN | apply below_drew1 | refine below_set ?_ GE235.out | refine below_set ?_ GE257.out) | exact HB.out)); (case side2 => exact Kd.R_tight rfl (rkp HY)); rintro e w57 ⟨rfl, hy0, hb, hkp⟩; refine ⟨_, rfl, ?_⟩; have n0_ := Aside0.mk (blk_kept (bkp BK235) hkp (fun hs_ => by have h5 := HY.out.1 _ hs_.symm; have := HSZ12.out; have := GLT.out; (try simp only at h5); omega)); have n1_ := Aside0.mk hb; have n2_ := Aside0.mk (Kd.R_kept (rkp HRW) hkp (fun k_ h_ hs_ => by have h5 := HY.out.1 _ hs_.symm; have := HSZ12.out; (try simp only at h5 h_); omega)); have n3_ := Aside0.mk (Kd.S_kept (skp HRG) hkp (fun k_ h_ hs_ => by have h5 := HY.out.1 _ hs_.symm; have := HSZ12.out; (try simp only at h5 h_); omega)); clear BK235 HB HRW HRG; have BK235 := n0_; have HB := n1_; have HRW := n2_; have HRG := n3_; clear n0_ n1_ n2_ n3_ hb hkp hy0))
    (try simp only [Act.put, List.setIfInBounds_toArray, List.set_cons_zero, List.set_cons_succ])
    go_cut [61] (fun v61 wc => ∃ (kq : Nat) (x61_25 : Bool), v61 = .bool x61_25 ∧ Aside0 (laws_FnExactTreeKeys.j0 kq l1 t248 t261 x61_25 l0_0 a0_1 a0_2 l0_3 = some true) ∧ Aside0 (kq ≤ k) ∧ Aside0 (wc.heap[gb235]? = some (.cells #[(.slice A0_0 l0_0.length c0_0), .bool a0_1, .int .i64 a0_2, (.slice A0_3 l0_3.length c0_3)] 25 (0, 0))) ∧ Aside0 (Kd.R (Kd.slice 5 (Kd.int .u8)) 22 wc w.heap.size (fun k_ => k_ < w36.heap.size) (.slice AoW t248.length coW) t248) ∧ Aside0 (Kd.S (Kd.slice 5 (Kd.int .u8)) 22 wc w.heap.size (fun k_ => w44.heap.size ≤ k_) (.slice AoG t261.length coG) t261) ∧ Aside0 (Below w.heap.size w wc))
    case first =>
     have H := HC26.out
     clear HC26
     by_cases c58 : t277 < 0
     ·rw [if_pos c58] at H
      exact absurd H (by first | simp | (unfold laws_FnExactTreeKeys.j0; split <;> simp))
     rw [if_neg c58] at H
     have c58b0 : decide (t277 < 0) = false := decide_eq_false c58
     clear c58
     (first | rw [c58b0] | (simp only [i64_w, i32_w]; rw [c58b0]) | skip)
     replace H := Option.bind_eq_some_iff.mp H
     obtain ⟨t279, A590, H⟩ := H
     replace H : (laws_FnExactTreeKeys.j0 k l1 t248 t261 (!t279) l0_0 a0_1 a0_2 l0_3) = some true := H
     have A59 := Aside0.mk A590
     clear A590
     have H' := Aside0.mk H
     clear H
     go_wp2_with (first | (go_at_call 38; (with_reducible refine (laws_eqByteSS.calls k _ _ t261 _ _ t248 t279 _ ?q1 ?q2 ?q3 ?q4 A59.out).mono ?_); (case q1 => repeat (first | exact (Kd.S_reads' HRG.out).2.2 | (with_reducible refine Kd.C_alloc ?_ _) | (with_reducible refine Kd.C_drewN ?_ _) | (with_reducible refine Kd.C_drew ?_))); (case q2 => exact (Kd.S_reads' HRG.out).2.1); (case q3 => repeat (first | exact (Kd.R_reads' HRW.out).2.2 | (with_reducible refine Kd.C_alloc ?_ _) | (with_reducible refine Kd.C_drewN ?_ _) | (with_reducible refine Kd.C_drew ?_))); (case q4 => exact (Kd.R_reads' HRW.out).2.1); rintro e w' ⟨rfl, ⟨nd, rfl⟩⟩))
     go_meet
     case rel => exact ⟨_, (!t279), rs_, H', ⟨by first | omega | exact Nat.le_refl _⟩, ⟨bkp BK235⟩, ⟨rkp HRW⟩, ⟨skp HRG⟩, ⟨bel⟩⟩
    case rest =>
     clear HC26
     try clear c1; try clear c2; try clear p2; try clear c3; try clear c3b0; try clear c3b1; try clear c4; try clear c5; try clear c6; try clear c6b0; try clear c9; try clear c15; try clear c17; try clear c19; try clear c20; try clear c23; try clear c25; try clear c27; try clear c33; try clear c34; try clear c37; try clear c38; try clear c41; try clear c58; try clear c58b0; try clear C28_0 C28_1 C28_2 C28_3; try clear C30_0 C30_1 C30_2 C30_3; try clear C37_0 C37_1 C37_2 C37_3; try clear C42_0 C42_1 C42_2 C42_3; try clear C45_0 C45_1 C45_2 C45_3; try clear C55_0 C55_1 C55_2 C55_3; try clear C8_0 C8_1 C8_2 C8_3; try clear F28_0 F28_1 F28_2 F28_3; try clear F30_0 F30_1 F30_2 F30_3; try clear F37_0 F37_1 F37_2 F37_3; try clear F42_0 F42_1 F42_2 F42_3; try clear F45_0 F45_1 F45_2 F45_3; try clear F55_0 F55_1 F55_2 F55_3; try clear F8_0 F8_1 F8_2 F8_3
     obtain ⟨kq, x61_25, rfl, HA, HJ25, BK235, HRW, HRG, HB⟩ := hcut
     cases kq with
     | zero => exact absurd HA.out (by simp [laws_FnExactTreeKeys.j0])
     | succ kj25 =>
      have H := HA.out
      clear HA
      simp only [laws_FnExactTreeKeys.j0] at H
      by_cases c60 : x61_25 = true
      ·subst c60
       have H1 : (some false) = some true := by rw [if_pos rfl] at H; exact H
       exact absurd H1 (by simp)
      replace c60 := Bool.eq_false_iff.mpr c60
      subst c60
      have H1 : ((laws_markByteSS1.f kj25 t261 1).bind fun t280 => ((laws_heldByteSSm.f kj25 t261 1).bind fun t281 => (if t281 < 0 then (some false) else (if t281 = t280 then ((laws_toTree.f kj25 l0_0 a0_1 a0_2 l0_3).bind fun bt282 => ((laws_toByteS.f kj25 l1).bind fun t290 => ((impl_TreeKeys.f kj25 bt282.1 bt282.2.1 bt282.2.2.1 bt282.2.2.2 t290).bind fun t293 => ((laws_eqByteSS.f kj25 t293 t248).bind fun t294 => (if t294 = true then ((laws_heldByteSSm.f kj25 t261 1).bind fun t295 => (if t295 < 0 then (some false) else (if t295 = t280 then (some true) else (some false)))) else (some false)))))) else (some false))))) = some true := by rw [if_neg (show ¬ (false = true) by decide)] at H; exact H
      clear H
      have H := H1
      clear H1
      replace H := Option.bind_eq_some_iff.mp H
      obtain ⟨t280, A610, H⟩ := H
      replace H : ((laws_heldByteSSm.f kj25 t261 1).bind fun t281 => (if t281 < 0 then (some false) else (if t281 = t280 then ((laws_toTree.f kj25 l0_0 a0_1 a0_2 l0_3).bind fun bt282 => ((laws_toByteS.f kj25 l1).bind fun t290 => ((impl_TreeKeys.f kj25 bt282.1 bt282.2.1 bt282.2.2.1 bt282.2.2.2 t290).bind fun t293 => ((laws_eqByteSS.f kj25 t293 t248).bind fun t294 => (if t294 = true then ((laws_heldByteSSm.f kj25 t261 1).bind fun t295 => (if t295 < 0 then (some false) else (if t295 = t280 then (some true) else (some false)))) else (some false)))))) else (some false)))) = some true := H
      have A61 := Aside0.mk A610
      clear A610
      replace H := Option.bind_eq_some_iff.mp H
      obtain ⟨t281, A620, H⟩ := H
      replace H : (if t281 < 0 then (some false) else (if t281 = t280 then ((laws_toTree.f kj25 l0_0 a0_1 a0_2 l0_3).bind fun bt282 => ((laws_toByteS.f kj25 l1).bind fun t290 => ((impl_TreeKeys.f kj25 bt282.1 bt282.2.1 bt282.2.2.1 bt282.2.2.2 t290).bind fun t293 => ((laws_eqByteSS.f kj25 t293 t248).bind fun t294 => (if t294 = true then ((laws_heldByteSSm.f kj25 t261 1).bind fun t295 => (if t295 < 0 then (some false) else (if t295 = t280 then (some true) else (some false)))) else (some false)))))) else (some false))) = some true := H
      have A62 := Aside0.mk A620
      clear A620
      by_cases c63 : t281 < 0
      ·rw [if_pos c63] at H
       exact absurd H (by first | simp | (unfold laws_FnExactTreeKeys.j0; split <;> simp))
      rw [if_neg c63] at H
      have c63b0 : decide (t281 < 0) = false := decide_eq_false c63
      clear c63
      by_cases c65 : t281 = t280
      ·rw [if_pos c65] at H
       have c65b0 : (t281 == t280) = true := beq_iff_eq.mpr c65
       have c65b1 : (t281 != t280) = false := bne_eq_false_iff_eq.mpr c65
       clear c65
       replace H := Option.bind_eq_some_iff.mp H
       obtain ⟨⟨t282, t285, t286, t287⟩, A660, H⟩ := H
       replace H : ((laws_toByteS.f kj25 l1).bind fun t290 => ((impl_TreeKeys.f kj25 t282 t285 t286 t287 t290).bind fun t293 => ((laws_eqByteSS.f kj25 t293 t248).bind fun t294 => (if t294 = true then ((laws_heldByteSSm.f kj25 t261 1).bind fun t295 => (if t295 < 0 then (some false) else (if t295 = t280 then (some true) else (some false)))) else (some false))))) = some true := H
       have A66 := Aside0.mk A660
       clear A660
       replace H := Option.bind_eq_some_iff.mp H
       obtain ⟨t290, A670, H⟩ := H
       replace H : ((impl_TreeKeys.f kj25 t282 t285 t286 t287 t290).bind fun t293 => ((laws_eqByteSS.f kj25 t293 t248).bind fun t294 => (if t294 = true then ((laws_heldByteSSm.f kj25 t261 1).bind fun t295 => (if t295 < 0 then (some false) else (if t295 = t280 then (some true) else (some false)))) else (some false)))) = some true := H
       have A67 := Aside0.mk A670
       clear A670
       replace H := Option.bind_eq_some_iff.mp H
       obtain ⟨t293, A680, H⟩ := H
       replace H : ((laws_eqByteSS.f kj25 t293 t248).bind fun t294 => (if t294 = true then ((laws_heldByteSSm.f kj25 t261 1).bind fun t295 => (if t295 < 0 then (some false) else (if t295 = t280 then (some true) else (some false)))) else (some false))) = some true := H
       have A68 := Aside0.mk A680
       clear A680
       replace H := Option.bind_eq_some_iff.mp H
       obtain ⟨t294, A690, H⟩ := H
       replace H : (if t294 = true then ((laws_heldByteSSm.f kj25 t261 1).bind fun t295 => (if t295 < 0 then (some false) else (if t295 = t280 then (some true) else (some false)))) else (some false)) = some true := H
       have A69 := Aside0.mk A690
       clear A690
       by_cases c70 : t294 = true
       ·subst c70
        have H1 : ((laws_heldByteSSm.f kj25 t261 1).bind fun t295 => (if t295 < 0 then (some false) else (if t295 = t280 then (some true) else (some false)))) = some true := by rw [if_pos rfl] at H; exact H
        clear H
        have H := H1
        clear H1
        replace H := Option.bind_eq_some_iff.mp H
        obtain ⟨t295, A710, H⟩ := H
        replace H : (if t295 < 0 then (some false) else (if t295 = t280 then (some true) else (some false))) = some true := H
        have A71 := Aside0.mk A710
        clear A710
        by_cases c72 : t295 < 0
        ·rw [if_pos c72] at H
         exact absurd H (by first | simp | (unfold laws_FnExactTreeKeys.j0; split <;> simp))
        rw [if_neg c72] at H
        have c72b0 : decide (t295 < 0) = false := decide_eq_false c72
        clear c72
        by_cases c81 : t295 = t280
        ·rw [if_pos c81] at H
         have c81b0 : (t295 == t280) = true := beq_iff_eq.mpr c81
         have c81b1 : (t295 != t280) = false := bne_eq_false_iff_eq.mpr c81
         clear c81
         clear H
         obtain ⟨hlenM, hmM⟩ := laws_markByteSS1.get A61.out
         have HMM := Aside0.mk hmM
         have HLM := Aside0.mk hlenM
         clear hmM hlenM
         obtain ⟨m2, em2⟩ : ∃ m_, m_ = laws_markByteSS.mk 1 t261 := ⟨_, rfl⟩
         have EM2 := Aside0.mk em2
         clear em2
         have HH0 := Aside0.mk (show laws_heldByteSS.f kj25 m2 1 = some t281 from by rw [EM2.out]; exact A62.out)
         have HH1 := Aside0.mk (show laws_heldByteSS.f kj25 m2 1 = some t295 from by rw [EM2.out]; exact A71.out)
         go_wp2_with (first | ((with_reducible refine gate_callee (f := 39) rfl ?_); refine gl_ (some 64) Try.func39 #[.slice AoG t261.length coG, .int .i64 1] (h := ?_); (refine (laws_markByteSS.calls kj25 (fun k_ => w44.heap.size ≤ k_) (.slice AoG t261.length coG) t261 1 t280 w _ ?q1 ?q2 HLM.out HMM.out).mono ?_); (case q1 => exact bel); (case q2 => exact skp HRG); rintro e w82 ⟨rfl, hoM, hb, hkp⟩; refine ⟨_, rfl, ?_⟩; rw [← EM2.out] at hoM; have n0_ := Aside0.mk (blk_kept (bkp BK235) hkp (fun hs_ => by have := GLT.out; have := HSZ12.out; have := HSZ4.out; (try simp only at hs_); omega)); have n1_ := Aside0.mk hb; have n2_ := Aside0.mk (Kd.R_kept (rkp HRW) hkp (fun k_ h_ hs_ => by have := HSZ12.out; have := HSZ4.out; (try simp only at hs_ h_); omega)); have HRM := Aside0.mk hoM; clear BK235 HB HRW HRG; have BK235 := n0_; have HB := n1_; have HRW := n2_; clear n0_ n1_ n2_ hb hkp hoM; have hnM := (Kd.S_reads' HRM.out).1; rw [hnM] at HRM ⊢; clear hnM) | ((with_reducible refine gate_callee (f := 40) rfl ?_); refine gl_ (some 67) Try.func40 #[.slice AoG m2.length coG, .int .i64 1] (h := ?_); (with_reducible refine (laws_heldByteSS.calls kj25 _ _ m2 1 t281 _ ?q1 ?q2 HH0.out).mono ?_); (case q1 => repeat (first | exact (Kd.S_reads' HRM.out).2.2 | (with_reducible refine Kd.C_alloc ?_ _) | (with_reducible refine Kd.C_drewN ?_ _) | (with_reducible refine Kd.C_drew ?_))); (case q2 => exact (Kd.S_reads' HRM.out).2.1); rintro e w' ⟨rfl, ⟨nd, rfl⟩⟩; refine ⟨_, rfl, ?_⟩; obtain ⟨C83_0, C83_1, C83_2, C83_3, -⟩ := cells_4 BK235.out trivial; obtain ⟨F83_0, F83_1, F83_2, F83_3, -⟩ := frz_4 BK235.out) | ((with_reducible refine gate_callee (f := 17) rfl ?_); refine gl_ (some 74) Try.func17 #[.agg #[.slice A0_0 l0_0.length c0_0, .bool a0_1, .int .i64 a0_2, .slice A0_3 l0_3.length c0_3]] (h := ?_); (with_reducible refine (laws_toTree.calls kj25 _ _ l0_0 a0_1 a0_2 _ _ l0_3 t282 t285 t286 t287 _ ?side1 ?side2 ?side3 ?side4 A66.out).mono ?_); (case side1 => exact kcb); (case side2 => exact HC0_0.out); (case side3 => exact kcb); (case side4 => exact HC0_3.out); rintro e w84 ⟨v283, v288, rfl, ho0, ho1, hb⟩; refine ⟨_, rfl, ?_⟩; replace HRW := Aside0.mk (rbl HRW hb); replace HRM := Aside0.mk (Kd.S_below (skp HRM) hb); have HO284 := Aside0.mk (Kd.R_lower ho0 (below_size bel)); have HO289 := Aside0.mk (Kd.R_lower ho1 (below_size bel)); replace BK235 := Aside0.mk (blb BK235 hb); replace HB := bst hb; (try clear hb); (try clear hb2); (try clear hk); (try clear hi); (try clear ho0); (try clear ho1)) | ((with_reducible refine gate_callee (f := 23) rfl ?_); refine gl_ (some 76) Try.func23 #[.slice A1 l1.length c1] (h := ?_); (with_reducible refine (laws_toByteS.calls kj25 _ _ l1 t290 _ ?side1 ?side2 A67.out).mono ?_); (case side1 => exact kcb); (case side2 => exact HC1.out); rintro e w85 ⟨v291, rfl, ho0, hb⟩; refine ⟨_, rfl, ?_⟩; replace HRW := Aside0.mk (rbl HRW hb); replace HRM := Aside0.mk (Kd.S_below (skp HRM) hb); have HO292 := Aside0.mk (Kd.R_lower (Kd.R_new' ho0 (Kd.R_lt (rkp HO284))) (below_size bel)); replace HO284 := Aside0.mk (Kd.R_elder' (rkp HO284) (Kd.R_base ho0) hb); replace HO289 := Aside0.mk (Kd.R_elder' (rkp HO289) (Kd.R_base ho0) hb); replace BK235 := Aside0.mk (blb BK235 hb); replace HB := bst hb; (try clear hb); (try clear hb2); (try clear hk); (try clear hi); (try clear ho0); obtain ⟨Ao86, co86, eo86⟩ := Kd.R_slice HO284.out; subst eo86; obtain ⟨Ao87, co87, eo87⟩ := Kd.R_slice HO289.out; subst eo87; obtain ⟨Ao88, co88, eo88⟩ := Kd.R_slice HO292.out; subst eo88) | ((with_reducible refine gate_callee (f := 27) rfl ?_); refine gl_ (some 77) Try.func27 #[.agg #[.slice Ao86 t282.length co86, .bool t285, .int .i64 t286, .slice Ao87 t287.length co87], .slice Ao88 t290.length co88] (h := ?_); (with_reducible refine (impl_TreeKeys.calls kj25 _ _ t282 t285 t286 _ _ t287 _ _ t290 t293 _ ?side1 ?side2 ?side3 ?side4 ?side5 ?side6 A68.out).mono ?_); (case side1 => repeat (first | exact (Kd.R_reads' HO284.out).2.2 | (with_reducible refine Kd.C_alloc ?_ _) | (with_reducible refine Kd.C_drewN ?_ _) | (with_reducible refine Kd.C_drew ?_))); (case side2 => exact (Kd.R_reads' HO284.out).2.1); (case side3 => repeat (first | exact (Kd.R_reads' HO289.out).2.2 | (with_reducible refine Kd.C_alloc ?_ _) | (with_reducible refine Kd.C_drewN ?_ _) | (with_reducible refine Kd.C_drew ?_))); (case side4 => exact (Kd.R_reads' HO289.out).2.1); (case side5 => repeat (first | exact (Kd.R_reads' HO292.out).2.2 | (with_reducible refine Kd.C_alloc ?_ _) | (with_reducible refine Kd.C_drewN ?_ _) | (with_reducible refine Kd.C_drew ?_))); (case side6 => exact (Kd.R_reads' HO292.out).2.1); rintro e w89 ⟨vH, rfl, hoH, hb⟩; refine ⟨_, rfl, ?_⟩; have HRH := Aside0.mk hoH; clear hoH; obtain ⟨AoH, coH, eoH⟩ := Kd.S_slice HRH.out; subst eoH; replace HRW := Aside0.mk (rbl HRW hb); replace HRM := Aside0.mk (Kd.S_below (skp HRM) hb); replace HO284 := Aside0.mk (rbl HO284 hb); replace HO289 := Aside0.mk (rbl HO289 hb); replace HO292 := Aside0.mk (rbl HO292 hb); replace BK235 := Aside0.mk (blb BK235 hb); replace HB := bst hb; (try clear hb); (try clear hb2); (try clear hk); (try clear hi)) | ((with_reducible refine gate_callee (f := 38) rfl ?_); refine gl_ (some 80) Try.func38 #[.slice AoH t293.length coH, .slice AoW t248.length coW] (h := ?_); (with_reducible refine (laws_eqByteSS.calls kj25 _ _ t293 _ _ t248 true _ ?q1 ?q2 ?q3 ?q4 A69.out).mono ?_); (case q1 => repeat (first | exact (Kd.S_reads' HRH.out).2.2 | (with_reducible refine Kd.C_alloc ?_ _) | (with_reducible refine Kd.C_drewN ?_ _) | (with_reducible refine Kd.C_drew ?_))); (case q2 => exact (Kd.S_reads' HRH.out).2.1); (case q3 => repeat (first | exact (Kd.R_reads' HRW.out).2.2 | (with_reducible refine Kd.C_alloc ?_ _) | (with_reducible refine Kd.C_drewN ?_ _) | (with_reducible refine Kd.C_drew ?_))); (case q4 => exact (Kd.R_reads' HRW.out).2.1); rintro e w' ⟨rfl, ⟨nd, rfl⟩⟩; refine ⟨_, rfl, ?_⟩) | ((with_reducible refine gate_callee (f := 40) rfl ?_); refine gl_ (some 84) Try.func40 #[.slice AoG m2.length coG, .int .i64 1] (h := ?_); (with_reducible refine (laws_heldByteSS.calls kj25 _ _ m2 1 t295 _ ?q1 ?q2 HH1.out).mono ?_); (case q1 => repeat (first | exact (Kd.S_reads' HRM.out).2.2 | (with_reducible refine Kd.C_alloc ?_ _) | (with_reducible refine Kd.C_drewN ?_ _) | (with_reducible refine Kd.C_drew ?_))); (case q2 => exact (Kd.S_reads' HRM.out).2.1); rintro e w' ⟨rfl, ⟨nd, rfl⟩⟩; refine ⟨_, rfl, ?_⟩))
         go_ret
         exact ⟨rz_, bel⟩
        rw [if_neg c81] at H
        exact absurd H (by first | simp | (unfold laws_FnExactTreeKeys.j0; split <;> simp))
       replace c70 := Bool.eq_false_iff.mpr c70
       subst c70
       have H1 : (some false) = some true := by rw [if_neg (show ¬ (false = true) by decide)] at H; exact H
       exact absurd H1 (by simp)
      rw [if_neg c65] at H
      exact absurd H (by first | simp | (unfold laws_FnExactTreeKeys.j0; split <;> simp))
   replace c23 := Bool.eq_false_iff.mpr c23
   subst c23
   have H1 : (some false) = some true := by rw [if_neg (show ¬ (false = true) by decide)] at H; exact H
   exact absurd H1 (by simp)
  replace c20 := Bool.eq_false_iff.mpr c20
  subst c20
  have H1 : (some false) = some true := by rw [if_neg (show ¬ (false = true) by decide)] at H; exact H
  exact absurd H1 (by simp)
 replace c17 := Bool.eq_false_iff.mpr c17
 subst c17
 have H1 : (some false) = some true := by rw [if_neg (show ¬ (false = true) by decide)] at H; exact H
 exact absurd H1 (by simp)

/-- THE ONE PURE STATEMENT of laws_FnExactTreeKeys. -/
def laws_FnExactTreeKeys.Pure : Prop := ∀ (x0 : S25) (l1 : List Int), okS25 x0 → l1.length ≤ maxLen → l1.length * 1 ≤ 140737488351232 → (∀ x ∈ l1, (Lit.int .u8 x).wf = true) → ∃ k, laws_FnExactTreeKeys.f k x0.f0 x0.f1 x0.f2 x0.f3 l1 = some true
theorem laws_FnExactTreeKeys.walk (P : laws_FnExactTreeKeys.Pure) (x0 : S25) (cs0 : List Value) (a1 : Option Addr) (len1 cap1 : Nat) (z1 : List Int) (w : World) (w0 : k25.K w x0 cs0) (o0 : okS25 x0) (w1 : (a1 = none ∧ len1 = 0 ∧ cap1 = 0 ∧ z1 = []) ∨ ∃ x, a1 = some x ∧ len1 ≤ cap1 ∧ cap1 ≤ maxLen ∧ z1.length = cap1 ∧ (∀ i, i < z1.length → w.cell? (x.add i) = some (.int .u8 (z1.getD i 0))) ∧ ∀ n ∈ z1, (Lit.int .u8 n).wf = true) (y1 : len1 * 1 ≤ 140737488351232) :
  Calls Try.prog 9 #[.agg ⟨cs0⟩, .slice a1 len1 cap1] w fun e w' => e = .returned (.bool true) ∧ Below w.heap.size w w' := by
 obtain ⟨A0_0, c0_0, A0_3, c0_3, rfl, m0_0, g0_0, m0_3, g0_3⟩ := k25_open w0
 obtain ⟨l1, rfl, hr1, hm1, hw1, hc1⟩ := ReadsInt.ofRowC w1
 obtain ⟨k, h⟩ := P x0 l1 o0 hm1 y1 hw1
 refine (laws_FnExactTreeKeys.calls k _ _ x0.f0 x0.f1 x0.f2 _ _ x0.f3 _ _ l1 w g0_0 m0_0 g0_3 m0_3 (Kd.C_of_reads (d := (0 : Int)) (h1 := fun _ => rfl) hr1) hc1 h).mono ?_
 rintro e w' ⟨rfl, hd⟩
 exact ⟨rfl, hd⟩

end Go.Proofs.Ytoaddpfoecggpaa.PS
