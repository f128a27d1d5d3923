-- Written for this claim by the session's program pp.py, out of the kit's print and the seat's translation.
import Derived.Test.YtoaddpfoecggpaaPTx0
import Derived.Test.YtoaddpfoecggpaaPTx1
import Derived.Test.YtoaddpfoecggpaaPTx2
import Derived.Test.YtoaddpfoecggpaaPTx5
import Derived.Test.YtoaddpfoecggpaaPTx7
import Derived.Test.YtoaddpfoecggpaaPTx8
namespace Go.Proofs.Ytoaddpfoecggpaa.PT
open Go.RowKit Go.Proofs.YtoaddpfoecggpaaW.PrintWords Go.Proofs.YtoaddpfoecggpaaW.PrintLast Go.Proofs.YtoaddpfoecggpaaW.PrintMore
attribute [local go_sem] max2_int min2_int max_two min_two max_three min_three max_four min_four   -- for this text's walks alone
set_option linter.unusedVariables false
set_option linter.unusedSimpArgs false

/-! ### laws_FnExactTreeNext: function 7 -/
mutual
def laws_FnExactTreeNext.j0 : Nat → List Int → List Int → Bool → List Int → List Int → Bool → Bool → List Int → Bool → Int → List (S25) → List Int → Bool → Int → List (S30) → Option (Bool)
 | 0, _, _, _, _, _, _, _, _, _, _, _, _, _, _, _ => none
 | k + 1, x1, x6, x7, x9, x10, x11, x51, x239000, x239001, x239002, x239003, x264000, x264001, x264002, x264003 => if x51 = true then (some false) else ((laws_toTree.f k x239000 x239001 x239002 x239003).bind fun bt272 => ((laws_eqTree.f k x264000 x264001 x264002 x264003 bt272.1 bt272.2.1 bt272.2.2.1 bt272.2.2.2).bind fun t280 => (if t280 = true then ((laws_toByteS.f k x1).bind fun t281 => ((laws_eqByteS.f k x9 t281).bind fun t284 => (if t284 = true then ((laws_markTree.f k x264000 x264001 x264002 x264003 1).bind fun t285 => ((laws_markByteS.f k x9 t285).bind fun bt286 => (if bt286.1 < 0 then (laws_FnExactTreeNext.j1 k x1 x6 x7 x10 true x239000 x239001 x239002 x239003) else ((laws_eqByteS.f k x10 x6).bind fun t288 => (if t288 = true then (laws_FnExactTreeNext.j1 k x1 x6 x7 x10 (x11 != x7) x239000 x239001 x239002 x239003) else (laws_FnExactTreeNext.j1 k x1 x6 x7 x10 true x239000 x239001 x239002 x239003)))))) else (some false)))) else (some false))))
def laws_FnExactTreeNext.j1 : Nat → List Int → List Int → Bool → List Int → Bool → List Int → Bool → Int → List (S25) → Option (Bool)
 | 0, _, _, _, _, _, _, _, _, _ => none
 | k + 1, x1, x6, x7, x10, x80, x239000, x239001, x239002, x239003 => if x80 = true then (some false) else ((laws_markByteS.f k x10 1).bind fun bt289 => ((laws_heldByteS.f k bt289.2 1).bind fun t291 => (if t291 < 0 then (some false) else (if t291 = bt289.1 then ((laws_toTree.f k x239000 x239001 x239002 x239003).bind fun bt292 => ((laws_toByteS.f k x1).bind fun t300 => ((impl_TreeNext.f k bt292.1 bt292.2.1 bt292.2.2.1 bt292.2.2.2 t300).bind fun bt303 => ((laws_eqByteS.f k bt303.1 x6).bind fun t307 => (if t307 = true then (laws_FnExactTreeNext.j2 k bt289.2 bt289.1 (bt303.2 != x7)) else (laws_FnExactTreeNext.j2 k bt289.2 bt289.1 true)))))) else (some false)))))
def laws_FnExactTreeNext.j2 : Nat → List Int → Int → Bool → Option (Bool)
 | 0, _, _, _ => none
 | k + 1, x10, x13, x108 => if x108 = true then (some false) else ((laws_heldByteS.f k x10 1).bind fun t308 => (if t308 < 0 then (some false) else (if t308 = x13 then (some true) else (some false))))
end
def laws_FnExactTreeNext.f (k : Nat) (l0_0 : List Int) (a0_1 : Bool) (a0_2 : Int) (l0_3 : List (S25)) (l1 : List Int) : Option (Bool) := if (l1.length : Int) > 1048576 then (some true) else ((laws_szTree.f k l0_0 a0_1 a0_2 l0_3 1048576).bind fun t239 => (if t239 < 0 then (some true) else ((laws_toTree.f k l0_0 a0_1 a0_2 l0_3).bind fun bt240 => ((laws_toByteS.f k l1).bind fun t248 => ((spec_TreeNext.f k bt240.1 bt240.2.1 bt240.2.2.1 bt240.2.2.2 t248).bind fun bt251 => ((laws_toTree.f k l0_0 a0_1 a0_2 l0_3).bind fun bt255 => ((laws_toByteS.f k l1).bind fun t264 => ((impl_TreeNext.f k bt255.1 bt255.2.1 bt255.2.2.1 bt255.2.2.2 t264).bind fun bt267 => ((laws_eqByteS.f k bt267.1 bt251.1).bind fun t271 => (if t271 = true then (laws_FnExactTreeNext.j0 k l1 bt251.1 bt251.2 t264 bt267.1 bt267.2 (bt267.2 != bt251.2) l0_0 a0_1 a0_2 l0_3 bt255.1 bt255.2.1 bt255.2.2.1 bt255.2.2.2) else (laws_FnExactTreeNext.j0 k l1 bt251.1 bt251.2 t264 bt267.1 bt267.2 true l0_0 a0_1 a0_2 l0_3 bt255.1 bt255.2.1 bt255.2.2.1 bt255.2.2.2)))))))))))
set_option maxHeartbeats 8000000 in
set_option maxRecDepth 100000 in
theorem laws_FnExactTreeNext.calls (k : Nat) (A0_0 : Option Addr) (c0_0 : Nat) (l0_0 : List Int) (a0_1 : Bool) (a0_2 : Int) (A0_3 : Option Addr) (c0_3 : Nat) (l0_3 : List (S25)) (A1 : Option Addr) (c1 : Nat) (l1 : List Int) (r : Bool) (w : World) (hr0_0 : Kd.C (Kd.int .u8) w A0_0 l0_0.length l0_0) (hc0_0 : l0_0.length ≤ c0_0) (hr0_3 : Kd.C k25 w A0_3 l0_3.length l0_3) (hc0_3 : l0_3.length ≤ c0_3) (hr1 : Kd.C (Kd.int .u8) w A1 l1.length l1) (hc1 : l1.length ≤ c1) (h : laws_FnExactTreeNext.f k l0_0 a0_1 a0_2 l0_3 l1 = some r) :
  Calls Try.prog 7 #[.agg #[.slice A0_0 l0_0.length c0_0, .bool a0_1, .int .i64 a0_2, .slice A0_3 l0_3.length c0_3], .slice A1 l1.length c1] w fun e w' => e = .returned (.bool r) ∧ Below w.heap.size w w' := by
 have hu25 := Try.underlying25
 have hu30 := Try.underlying30
 have HR0_0 := Aside0.mk hr0_0
 have HC0_0 := Aside0.mk hc0_0
 clear hr0_0 hc0_0
 have HR0_3 := Aside0.mk hr0_3
 have HC0_3 := Aside0.mk hc0_3
 clear hr0_3 hc0_3
 have HR1 := Aside0.mk hr1
 have HC1 := Aside0.mk hc1
 clear hr1 hc1
 have HB := Aside0.mk (Below.refl w.heap.size w)
 have H : (if (l1.length : Int) > 1048576 then (some true) else ((laws_szTree.f k l0_0 a0_1 a0_2 l0_3 1048576).bind fun t239 => (if t239 < 0 then (some true) else ((laws_toTree.f k l0_0 a0_1 a0_2 l0_3).bind fun bt240 => ((laws_toByteS.f k l1).bind fun t248 => ((spec_TreeNext.f k bt240.1 bt240.2.1 bt240.2.2.1 bt240.2.2.2 t248).bind fun bt251 => ((laws_toTree.f k l0_0 a0_1 a0_2 l0_3).bind fun bt255 => ((laws_toByteS.f k l1).bind fun t264 => ((impl_TreeNext.f k bt255.1 bt255.2.1 bt255.2.2.1 bt255.2.2.2 t264).bind fun bt267 => ((laws_eqByteS.f k bt267.1 bt251.1).bind fun t271 => (if t271 = true then (laws_FnExactTreeNext.j0 k l1 bt251.1 bt251.2 t264 bt267.1 bt267.2 (bt267.2 != bt251.2) l0_0 a0_1 a0_2 l0_3 bt255.1 bt255.2.1 bt255.2.2.1 bt255.2.2.2) else (laws_FnExactTreeNext.j0 k l1 bt251.1 bt251.2 t264 bt267.1 bt267.2 true l0_0 a0_1 a0_2 l0_3 bt255.1 bt255.2.1 bt255.2.2.1 bt255.2.2.2)))))))))))) = some r := h
 clear h
 by_cases c3 : (l1.length : Int) > 1048576
 ·rw [if_pos c3] at H
  have c3b0 : decide (1048576 < (l1.length : Int)) = true := decide_eq_true c3
  have c3b1 : decide (1048576 < l1.length) = true := decide_eq_true (by omega)
  clear c3
  obtain rfl := Option.some.inj H
  go_enter Try.func7, Try.ntmps7
  go_wp2_with (first | ((with_reducible refine gate_dst (N := 2) rfl ?_); refine bx_ 2 #[.slice A0_0 l0_0.length c0_0, .bool a0_1, .int .i64 a0_2, .slice A0_3 l0_3.length c0_3] 25 (h := ?_); intro gb238 hg w4 hbox hb; have BK238 := Aside0.mk (hbox); have GW238 := Aside0.mk ((by rw [hg]; exact (below_size bel) : w.heap.size ≤ gb238)); have GE238 := Aside0.mk ((by rw [hg]; exact (below_size bel) : w.heap.size ≤ gb238)); replace HB := Aside0.mk (below_step bel hb); clear hb hbox hg))
  go_ret
  exact ⟨by first | rfl | (simp [errW_none, errW_some] <;> rfl) | (simp [*, errW_none, errW_some] <;> rfl), by repeat (first | (with_reducible first | exact HB.out | apply below_alloc | apply pw_below_drewN | apply below_drew1 | refine below_set ?_ GE238.out) | exact HB.out)⟩
 ·rw [if_neg c3] at H
  have c3b0 : decide (1048576 < (l1.length : Int)) = false := decide_eq_false c3
  have c3b1 : decide (1048576 < l1.length) = false := decide_eq_false (by omega)
  clear c3
  replace H := Option.bind_eq_some_iff.mp H
  obtain ⟨t239, A50, H⟩ := H
  replace H : (if t239 < 0 then (some true) else ((laws_toTree.f k l0_0 a0_1 a0_2 l0_3).bind fun bt240 => ((laws_toByteS.f k l1).bind fun t248 => ((spec_TreeNext.f k bt240.1 bt240.2.1 bt240.2.2.1 bt240.2.2.2 t248).bind fun bt251 => ((laws_toTree.f k l0_0 a0_1 a0_2 l0_3).bind fun bt255 => ((laws_toByteS.f k l1).bind fun t264 => ((impl_TreeNext.f k bt255.1 bt255.2.1 bt255.2.2.1 bt255.2.2.2 t264).bind fun bt267 => ((laws_eqByteS.f k bt267.1 bt251.1).bind fun t271 => (if t271 = true then (laws_FnExactTreeNext.j0 k l1 bt251.1 bt251.2 t264 bt267.1 bt267.2 (bt267.2 != bt251.2) l0_0 a0_1 a0_2 l0_3 bt255.1 bt255.2.1 bt255.2.2.1 bt255.2.2.2) else (laws_FnExactTreeNext.j0 k l1 bt251.1 bt251.2 t264 bt267.1 bt267.2 true l0_0 a0_1 a0_2 l0_3 bt255.1 bt255.2.1 bt255.2.2.1 bt255.2.2.2)))))))))) = some r := H
  have A5 := Aside0.mk A50
  clear A50
  by_cases c6 : t239 < 0
  ·rw [if_pos c6] at H
   have c6b0 : decide (t239 < 0) = true := decide_eq_true c6
   clear c6
   obtain rfl := Option.some.inj H
   go_enter Try.func7, Try.ntmps7
   go_wp2_with (first | ((with_reducible refine gate_dst (N := 2) rfl ?_); refine bx_ 2 #[.slice A0_0 l0_0.length c0_0, .bool a0_1, .int .i64 a0_2, .slice A0_3 l0_3.length c0_3] 25 (h := ?_); intro gb238 hg w7 hbox hb; have BK238 := Aside0.mk (hbox); have GW238 := Aside0.mk ((by rw [hg]; exact (below_size bel) : w.heap.size ≤ gb238)); have GE238 := Aside0.mk ((by rw [hg]; exact (below_size bel) : w.heap.size ≤ gb238)); replace HB := Aside0.mk (below_step bel hb); clear hb hbox hg; obtain ⟨hcz8_0, hcz8_1, hcz8_2, hcz8_3, -⟩ := cells_4 BK238.out trivial; obtain ⟨hfz8_0, hfz8_1, hfz8_2, hfz8_3, -⟩ := frz_4 BK238.out) | ((with_reducible refine gate_callee (f := 15) rfl ?_); refine gl_ (some 22) Try.func15 #[.agg #[.slice A0_0 l0_0.length c0_0, .bool a0_1, .int .i64 a0_2, .slice A0_3 l0_3.length c0_3], .int .i64 1048576] (h := ?_); (with_reducible refine (laws_szTree.calls k _ _ l0_0 a0_1 a0_2 _ _ l0_3 1048576 t239 _ ?side1 ?side2 ?side3 ?side4 A5.out).mono ?_); (case side1 => exact kcb); (case side2 => exact HC0_0.out); (case side3 => exact kcb); (case side4 => exact HC0_3.out); rintro e w9 ⟨rfl, hb⟩; refine ⟨_, rfl, ?_⟩; replace BK238 := Aside0.mk (blb BK238 hb); replace HB := Aside0.mk (below_step bel hb); (try clear hb); (try clear hb2); (try clear hk); (try clear hi)))
   go_ret
   exact ⟨by first | rfl | (simp [errW_none, errW_some] <;> rfl) | (simp [*, errW_none, errW_some] <;> rfl), by repeat (first | (with_reducible first | exact HB.out | apply below_alloc | apply pw_below_drewN | apply below_drew1 | refine below_set ?_ GE238.out) | exact HB.out)⟩
  ·rw [if_neg c6] at H
   have c6b0 : decide (t239 < 0) = false := decide_eq_false c6
   clear c6
   replace H := Option.bind_eq_some_iff.mp H
   obtain ⟨⟨t240, t243, t244, t245⟩, A100, H⟩ := H
   replace H : ((laws_toByteS.f k l1).bind fun t248 => ((spec_TreeNext.f k t240 t243 t244 t245 t248).bind fun bt251 => ((laws_toTree.f k l0_0 a0_1 a0_2 l0_3).bind fun bt255 => ((laws_toByteS.f k l1).bind fun t264 => ((impl_TreeNext.f k bt255.1 bt255.2.1 bt255.2.2.1 bt255.2.2.2 t264).bind fun bt267 => ((laws_eqByteS.f k bt267.1 bt251.1).bind fun t271 => (if t271 = true then (laws_FnExactTreeNext.j0 k l1 bt251.1 bt251.2 t264 bt267.1 bt267.2 (bt267.2 != bt251.2) l0_0 a0_1 a0_2 l0_3 bt255.1 bt255.2.1 bt255.2.2.1 bt255.2.2.2) else (laws_FnExactTreeNext.j0 k l1 bt251.1 bt251.2 t264 bt267.1 bt267.2 true l0_0 a0_1 a0_2 l0_3 bt255.1 bt255.2.1 bt255.2.2.1 bt255.2.2.2)))))))) = some r := H
   have A10 := Aside0.mk A100
   clear A100
   replace H := Option.bind_eq_some_iff.mp H
   obtain ⟨t248, A110, H⟩ := H
   replace H : ((spec_TreeNext.f k t240 t243 t244 t245 t248).bind fun bt251 => ((laws_toTree.f k l0_0 a0_1 a0_2 l0_3).bind fun bt255 => ((laws_toByteS.f k l1).bind fun t264 => ((impl_TreeNext.f k bt255.1 bt255.2.1 bt255.2.2.1 bt255.2.2.2 t264).bind fun bt267 => ((laws_eqByteS.f k bt267.1 bt251.1).bind fun t271 => (if t271 = true then (laws_FnExactTreeNext.j0 k l1 bt251.1 bt251.2 t264 bt267.1 bt267.2 (bt267.2 != bt251.2) l0_0 a0_1 a0_2 l0_3 bt255.1 bt255.2.1 bt255.2.2.1 bt255.2.2.2) else (laws_FnExactTreeNext.j0 k l1 bt251.1 bt251.2 t264 bt267.1 bt267.2 true l0_0 a0_1 a0_2 l0_3 bt255.1 bt255.2.1 bt255.2.2.1 bt255.2.2.2))))))) = some r := H
   have A11 := Aside0.mk A110
   clear A110
   replace H := Option.bind_eq_some_iff.mp H
   obtain ⟨⟨t251, t254⟩, A120, H⟩ := H
   replace H : ((laws_toTree.f k l0_0 a0_1 a0_2 l0_3).bind fun bt255 => ((laws_toByteS.f k l1).bind fun t264 => ((impl_TreeNext.f k bt255.1 bt255.2.1 bt255.2.2.1 bt255.2.2.2 t264).bind fun bt267 => ((laws_eqByteS.f k bt267.1 t251).bind fun t271 => (if t271 = true then (laws_FnExactTreeNext.j0 k l1 t251 t254 t264 bt267.1 bt267.2 (bt267.2 != t254) l0_0 a0_1 a0_2 l0_3 bt255.1 bt255.2.1 bt255.2.2.1 bt255.2.2.2) else (laws_FnExactTreeNext.j0 k l1 t251 t254 t264 bt267.1 bt267.2 true l0_0 a0_1 a0_2 l0_3 bt255.1 bt255.2.1 bt255.2.2.1 bt255.2.2.2)))))) = some r := H
   have A12 := Aside0.mk A120
   clear A120
   replace H := Option.bind_eq_some_iff.mp H
   obtain ⟨⟨t255, t258, t259, t260⟩, A130, H⟩ := H
   replace H : ((laws_toByteS.f k l1).bind fun t264 => ((impl_TreeNext.f k t255 t258 t259 t260 t264).bind fun bt267 => ((laws_eqByteS.f k bt267.1 t251).bind fun t271 => (if t271 = true then (laws_FnExactTreeNext.j0 k l1 t251 t254 t264 bt267.1 bt267.2 (bt267.2 != t254) l0_0 a0_1 a0_2 l0_3 t255 t258 t259 t260) else (laws_FnExactTreeNext.j0 k l1 t251 t254 t264 bt267.1 bt267.2 true l0_0 a0_1 a0_2 l0_3 t255 t258 t259 t260))))) = some r := H
   have A13 := Aside0.mk A130
   clear A130
   replace H := Option.bind_eq_some_iff.mp H
   obtain ⟨t264, A140, H⟩ := H
   replace H : ((impl_TreeNext.f k t255 t258 t259 t260 t264).bind fun bt267 => ((laws_eqByteS.f k bt267.1 t251).bind fun t271 => (if t271 = true then (laws_FnExactTreeNext.j0 k l1 t251 t254 t264 bt267.1 bt267.2 (bt267.2 != t254) l0_0 a0_1 a0_2 l0_3 t255 t258 t259 t260) else (laws_FnExactTreeNext.j0 k l1 t251 t254 t264 bt267.1 bt267.2 true l0_0 a0_1 a0_2 l0_3 t255 t258 t259 t260)))) = some r := H
   have A14 := Aside0.mk A140
   clear A140
   replace H := Option.bind_eq_some_iff.mp H
   obtain ⟨⟨t267, t270⟩, A150, H⟩ := H
   replace H : ((laws_eqByteS.f k t267 t251).bind fun t271 => (if t271 = true then (laws_FnExactTreeNext.j0 k l1 t251 t254 t264 t267 t270 (t270 != t254) l0_0 a0_1 a0_2 l0_3 t255 t258 t259 t260) else (laws_FnExactTreeNext.j0 k l1 t251 t254 t264 t267 t270 true l0_0 a0_1 a0_2 l0_3 t255 t258 t259 t260))) = some r := H
   have A15 := Aside0.mk A150
   clear A150
   have HC16 := Aside0.mk H
   clear H
   go_enter Try.func7, Try.ntmps7
   go_upto_region 11 with (first | ((with_reducible refine gate_dst (N := 2) rfl ?_); refine bx_ 2 #[.slice A0_0 l0_0.length c0_0, .bool a0_1, .int .i64 a0_2, .slice A0_3 l0_3.length c0_3] 25 (h := ?_); intro gb238 hg w17 hbox hb; have BK238 := Aside0.mk (hbox); have GW238 := Aside0.mk ((by rw [hg]; exact (below_size bel) : w.heap.size ≤ gb238)); have GE238 := Aside0.mk ((by rw [hg]; exact (below_size bel) : w.heap.size ≤ gb238)); replace HB := Aside0.mk (below_step bel hb); clear hb hbox hg; obtain ⟨hcz18_0, hcz18_1, hcz18_2, hcz18_3, -⟩ := cells_4 BK238.out trivial; obtain ⟨hfz18_0, hfz18_1, hfz18_2, hfz18_3, -⟩ := frz_4 BK238.out) | ((with_reducible refine gate_callee (f := 15) rfl ?_); refine gl_ (some 22) Try.func15 #[.agg #[.slice A0_0 l0_0.length c0_0, .bool a0_1, .int .i64 a0_2, .slice A0_3 l0_3.length c0_3], .int .i64 1048576] (h := ?_); (with_reducible refine (laws_szTree.calls k _ _ l0_0 a0_1 a0_2 _ _ l0_3 1048576 t239 _ ?side1 ?side2 ?side3 ?side4 A5.out).mono ?_); (case side1 => exact kcb); (case side2 => exact HC0_0.out); (case side3 => exact kcb); (case side4 => exact HC0_3.out); rintro e w19 ⟨rfl, hb⟩; refine ⟨_, rfl, ?_⟩; replace BK238 := Aside0.mk (blb BK238 hb); replace HB := Aside0.mk (below_step bel hb); (try clear hb); (try clear hb2); (try clear hk); (try clear hi); obtain ⟨hcz20_0, hcz20_1, hcz20_2, hcz20_3, -⟩ := cells_4 BK238.out trivial; obtain ⟨hfz20_0, hfz20_1, hfz20_2, hfz20_3, -⟩ := frz_4 BK238.out) | ((with_reducible refine gate_callee (f := 17) rfl ?_); refine gl_ (some 27) Try.func17 #[.agg #[.slice A0_0 l0_0.length c0_0, .bool a0_1, .int .i64 a0_2, .slice A0_3 l0_3.length c0_3]] (h := ?_); (with_reducible refine (laws_toTree.calls k _ _ l0_0 a0_1 a0_2 _ _ l0_3 t240 t243 t244 t245 _ ?side1 ?side2 ?side3 ?side4 A10.out).mono ?_); (case side1 => exact kcb); (case side2 => exact HC0_0.out); (case side3 => exact kcb); (case side4 => exact HC0_3.out); rintro e w21 ⟨v241, v246, rfl, ho0, ho1, hb⟩; refine ⟨_, rfl, ?_⟩; have HO242 := Aside0.mk (Kd.R_lower ho0 (below_size bel)); have HO247 := Aside0.mk (Kd.R_lower ho1 (below_size bel)); replace BK238 := Aside0.mk (blb BK238 hb); replace HB := Aside0.mk (below_step bel hb); (try clear hb); (try clear hb2); (try clear hk); (try clear hi); (try clear ho0); (try clear ho1)) | ((with_reducible refine gate_callee (f := 23) rfl ?_); refine gl_ (some 29) Try.func23 #[.slice A1 l1.length c1] (h := ?_); (with_reducible refine (laws_toByteS.calls k _ _ l1 t248 _ ?side1 ?side2 A11.out).mono ?_); (case side1 => exact kcb); (case side2 => exact HC1.out); rintro e w22 ⟨v249, rfl, ho0, hb⟩; refine ⟨_, rfl, ?_⟩; have HO250 := Aside0.mk (Kd.R_lower (Kd.R_new' ho0 (Kd.R_lt (by (with_reducible repeat (first | apply Kd.R_alloc | apply Kd.R_drewN | apply Kd.R_drew)); exact HO242.out))) (below_size bel)); replace HO242 := Aside0.mk (Kd.R_elder' (by (with_reducible repeat (first | apply Kd.R_alloc | apply Kd.R_drewN | apply Kd.R_drew)); exact HO242.out) (Kd.R_base ho0) hb); replace HO247 := Aside0.mk (Kd.R_elder' (by (with_reducible repeat (first | apply Kd.R_alloc | apply Kd.R_drewN | apply Kd.R_drew)); exact HO247.out) (Kd.R_base ho0) hb); replace BK238 := Aside0.mk (blb BK238 hb); replace HB := Aside0.mk (below_step bel hb); (try clear hb); (try clear hb2); (try clear hk); (try clear hi); (try clear ho0); obtain ⟨Ao23, co23, eo23⟩ := Kd.R_slice HO242.out; subst eo23; obtain ⟨Ao24, co24, eo24⟩ := Kd.R_slice HO247.out; subst eo24; obtain ⟨Ao25, co25, eo25⟩ := Kd.R_slice HO250.out; subst eo25) | ((with_reducible refine gate_callee (f := 32) rfl ?_); refine gl_ (some 30) Try.func32 #[.agg #[.slice Ao23 t240.length co23, .bool t243, .int .i64 t244, .slice Ao24 t245.length co24], .slice Ao25 t248.length co25] (h := ?_); (with_reducible refine (spec_TreeNext.calls k _ _ t240 t243 t244 _ _ t245 _ _ t248 t251 t254 _ ?side1 ?side2 ?side3 ?side4 ?side5 ?side6 A12.out).mono ?_); (case side1 => repeat (first | exact (Kd.R_reads' HO242.out).2.2 | (with_reducible refine Kd.C_alloc ?_ _) | (with_reducible refine Kd.C_drewN ?_ _) | (with_reducible refine Kd.C_drew ?_))); (case side2 => exact (Kd.R_reads' HO242.out).2.1); (case side3 => repeat (first | exact (Kd.R_reads' HO247.out).2.2 | (with_reducible refine Kd.C_alloc ?_ _) | (with_reducible refine Kd.C_drewN ?_ _) | (with_reducible refine Kd.C_drew ?_))); (case side4 => exact (Kd.R_reads' HO247.out).2.1); (case side5 => repeat (first | exact (Kd.R_reads' HO250.out).2.2 | (with_reducible refine Kd.C_alloc ?_ _) | (with_reducible refine Kd.C_drewN ?_ _) | (with_reducible refine Kd.C_drew ?_))); (case side6 => exact (Kd.R_reads' HO250.out).2.1); rintro e w26 ⟨v252, rfl, ho0, hb⟩; refine ⟨_, rfl, ?_⟩; have HO253 := Aside0.mk (Kd.R_lower (Kd.R_new' (Kd.R_new' ho0 (Kd.R_lt (by (with_reducible repeat (first | apply Kd.R_alloc | apply Kd.R_drewN | apply Kd.R_drew)); exact HO242.out))) (Kd.R_lt (by (with_reducible repeat (first | apply Kd.R_alloc | apply Kd.R_drewN | apply Kd.R_drew)); exact HO250.out))) (below_size bel)); replace HO242 := Aside0.mk (Kd.R_elder' (by (with_reducible repeat (first | apply Kd.R_alloc | apply Kd.R_drewN | apply Kd.R_drew)); exact HO242.out) (Kd.R_base ho0) hb); replace HO247 := Aside0.mk (Kd.R_elder' (by (with_reducible repeat (first | apply Kd.R_alloc | apply Kd.R_drewN | apply Kd.R_drew)); exact HO247.out) (Kd.R_base ho0) hb); replace HO250 := Aside0.mk (Kd.R_elder' (by (with_reducible repeat (first | apply Kd.R_alloc | apply Kd.R_drewN | apply Kd.R_drew)); exact HO250.out) (Kd.R_base ho0) hb); replace BK238 := Aside0.mk (blb BK238 hb); replace HB := Aside0.mk (below_step bel hb); (try clear hb); (try clear hb2); (try clear hk); (try clear hi); (try clear ho0); obtain ⟨hcz27_0, hcz27_1, hcz27_2, hcz27_3, -⟩ := cells_4 BK238.out trivial; obtain ⟨hfz27_0, hfz27_1, hfz27_2, hfz27_3, -⟩ := frz_4 BK238.out) | ((with_reducible refine gate_callee (f := 17) rfl ?_); refine gl_ (some 34) Try.func17 #[.agg #[.slice A0_0 l0_0.length c0_0, .bool a0_1, .int .i64 a0_2, .slice A0_3 l0_3.length c0_3]] (h := ?_); (with_reducible refine (laws_toTree.calls k _ _ l0_0 a0_1 a0_2 _ _ l0_3 t255 t258 t259 t260 _ ?side1 ?side2 ?side3 ?side4 A13.out).mono ?_); (case side1 => exact kcb); (case side2 => exact HC0_0.out); (case side3 => exact kcb); (case side4 => exact HC0_3.out); rintro e w28 ⟨v256, v261, rfl, ho0, ho1, hb⟩; refine ⟨_, rfl, ?_⟩; have HO257 := Aside0.mk (Kd.R_lower (Kd.R_new' (Kd.R_new' (Kd.R_new' ho0 (Kd.R_lt (by (with_reducible repeat (first | apply Kd.R_alloc | apply Kd.R_drewN | apply Kd.R_drew)); exact HO242.out))) (Kd.R_lt (by (with_reducible repeat (first | apply Kd.R_alloc | apply Kd.R_drewN | apply Kd.R_drew)); exact HO250.out))) (Kd.R_lt (by (with_reducible repeat (first | apply Kd.R_alloc | apply Kd.R_drewN | apply Kd.R_drew)); exact HO253.out))) (below_size bel)); have HO262 := Aside0.mk (Kd.R_lower (Kd.R_new' (Kd.R_new' (Kd.R_new' (Kd.R_new' ho1 (Kd.R_lt (by (with_reducible repeat (first | apply Kd.R_alloc | apply Kd.R_drewN | apply Kd.R_drew)); exact HO242.out))) (Kd.R_lt (by (with_reducible repeat (first | apply Kd.R_alloc | apply Kd.R_drewN | apply Kd.R_drew)); exact HO247.out))) (Kd.R_lt (by (with_reducible repeat (first | apply Kd.R_alloc | apply Kd.R_drewN | apply Kd.R_drew)); exact HO250.out))) (Kd.R_lt (by (with_reducible repeat (first | apply Kd.R_alloc | apply Kd.R_drewN | apply Kd.R_drew)); exact HO253.out))) (below_size bel)); replace HO242 := Aside0.mk (Kd.R_elder' (by (with_reducible repeat (first | apply Kd.R_alloc | apply Kd.R_drewN | apply Kd.R_drew)); exact HO242.out) (Kd.R_base ho0) hb); replace HO247 := Aside0.mk (Kd.R_mono (Kd.R_told (Kd.R_told (Kd.R_old (by (with_reducible repeat (first | apply Kd.R_alloc | apply Kd.R_drewN | apply Kd.R_drew)); exact HO247.out) hb) (Kd.R_base ho0)) (Kd.R_base ho1)) (fun _ h_ => h_.1)); replace HO250 := Aside0.mk (Kd.R_elder' (by (with_reducible repeat (first | apply Kd.R_alloc | apply Kd.R_drewN | apply Kd.R_drew)); exact HO250.out) (Kd.R_base ho0) hb); replace HO253 := Aside0.mk (Kd.R_elder' (by (with_reducible repeat (first | apply Kd.R_alloc | apply Kd.R_drewN | apply Kd.R_drew)); exact HO253.out) (Kd.R_base ho0) hb); replace BK238 := Aside0.mk (blb BK238 hb); replace HB := Aside0.mk (below_step bel hb); (try clear hb); (try clear hb2); (try clear hk); (try clear hi); (try clear ho0); (try clear ho1)) | ((with_reducible refine gate_dst (N := 8) rfl ?_); refine bx_ 8 #[.slice none 0 0, .bool false, .int .i64 0, .slice none 0 0] 30 (h := ?_); intro gb263 hg w29 hbox hb; have BK263 := Aside0.mk (hbox); have GW263 := Aside0.mk ((by rw [hg]; exact (below_size bel) : w.heap.size ≤ gb263)); have GE263 := Aside0.mk ((by rw [hg]; exact (below_size bel) : w.heap.size ≤ gb263)); have NB238_263 := Aside0.mk ((by rw [hg]; exact Nat.ne_of_lt (blt BK238) : gb238 ≠ gb263)); have NB263_238 := Aside0.mk ((by rw [hg]; exact Nat.ne_of_gt (blt BK238) : gb263 ≠ gb238)); replace HO242 := Aside0.mk (rbl HO242 hb); replace HO247 := Aside0.mk (Kd.R_below (Kd.R_elderB (by (with_reducible repeat (first | apply Kd.R_alloc | apply Kd.R_drewN | apply Kd.R_drew)); exact HO247.out) gb263 (Nat.le_of_eq hg.symm)) hb); replace HO250 := Aside0.mk (rbl HO250 hb); replace HO253 := Aside0.mk (rbl HO253 hb); replace HO257 := Aside0.mk (rbl HO257 hb); replace HO262 := Aside0.mk (Kd.R_below (Kd.R_elderB (by (with_reducible repeat (first | apply Kd.R_alloc | apply Kd.R_drewN | apply Kd.R_drew)); exact HO262.out) gb263 (Nat.le_of_eq hg.symm)) hb); replace BK238 := Aside0.mk (blb BK238 hb); replace HB := Aside0.mk (below_step bel hb); clear hb hbox hg; obtain ⟨Ao30, co30, eo30⟩ := Kd.R_slice HO257.out; subst eo30; have hnb31 := NB263_238.out; have hnc31 := NB238_263.out; obtain ⟨hcz32_0, hcz32_1, hcz32_2, hcz32_3, -⟩ := cells_4 BK263.out trivial; obtain ⟨hfz32_0, hfz32_1, hfz32_2, hfz32_3, -⟩ := frz_4 BK263.out; obtain ⟨Ao33, co33, eo33⟩ := Kd.R_slice HO262.out; subst eo33) | ((with_reducible refine gate_callee (f := 23) rfl ?_); refine gl_ (some 36) Try.func23 #[.slice A1 l1.length c1] (h := ?_); (with_reducible refine (laws_toByteS.calls k _ _ l1 t264 _ ?side1 ?side2 A14.out).mono ?_); (case side1 => exact Kd.C_below HR1.out bel); (case side2 => exact HC1.out); rintro e w34 ⟨v265, rfl, ho0, hb⟩; refine ⟨_, rfl, ?_⟩; have HO266 := Aside0.mk (Kd.R_lower (Kd.R_new' (Kd.R_new' (Kd.R_new' (Kd.R_new' ho0 (Kd.R_lt (by (with_reducible repeat (first | apply Kd.R_alloc | apply Kd.R_drewN | apply Kd.R_drew)); exact (Kd.R_mono (Kd.R_far (p := ⟨gb263, 3, none⟩) (Kd.R_far (p := ⟨gb263, 2, none⟩) (Kd.R_far (p := ⟨gb263, 1, none⟩) (Kd.R_far (p := ⟨gb263, 0, none⟩) (Kd.R_types HO242.out BK263.out (by decide)) (fun _ hk => hk.2) (.slice Ao30 t255.length co30)) (fun _ hk => hk.2) (.bool t258)) (fun _ hk => hk.2) (.int .i64 t259)) (fun _ hk => hk.2) (.slice Ao33 t260.length co33)) (fun _ h_ => h_.1))))) (Kd.R_lt (by (with_reducible repeat (first | apply Kd.R_alloc | apply Kd.R_drewN | apply Kd.R_drew)); exact (Kd.R_mono (Kd.R_far (p := ⟨gb263, 3, none⟩) (Kd.R_far (p := ⟨gb263, 2, none⟩) (Kd.R_far (p := ⟨gb263, 1, none⟩) (Kd.R_far (p := ⟨gb263, 0, none⟩) (Kd.R_types HO250.out BK263.out (by decide)) (fun _ hk => hk.2) (.slice Ao30 t255.length co30)) (fun _ hk => hk.2) (.bool t258)) (fun _ hk => hk.2) (.int .i64 t259)) (fun _ hk => hk.2) (.slice Ao33 t260.length co33)) (fun _ h_ => h_.1))))) (Kd.R_lt (by (with_reducible repeat (first | apply Kd.R_alloc | apply Kd.R_drewN | apply Kd.R_drew)); exact (Kd.R_mono (Kd.R_far (p := ⟨gb263, 3, none⟩) (Kd.R_far (p := ⟨gb263, 2, none⟩) (Kd.R_far (p := ⟨gb263, 1, none⟩) (Kd.R_far (p := ⟨gb263, 0, none⟩) (Kd.R_types HO253.out BK263.out (by decide)) (fun _ hk => hk.2) (.slice Ao30 t255.length co30)) (fun _ hk => hk.2) (.bool t258)) (fun _ hk => hk.2) (.int .i64 t259)) (fun _ hk => hk.2) (.slice Ao33 t260.length co33)) (fun _ h_ => h_.1))))) (Kd.R_lt (by (with_reducible repeat (first | apply Kd.R_alloc | apply Kd.R_drewN | apply Kd.R_drew)); exact (Kd.R_mono (Kd.R_far (p := ⟨gb263, 3, none⟩) (Kd.R_far (p := ⟨gb263, 2, none⟩) (Kd.R_far (p := ⟨gb263, 1, none⟩) (Kd.R_far (p := ⟨gb263, 0, none⟩) (Kd.R_types HO257.out BK263.out (by decide)) (fun _ hk => hk.2) (.slice Ao30 t255.length co30)) (fun _ hk => hk.2) (.bool t258)) (fun _ hk => hk.2) (.int .i64 t259)) (fun _ hk => hk.2) (.slice Ao33 t260.length co33)) (fun _ h_ => h_.1))))) (below_size bel)); replace HO242 := Aside0.mk (Kd.R_elder' (by (with_reducible repeat (first | apply Kd.R_alloc | apply Kd.R_drewN | apply Kd.R_drew)); exact (Kd.R_mono (Kd.R_far (p := ⟨gb263, 3, none⟩) (Kd.R_far (p := ⟨gb263, 2, none⟩) (Kd.R_far (p := ⟨gb263, 1, none⟩) (Kd.R_far (p := ⟨gb263, 0, none⟩) (Kd.R_types HO242.out BK263.out (by decide)) (fun _ hk => hk.2) (.slice Ao30 t255.length co30)) (fun _ hk => hk.2) (.bool t258)) (fun _ hk => hk.2) (.int .i64 t259)) (fun _ hk => hk.2) (.slice Ao33 t260.length co33)) (fun _ h_ => h_.1))) (Kd.R_base ho0) hb); replace HO247 := Aside0.mk (Kd.R_elder' (by (with_reducible repeat (first | apply Kd.R_alloc | apply Kd.R_drewN | apply Kd.R_drew)); exact (Kd.R_mono (Kd.R_far (p := ⟨gb263, 3, none⟩) (Kd.R_far (p := ⟨gb263, 2, none⟩) (Kd.R_far (p := ⟨gb263, 1, none⟩) (Kd.R_far (p := ⟨gb263, 0, none⟩) (Kd.R_mono HO247.out (fun k_ hk => (⟨hk, hk.2⟩ : _ ∧ k_ ≠ gb263))) (fun _ hk => hk.2) (.slice Ao30 t255.length co30)) (fun _ hk => hk.2) (.bool t258)) (fun _ hk => hk.2) (.int .i64 t259)) (fun _ hk => hk.2) (.slice Ao33 t260.length co33)) (fun _ h_ => h_.1))) (Kd.R_base ho0) hb); replace HO250 := Aside0.mk (Kd.R_elder' (by (with_reducible repeat (first | apply Kd.R_alloc | apply Kd.R_drewN | apply Kd.R_drew)); exact (Kd.R_mono (Kd.R_far (p := ⟨gb263, 3, none⟩) (Kd.R_far (p := ⟨gb263, 2, none⟩) (Kd.R_far (p := ⟨gb263, 1, none⟩) (Kd.R_far (p := ⟨gb263, 0, none⟩) (Kd.R_types HO250.out BK263.out (by decide)) (fun _ hk => hk.2) (.slice Ao30 t255.length co30)) (fun _ hk => hk.2) (.bool t258)) (fun _ hk => hk.2) (.int .i64 t259)) (fun _ hk => hk.2) (.slice Ao33 t260.length co33)) (fun _ h_ => h_.1))) (Kd.R_base ho0) hb); replace HO253 := Aside0.mk (Kd.R_elder' (by (with_reducible repeat (first | apply Kd.R_alloc | apply Kd.R_drewN | apply Kd.R_drew)); exact (Kd.R_mono (Kd.R_far (p := ⟨gb263, 3, none⟩) (Kd.R_far (p := ⟨gb263, 2, none⟩) (Kd.R_far (p := ⟨gb263, 1, none⟩) (Kd.R_far (p := ⟨gb263, 0, none⟩) (Kd.R_types HO253.out BK263.out (by decide)) (fun _ hk => hk.2) (.slice Ao30 t255.length co30)) (fun _ hk => hk.2) (.bool t258)) (fun _ hk => hk.2) (.int .i64 t259)) (fun _ hk => hk.2) (.slice Ao33 t260.length co33)) (fun _ h_ => h_.1))) (Kd.R_base ho0) hb); replace HO257 := Aside0.mk (Kd.R_elder' (by (with_reducible repeat (first | apply Kd.R_alloc | apply Kd.R_drewN | apply Kd.R_drew)); exact (Kd.R_mono (Kd.R_far (p := ⟨gb263, 3, none⟩) (Kd.R_far (p := ⟨gb263, 2, none⟩) (Kd.R_far (p := ⟨gb263, 1, none⟩) (Kd.R_far (p := ⟨gb263, 0, none⟩) (Kd.R_types HO257.out BK263.out (by decide)) (fun _ hk => hk.2) (.slice Ao30 t255.length co30)) (fun _ hk => hk.2) (.bool t258)) (fun _ hk => hk.2) (.int .i64 t259)) (fun _ hk => hk.2) (.slice Ao33 t260.length co33)) (fun _ h_ => h_.1))) (Kd.R_base ho0) hb); replace HO262 := Aside0.mk (Kd.R_elder' (by (with_reducible repeat (first | apply Kd.R_alloc | apply Kd.R_drewN | apply Kd.R_drew)); exact (Kd.R_mono (Kd.R_far (p := ⟨gb263, 3, none⟩) (Kd.R_far (p := ⟨gb263, 2, none⟩) (Kd.R_far (p := ⟨gb263, 1, none⟩) (Kd.R_far (p := ⟨gb263, 0, none⟩) (Kd.R_mono HO262.out (fun k_ hk => (⟨hk, hk.2⟩ : _ ∧ k_ ≠ gb263))) (fun _ hk => hk.2) (.slice Ao30 t255.length co30)) (fun _ hk => hk.2) (.bool t258)) (fun _ hk => hk.2) (.int .i64 t259)) (fun _ hk => hk.2) (.slice Ao33 t260.length co33)) (fun _ h_ => h_.1))) (Kd.R_base ho0) hb); replace BK238 := Aside0.mk (blk_below (g := gb238) (o := .cells #[.slice A0_0 l0_0.length c0_0, .bool a0_1, .int .i64 a0_2, .slice A0_3 l0_3.length c0_3] 25 (0, 0)) (by (with_reducible repeat (first | refine blk_drewN ?_ _ | refine blk_drew ?_ | refine blk_alloc ?_ _)); refine blk_far ?_ NB238_263.out _; (with_reducible repeat (first | refine blk_drewN ?_ _ | refine blk_drew ?_ | refine blk_alloc ?_ _)); refine blk_far ?_ NB238_263.out _; (with_reducible repeat (first | refine blk_drewN ?_ _ | refine blk_drew ?_ | refine blk_alloc ?_ _)); refine blk_far ?_ NB238_263.out _; (with_reducible repeat (first | refine blk_drewN ?_ _ | refine blk_drew ?_ | refine blk_alloc ?_ _)); refine blk_far ?_ NB238_263.out _; (with_reducible repeat (first | refine blk_drewN ?_ _ | refine blk_drew ?_ | refine blk_alloc ?_ _)); exact BK238.out) hb); replace BK263 := Aside0.mk (blk_below (g := gb263) (o := .cells #[.slice Ao30 t255.length co30, .bool t258, .int .i64 t259, .slice Ao33 t260.length co33] 30 (0, 0)) (by (with_reducible repeat (first | refine blk_drewN ?_ _ | refine blk_drew ?_ | refine blk_alloc ?_ _)); refine blk_put (cs := #[.slice Ao30 t255.length co30, .bool t258, .int .i64 t259, .slice none 0 0]) ?_ 3 _ rfl; (with_reducible repeat (first | refine blk_drewN ?_ _ | refine blk_drew ?_ | refine blk_alloc ?_ _)); refine blk_put (cs := #[.slice Ao30 t255.length co30, .bool t258, .int .i64 0, .slice none 0 0]) ?_ 2 _ rfl; (with_reducible repeat (first | refine blk_drewN ?_ _ | refine blk_drew ?_ | refine blk_alloc ?_ _)); refine blk_put (cs := #[.slice Ao30 t255.length co30, .bool false, .int .i64 0, .slice none 0 0]) ?_ 1 _ rfl; (with_reducible repeat (first | refine blk_drewN ?_ _ | refine blk_drew ?_ | refine blk_alloc ?_ _)); refine blk_put (cs := #[.slice none 0 0, .bool false, .int .i64 0, .slice none 0 0]) ?_ 0 _ rfl; (with_reducible repeat (first | refine blk_drewN ?_ _ | refine blk_drew ?_ | refine blk_alloc ?_ _)); exact BK263.out) hb); replace HB := Aside0.mk (below_step bel hb); (try clear hb); (try clear hb2); (try clear hk); (try clear hi); (try clear ho0); obtain ⟨hcz35_0, hcz35_1, hcz35_2, hcz35_3, -⟩ := cells_4 BK263.out trivial; obtain ⟨hfz35_0, hfz35_1, hfz35_2, hfz35_3, -⟩ := frz_4 BK263.out; obtain ⟨Ao36, co36, eo36⟩ := Kd.R_slice HO266.out; subst eo36) | ((with_reducible refine gate_callee (f := 29) rfl ?_); refine gl_ (some 40) Try.func29 #[.agg #[.slice Ao30 t255.length co30, .bool t258, .int .i64 t259, .slice Ao33 t260.length co33], .slice Ao36 t264.length co36] (h := ?_); (with_reducible refine (impl_TreeNext.calls k _ _ t255 t258 t259 _ _ t260 _ _ t264 t267 t270 _ ?side1 ?side2 ?side3 ?side4 ?side5 ?side6 A15.out).mono ?_); (case side1 => repeat (first | exact (Kd.R_reads' HO257.out).2.2 | (with_reducible refine Kd.C_alloc ?_ _) | (with_reducible refine Kd.C_drewN ?_ _) | (with_reducible refine Kd.C_drew ?_))); (case side2 => exact (Kd.R_reads' HO257.out).2.1); (case side3 => repeat (first | exact (Kd.R_reads' HO262.out).2.2 | (with_reducible refine Kd.C_alloc ?_ _) | (with_reducible refine Kd.C_drewN ?_ _) | (with_reducible refine Kd.C_drew ?_))); (case side4 => exact (Kd.R_reads' HO262.out).2.1); (case side5 => repeat (first | exact (Kd.R_reads' HO266.out).2.2 | (with_reducible refine Kd.C_alloc ?_ _) | (with_reducible refine Kd.C_drewN ?_ _) | (with_reducible refine Kd.C_drew ?_))); (case side6 => exact (Kd.R_reads' HO266.out).2.1); rintro e w37 ⟨v268, rfl, ho0, hb⟩; refine ⟨_, rfl, ?_⟩; have HO269 := Aside0.mk (Kd.R_lower (Kd.R_new' (Kd.R_new' (Kd.R_new' (Kd.R_new' (Kd.R_new' ho0 (Kd.R_lt (by (with_reducible repeat (first | apply Kd.R_alloc | apply Kd.R_drewN | apply Kd.R_drew)); exact HO242.out))) (Kd.R_lt (by (with_reducible repeat (first | apply Kd.R_alloc | apply Kd.R_drewN | apply Kd.R_drew)); exact HO250.out))) (Kd.R_lt (by (with_reducible repeat (first | apply Kd.R_alloc | apply Kd.R_drewN | apply Kd.R_drew)); exact HO253.out))) (Kd.R_lt (by (with_reducible repeat (first | apply Kd.R_alloc | apply Kd.R_drewN | apply Kd.R_drew)); exact HO257.out))) (Kd.R_lt (by (with_reducible repeat (first | apply Kd.R_alloc | apply Kd.R_drewN | apply Kd.R_drew)); exact HO266.out))) (below_size bel)); replace HO242 := Aside0.mk (Kd.R_elder' (by (with_reducible repeat (first | apply Kd.R_alloc | apply Kd.R_drewN | apply Kd.R_drew)); exact HO242.out) (Kd.R_base ho0) hb); replace HO247 := Aside0.mk (Kd.R_elder' (by (with_reducible repeat (first | apply Kd.R_alloc | apply Kd.R_drewN | apply Kd.R_drew)); exact HO247.out) (Kd.R_base ho0) hb); replace HO250 := Aside0.mk (Kd.R_elder' (by (with_reducible repeat (first | apply Kd.R_alloc | apply Kd.R_drewN | apply Kd.R_drew)); exact HO250.out) (Kd.R_base ho0) hb); replace HO253 := Aside0.mk (Kd.R_elder' (by (with_reducible repeat (first | apply Kd.R_alloc | apply Kd.R_drewN | apply Kd.R_drew)); exact HO253.out) (Kd.R_base ho0) hb); replace HO257 := Aside0.mk (Kd.R_elder' (by (with_reducible repeat (first | apply Kd.R_alloc | apply Kd.R_drewN | apply Kd.R_drew)); exact HO257.out) (Kd.R_base ho0) hb); replace HO262 := Aside0.mk (Kd.R_elder' (by (with_reducible repeat (first | apply Kd.R_alloc | apply Kd.R_drewN | apply Kd.R_drew)); exact HO262.out) (Kd.R_base ho0) hb); replace HO266 := Aside0.mk (Kd.R_elder' (by (with_reducible repeat (first | apply Kd.R_alloc | apply Kd.R_drewN | apply Kd.R_drew)); exact HO266.out) (Kd.R_base ho0) hb); replace BK238 := Aside0.mk (blb BK238 hb); replace BK263 := Aside0.mk (blb BK263 hb); replace HB := Aside0.mk (below_step bel hb); (try clear hb); (try clear hb2); (try clear hk); (try clear hi); (try clear ho0)))
   (try simp only [Act.put, List.setIfInBounds_toArray, List.set_cons_zero, List.set_cons_succ])
   go_cut [51] (fun v51 wc => ∃ (kq : Nat) (x51_15 : Bool), v51 = .bool x51_15 ∧ Aside0 (laws_FnExactTreeNext.j0 kq l1 t251 t254 t264 t267 t270 x51_15 l0_0 a0_1 a0_2 l0_3 t255 t258 t259 t260 = some r) ∧ Aside0 (kq ≤ k) ∧ Aside0 (Kd.R (Kd.int .u8) 5 wc w.heap.size (fun k_ => some k_ ≠ ((.slice Ao36 t264.length co36) : Value).ownBlock ∧ some k_ ≠ (v268 : Value).ownBlock ∧ some k_ ≠ ((.slice Ao30 t255.length co30) : Value).ownBlock) v252 t251) ∧ Aside0 (Kd.R (Kd.int .u8) 5 wc w.heap.size (fun k_ => some k_ ≠ (v252 : Value).ownBlock ∧ some k_ ≠ (v268 : Value).ownBlock ∧ some k_ ≠ ((.slice Ao30 t255.length co30) : Value).ownBlock) (.slice Ao36 t264.length co36) t264) ∧ Aside0 (Kd.R (Kd.int .u8) 5 wc w.heap.size (fun k_ => some k_ ≠ (v252 : Value).ownBlock ∧ some k_ ≠ ((.slice Ao36 t264.length co36) : Value).ownBlock ∧ some k_ ≠ ((.slice Ao30 t255.length co30) : Value).ownBlock) v268 t267) ∧ Aside0 (Kd.R (Kd.int .u8) 5 wc w.heap.size (fun k_ => some k_ ≠ (v252 : Value).ownBlock ∧ some k_ ≠ ((.slice Ao36 t264.length co36) : Value).ownBlock ∧ some k_ ≠ (v268 : Value).ownBlock) (.slice Ao30 t255.length co30) t255) ∧ Aside0 (Kd.R k30 30 wc w.heap.size (fun k_ => some k_ ≠ (v252 : Value).ownBlock ∧ some k_ ≠ ((.slice Ao36 t264.length co36) : Value).ownBlock ∧ some k_ ≠ (v268 : Value).ownBlock ∧ some k_ ≠ ((.slice Ao30 t255.length co30) : Value).ownBlock ∧ k_ ≠ gb263) (.slice Ao33 t260.length co33) t260) ∧ Aside0 (wc.heap[gb238]? = some (.cells #[(.slice A0_0 l0_0.length c0_0), .bool a0_1, .int .i64 a0_2, (.slice A0_3 l0_3.length c0_3)] 25 (0, 0))) ∧ Aside0 (wc.heap[gb263]? = some (.cells #[(.slice Ao30 t255.length co30), .bool t258, .int .i64 t259, (.slice Ao33 t260.length co33)] 30 (0, 0))) ∧ Aside0 (Below w.heap.size w wc))
   case first =>
    have H := HC16.out
    clear HC16
    replace H := Option.bind_eq_some_iff.mp H
    obtain ⟨t271, A380, H⟩ := H
    replace H : (if t271 = true then (laws_FnExactTreeNext.j0 k l1 t251 t254 t264 t267 t270 (t270 != t254) l0_0 a0_1 a0_2 l0_3 t255 t258 t259 t260) else (laws_FnExactTreeNext.j0 k l1 t251 t254 t264 t267 t270 true l0_0 a0_1 a0_2 l0_3 t255 t258 t259 t260)) = some r := H
    have A38 := Aside0.mk A380
    clear A380
    by_cases c39 : t271 = true
    ·subst c39
     have H1 : (laws_FnExactTreeNext.j0 k l1 t251 t254 t264 t267 t270 (t270 != t254) l0_0 a0_1 a0_2 l0_3 t255 t258 t259 t260) = some r := by rw [if_pos rfl] at H; exact H
     clear H
     have H := H1
     clear H1
     have H' := Aside0.mk H
     clear H
     obtain ⟨Ao40, co40, eo40⟩ := Kd.R_slice HO269.out
     subst eo40
     obtain ⟨Ao41, co41, eo41⟩ := Kd.R_slice HO253.out
     subst eo41
     go_wp2_with (first | ((with_reducible refine gate_callee (f := 25) rfl ?_); refine gl_ (some 45) Try.func25 #[.slice Ao40 t267.length co40, .slice Ao41 t251.length co41] (h := ?_); (with_reducible refine (laws_eqByteS.calls k _ _ t267 _ _ t251 true _ ?side1 ?side2 ?side3 ?side4 A38.out).mono ?_); (case side1 => repeat (first | exact (Kd.R_reads' HO269.out).2.2 | (with_reducible refine Kd.C_alloc ?_ _) | (with_reducible refine Kd.C_drewN ?_ _) | (with_reducible refine Kd.C_drew ?_))); (case side2 => exact (Kd.R_reads' HO269.out).2.1); (case side3 => repeat (first | exact (Kd.R_reads' HO253.out).2.2 | (with_reducible refine Kd.C_alloc ?_ _) | (with_reducible refine Kd.C_drewN ?_ _) | (with_reducible refine Kd.C_drew ?_))); (case side4 => exact (Kd.R_reads' HO253.out).2.1); rintro e w' ⟨rfl, ⟨nd, rfl⟩⟩; refine ⟨_, rfl, ?_⟩))
     go_meet
     case rel => exact ⟨_, ((t270 != t254)), (by first | rfl | (simp; done) | (simp [*]; done)), H', ⟨by first | omega | exact Nat.le_refl _⟩, ⟨by (with_reducible repeat (first | apply Kd.R_alloc | apply Kd.R_drewN | apply Kd.R_drew)); exact Kd.R_mono HO253.out (fun _ hk => ⟨hk.1.2, ⟨hk.2, hk.1.1.2⟩⟩)⟩, ⟨by (with_reducible repeat (first | apply Kd.R_alloc | apply Kd.R_drewN | apply Kd.R_drew)); exact Kd.R_mono HO266.out (fun _ hk => ⟨hk.1.1.2, ⟨hk.2, hk.1.2⟩⟩)⟩, ⟨by (with_reducible repeat (first | apply Kd.R_alloc | apply Kd.R_drewN | apply Kd.R_drew)); exact Kd.R_mono HO269.out (fun _ hk => ⟨hk.1.1.2, ⟨hk.2, hk.1.2⟩⟩)⟩, ⟨by (with_reducible repeat (first | apply Kd.R_alloc | apply Kd.R_drewN | apply Kd.R_drew)); exact Kd.R_mono HO257.out (fun _ hk => ⟨hk.1.1.2, ⟨hk.1.2, hk.2⟩⟩)⟩, ⟨by (with_reducible repeat (first | apply Kd.R_alloc | apply Kd.R_drewN | apply Kd.R_drew)); exact Kd.R_mono HO262.out (fun _ hk => ⟨hk.1.1.1.2, ⟨hk.1.2, ⟨hk.2, ⟨hk.1.1.1.1.1.1.1, hk.1.1.2⟩⟩⟩⟩)⟩, ⟨by (with_reducible repeat (first | refine blk_drewN ?_ _ | refine blk_drew ?_ | refine blk_alloc ?_ _)); exact BK238.out⟩, ⟨by (with_reducible repeat (first | refine blk_drewN ?_ _ | refine blk_drew ?_ | refine blk_alloc ?_ _)); exact BK263.out⟩, ⟨by repeat (first | (with_reducible first | exact HB.out | apply below_alloc | apply pw_below_drewN | apply below_drew1 | refine below_set ?_ GE238.out | refine below_set ?_ GE263.out) | exact HB.out)⟩⟩
    ·replace c39 := Bool.eq_false_iff.mpr c39
     subst c39
     have H1 : (laws_FnExactTreeNext.j0 k l1 t251 t254 t264 t267 t270 true l0_0 a0_1 a0_2 l0_3 t255 t258 t259 t260) = some r := by rw [if_neg (show ¬ (false = true) by decide)] at H; exact H
     clear H
     have H := H1
     clear H1
     have H' := Aside0.mk H
     clear H
     obtain ⟨Ao42, co42, eo42⟩ := Kd.R_slice HO269.out
     subst eo42
     obtain ⟨Ao43, co43, eo43⟩ := Kd.R_slice HO253.out
     subst eo43
     go_wp2_with (first | ((with_reducible refine gate_callee (f := 25) rfl ?_); refine gl_ (some 45) Try.func25 #[.slice Ao42 t267.length co42, .slice Ao43 t251.length co43] (h := ?_); (with_reducible refine (laws_eqByteS.calls k _ _ t267 _ _ t251 false _ ?side1 ?side2 ?side3 ?side4 A38.out).mono ?_); (case side1 => repeat (first | exact (Kd.R_reads' HO269.out).2.2 | (with_reducible refine Kd.C_alloc ?_ _) | (with_reducible refine Kd.C_drewN ?_ _) | (with_reducible refine Kd.C_drew ?_))); (case side2 => exact (Kd.R_reads' HO269.out).2.1); (case side3 => repeat (first | exact (Kd.R_reads' HO253.out).2.2 | (with_reducible refine Kd.C_alloc ?_ _) | (with_reducible refine Kd.C_drewN ?_ _) | (with_reducible refine Kd.C_drew ?_))); (case side4 => exact (Kd.R_reads' HO253.out).2.1); rintro e w' ⟨rfl, ⟨nd, rfl⟩⟩; refine ⟨_, rfl, ?_⟩))
     go_meet
     case rel => exact ⟨_, (true), (by first | rfl | (simp; done) | (simp [*]; done)), H', ⟨by first | omega | exact Nat.le_refl _⟩, ⟨by (with_reducible repeat (first | apply Kd.R_alloc | apply Kd.R_drewN | apply Kd.R_drew)); exact Kd.R_mono HO253.out (fun _ hk => ⟨hk.1.2, ⟨hk.2, hk.1.1.2⟩⟩)⟩, ⟨by (with_reducible repeat (first | apply Kd.R_alloc | apply Kd.R_drewN | apply Kd.R_drew)); exact Kd.R_mono HO266.out (fun _ hk => ⟨hk.1.1.2, ⟨hk.2, hk.1.2⟩⟩)⟩, ⟨by (with_reducible repeat (first | apply Kd.R_alloc | apply Kd.R_drewN | apply Kd.R_drew)); exact Kd.R_mono HO269.out (fun _ hk => ⟨hk.1.1.2, ⟨hk.2, hk.1.2⟩⟩)⟩, ⟨by (with_reducible repeat (first | apply Kd.R_alloc | apply Kd.R_drewN | apply Kd.R_drew)); exact Kd.R_mono HO257.out (fun _ hk => ⟨hk.1.1.2, ⟨hk.1.2, hk.2⟩⟩)⟩, ⟨by (with_reducible repeat (first | apply Kd.R_alloc | apply Kd.R_drewN | apply Kd.R_drew)); exact Kd.R_mono HO262.out (fun _ hk => ⟨hk.1.1.1.2, ⟨hk.1.2, ⟨hk.2, ⟨hk.1.1.1.1.1.1.1, hk.1.1.2⟩⟩⟩⟩)⟩, ⟨by (with_reducible repeat (first | refine blk_drewN ?_ _ | refine blk_drew ?_ | refine blk_alloc ?_ _)); exact BK238.out⟩, ⟨by (with_reducible repeat (first | refine blk_drewN ?_ _ | refine blk_drew ?_ | refine blk_alloc ?_ _)); exact BK263.out⟩, ⟨by repeat (first | (with_reducible first | exact HB.out | apply below_alloc | apply pw_below_drewN | apply below_drew1 | refine below_set ?_ GE238.out | refine below_set ?_ GE263.out) | exact HB.out)⟩⟩
   case rest =>
    clear HC16
    try clear c1; try clear c2; try clear p2; try clear c3; try clear c3b0; try clear c3b1; try clear c6; try clear c6b0; try clear c7; try clear c15; try clear c17; try clear c23; try clear c25; try clear c29; try clear c31; try clear c32; try clear c39; try clear hcz18_0; try clear hcz18_1; try clear hcz18_2; try clear hcz18_3; try clear hcz20_0; try clear hcz20_1; try clear hcz20_2; try clear hcz20_3; try clear hcz27_0; try clear hcz27_1; try clear hcz27_2; try clear hcz27_3; try clear hcz32_0; try clear hcz32_1; try clear hcz32_2; try clear hcz32_3; try clear hcz35_0; try clear hcz35_1; try clear hcz35_2; try clear hcz35_3; try clear hcz8_0; try clear hcz8_1; try clear hcz8_2; try clear hcz8_3; try clear hfz18_0; try clear hfz18_1; try clear hfz18_2; try clear hfz18_3; try clear hfz20_0; try clear hfz20_1; try clear hfz20_2; try clear hfz20_3; try clear hfz27_0; try clear hfz27_1; try clear hfz27_2; try clear hfz27_3; try clear hfz32_0; try clear hfz32_1; try clear hfz32_2; try clear hfz32_3; try clear hfz35_0; try clear hfz35_1; try clear hfz35_2; try clear hfz35_3; try clear hfz8_0; try clear hfz8_1; try clear hfz8_2; try clear hfz8_3
    obtain ⟨kq, x51_15, rfl, HA, HJ15, HO_6, HO_9, HO_10, HO_264000, HO_264003, BK238, BK263, HB⟩ := hcut
    cases kq with
    | zero => exact absurd HA.out (by simp [laws_FnExactTreeNext.j0])
    | succ kj15 =>
     have H := HA.out
     clear HA
     simp only [laws_FnExactTreeNext.j0] at H
     by_cases c44 : x51_15 = true
     ·subst c44
      have H1 : (some false) = some r := by rw [if_pos rfl] at H; exact H
      clear H
      have H := H1
      clear H1
      obtain rfl := Option.some.inj H
      go_wp2
      go_ret
      exact ⟨by first | rfl | (simp [errW_none, errW_some] <;> rfl) | (simp [*, errW_none, errW_some] <;> rfl), by repeat (first | (with_reducible first | exact HB.out | apply below_alloc | apply pw_below_drewN | apply below_drew1 | refine below_set ?_ GE238.out | refine below_set ?_ GE263.out) | exact HB.out)⟩
     ·replace c44 := Bool.eq_false_iff.mpr c44
      subst c44
      have H1 : ((laws_toTree.f kj15 l0_0 a0_1 a0_2 l0_3).bind fun bt272 => ((laws_eqTree.f kj15 t255 t258 t259 t260 bt272.1 bt272.2.1 bt272.2.2.1 bt272.2.2.2).bind fun t280 => (if t280 = true then ((laws_toByteS.f kj15 l1).bind fun t281 => ((laws_eqByteS.f kj15 t264 t281).bind fun t284 => (if t284 = true then ((laws_markTree.f kj15 t255 t258 t259 t260 1).bind fun t285 => ((laws_markByteS.f kj15 t264 t285).bind fun bt286 => (if bt286.1 < 0 then (laws_FnExactTreeNext.j1 kj15 l1 t251 t254 t267 true l0_0 a0_1 a0_2 l0_3) else ((laws_eqByteS.f kj15 t267 t251).bind fun t288 => (if t288 = true then (laws_FnExactTreeNext.j1 kj15 l1 t251 t254 t267 (t270 != t254) l0_0 a0_1 a0_2 l0_3) else (laws_FnExactTreeNext.j1 kj15 l1 t251 t254 t267 true l0_0 a0_1 a0_2 l0_3)))))) else (some false)))) else (some false)))) = some r := by rw [if_neg (show ¬ (false = true) by decide)] at H; exact H
      clear H
      have H := H1
      clear H1
      replace H := Option.bind_eq_some_iff.mp H
      obtain ⟨⟨t272, t275, t276, t277⟩, A450, H⟩ := H
      replace H : ((laws_eqTree.f kj15 t255 t258 t259 t260 t272 t275 t276 t277).bind fun t280 => (if t280 = true then ((laws_toByteS.f kj15 l1).bind fun t281 => ((laws_eqByteS.f kj15 t264 t281).bind fun t284 => (if t284 = true then ((laws_markTree.f kj15 t255 t258 t259 t260 1).bind fun t285 => ((laws_markByteS.f kj15 t264 t285).bind fun bt286 => (if bt286.1 < 0 then (laws_FnExactTreeNext.j1 kj15 l1 t251 t254 t267 true l0_0 a0_1 a0_2 l0_3) else ((laws_eqByteS.f kj15 t267 t251).bind fun t288 => (if t288 = true then (laws_FnExactTreeNext.j1 kj15 l1 t251 t254 t267 (t270 != t254) l0_0 a0_1 a0_2 l0_3) else (laws_FnExactTreeNext.j1 kj15 l1 t251 t254 t267 true l0_0 a0_1 a0_2 l0_3)))))) else (some false)))) else (some false))) = some r := H
      have A45 := Aside0.mk A450
      clear A450
      replace H := Option.bind_eq_some_iff.mp H
      obtain ⟨t280, A460, H⟩ := H
      replace H : (if t280 = true then ((laws_toByteS.f kj15 l1).bind fun t281 => ((laws_eqByteS.f kj15 t264 t281).bind fun t284 => (if t284 = true then ((laws_markTree.f kj15 t255 t258 t259 t260 1).bind fun t285 => ((laws_markByteS.f kj15 t264 t285).bind fun bt286 => (if bt286.1 < 0 then (laws_FnExactTreeNext.j1 kj15 l1 t251 t254 t267 true l0_0 a0_1 a0_2 l0_3) else ((laws_eqByteS.f kj15 t267 t251).bind fun t288 => (if t288 = true then (laws_FnExactTreeNext.j1 kj15 l1 t251 t254 t267 (t270 != t254) l0_0 a0_1 a0_2 l0_3) else (laws_FnExactTreeNext.j1 kj15 l1 t251 t254 t267 true l0_0 a0_1 a0_2 l0_3)))))) else (some false)))) else (some false)) = some r := H
      have A46 := Aside0.mk A460
      clear A460
      by_cases c47 : t280 = true
      ·subst c47
       have H1 : ((laws_toByteS.f kj15 l1).bind fun t281 => ((laws_eqByteS.f kj15 t264 t281).bind fun t284 => (if t284 = true then ((laws_markTree.f kj15 t255 t258 t259 t260 1).bind fun t285 => ((laws_markByteS.f kj15 t264 t285).bind fun bt286 => (if bt286.1 < 0 then (laws_FnExactTreeNext.j1 kj15 l1 t251 t254 t267 true l0_0 a0_1 a0_2 l0_3) else ((laws_eqByteS.f kj15 t267 t251).bind fun t288 => (if t288 = true then (laws_FnExactTreeNext.j1 kj15 l1 t251 t254 t267 (t270 != t254) l0_0 a0_1 a0_2 l0_3) else (laws_FnExactTreeNext.j1 kj15 l1 t251 t254 t267 true l0_0 a0_1 a0_2 l0_3)))))) else (some false)))) = some r := by rw [if_pos rfl] at H; exact H
       clear H
       have H := H1
       clear H1
       replace H := Option.bind_eq_some_iff.mp H
       obtain ⟨t281, A480, H⟩ := H
       replace H : ((laws_eqByteS.f kj15 t264 t281).bind fun t284 => (if t284 = true then ((laws_markTree.f kj15 t255 t258 t259 t260 1).bind fun t285 => ((laws_markByteS.f kj15 t264 t285).bind fun bt286 => (if bt286.1 < 0 then (laws_FnExactTreeNext.j1 kj15 l1 t251 t254 t267 true l0_0 a0_1 a0_2 l0_3) else ((laws_eqByteS.f kj15 t267 t251).bind fun t288 => (if t288 = true then (laws_FnExactTreeNext.j1 kj15 l1 t251 t254 t267 (t270 != t254) l0_0 a0_1 a0_2 l0_3) else (laws_FnExactTreeNext.j1 kj15 l1 t251 t254 t267 true l0_0 a0_1 a0_2 l0_3)))))) else (some false))) = some r := H
       have A48 := Aside0.mk A480
       clear A480
       replace H := Option.bind_eq_some_iff.mp H
       obtain ⟨t284, A490, H⟩ := H
       replace H : (if t284 = true then ((laws_markTree.f kj15 t255 t258 t259 t260 1).bind fun t285 => ((laws_markByteS.f kj15 t264 t285).bind fun bt286 => (if bt286.1 < 0 then (laws_FnExactTreeNext.j1 kj15 l1 t251 t254 t267 true l0_0 a0_1 a0_2 l0_3) else ((laws_eqByteS.f kj15 t267 t251).bind fun t288 => (if t288 = true then (laws_FnExactTreeNext.j1 kj15 l1 t251 t254 t267 (t270 != t254) l0_0 a0_1 a0_2 l0_3) else (laws_FnExactTreeNext.j1 kj15 l1 t251 t254 t267 true l0_0 a0_1 a0_2 l0_3)))))) else (some false)) = some r := H
       have A49 := Aside0.mk A490
       clear A490
       by_cases c50 : t284 = true
       ·subst c50
        have H1 : ((laws_markTree.f kj15 t255 t258 t259 t260 1).bind fun t285 => ((laws_markByteS.f kj15 t264 t285).bind fun bt286 => (if bt286.1 < 0 then (laws_FnExactTreeNext.j1 kj15 l1 t251 t254 t267 true l0_0 a0_1 a0_2 l0_3) else ((laws_eqByteS.f kj15 t267 t251).bind fun t288 => (if t288 = true then (laws_FnExactTreeNext.j1 kj15 l1 t251 t254 t267 (t270 != t254) l0_0 a0_1 a0_2 l0_3) else (laws_FnExactTreeNext.j1 kj15 l1 t251 t254 t267 true l0_0 a0_1 a0_2 l0_3)))))) = some r := by rw [if_pos rfl] at H; exact H
        clear H
        have H := H1
        clear H1
        replace H := Option.bind_eq_some_iff.mp H
        obtain ⟨t285, A510, H⟩ := H
        replace H : ((laws_markByteS.f kj15 t264 t285).bind fun bt286 => (if bt286.1 < 0 then (laws_FnExactTreeNext.j1 kj15 l1 t251 t254 t267 true l0_0 a0_1 a0_2 l0_3) else ((laws_eqByteS.f kj15 t267 t251).bind fun t288 => (if t288 = true then (laws_FnExactTreeNext.j1 kj15 l1 t251 t254 t267 (t270 != t254) l0_0 a0_1 a0_2 l0_3) else (laws_FnExactTreeNext.j1 kj15 l1 t251 t254 t267 true l0_0 a0_1 a0_2 l0_3))))) = some r := H
        have A51 := Aside0.mk A510
        clear A510
        replace H := Option.bind_eq_some_iff.mp H
        obtain ⟨⟨t286, t287⟩, A520, H⟩ := H
        replace H : (if t286 < 0 then (laws_FnExactTreeNext.j1 kj15 l1 t251 t254 t267 true l0_0 a0_1 a0_2 l0_3) else ((laws_eqByteS.f kj15 t267 t251).bind fun t288 => (if t288 = true then (laws_FnExactTreeNext.j1 kj15 l1 t251 t254 t267 (t270 != t254) l0_0 a0_1 a0_2 l0_3) else (laws_FnExactTreeNext.j1 kj15 l1 t251 t254 t267 true l0_0 a0_1 a0_2 l0_3)))) = some r := H
        have A52 := Aside0.mk A520
        clear A520
        have HC53 := Aside0.mk H
        clear H
        try go_wp2
        replace HO_6 := Aside0.mk (Kd.R_drew HO_6.out)
        replace HO_9 := Aside0.mk (Kd.R_drew HO_9.out)
        replace HO_10 := Aside0.mk (Kd.R_drew HO_10.out)
        replace HO_264000 := Aside0.mk (Kd.R_drew HO_264000.out)
        replace HO_264003 := Aside0.mk (Kd.R_drew HO_264003.out)
        replace BK238 := Aside0.mk (blk_drew BK238.out)
        replace BK263 := Aside0.mk (blk_drew BK263.out)
        replace HB := Aside0.mk (below_drew1 HB.out)
        refine start_ (n := 5) (S := fun w' => w'.cell? ⟨gb263, 0, none⟩ = some (.slice Ao30 t255.length co30) ∧ w'.cell? ⟨gb263, 1, none⟩ = some (.bool t258) ∧ w'.cell? ⟨gb263, 2, none⟩ = some (.int .i64 t259) ∧ w'.cell? ⟨gb263, 3, none⟩ = some (.slice Ao33 t260.length co33) ∧ w'.cell? ⟨gb238, 0, none⟩ = some (.slice A0_0 l0_0.length c0_0) ∧ w'.cell? ⟨gb238, 1, none⟩ = some (.bool a0_1) ∧ w'.cell? ⟨gb238, 2, none⟩ = some (.int .i64 a0_2) ∧ w'.cell? ⟨gb238, 3, none⟩ = some (.slice A0_3 l0_3.length c0_3)) (ds := []) #[false, false, false, false, false] (by kernel_rfl) rfl rfl (cells_4 BK263.out ⟨(blk_cell BK238.out 0).trans rfl, (blk_cell BK238.out 1).trans rfl, (blk_cell BK238.out 2).trans rfl, (blk_cell BK238.out 3).trans rfl⟩) (fun hHeld => ?_)
        generalize wc.drew = w54 at HO_6 HO_9 HO_10 HO_264000 HO_264003 BK238 BK263 HB hHeld ⊢
        refine take_ (i := 0) (N := some 52) (v := ?_) (a' := ?_) #[true, false, false, false, false] rfl rfl (by kernel_rfl) (fun _ _ _ h => h) (Or.inl ⟨by rfl, ?_⟩) hHeld ?_ ?_
        rotate_left
        ·rintro w' ⟨s0, s1, s2, s3, s4, s5, s6, s7⟩
         go_simp
         with_reducible rfl
        rotate_left
        ·simp only [Act.put, List.setIfInBounds_toArray, List.set_cons_zero, List.set_cons_succ, i64_w, i32_w]
         rfl
        refine take_ (i := 1) (N := some 53) (v := ?_) (a' := ?_) #[true, true, false, false, false] rfl rfl (by kernel_rfl) (fun _ _ _ h => h) (Or.inl ⟨by rfl, ?_⟩) hHeld ?_ ?_
        rotate_left
        ·rintro w' ⟨s0, s1, s2, s3, s4, s5, s6, s7⟩
         go_simp
         with_reducible rfl
        rotate_left
        ·simp only [Act.put, List.setIfInBounds_toArray, List.set_cons_zero, List.set_cons_succ, i64_w, i32_w]
         rfl
        refine one_ (i := 2) (N := some 54) #[true, true, true, false, false] rfl rfl (by kernel_rfl) (by decide) (fun K hK => ?_)
        refine gs_ Try.func17 #[.agg #[.slice A0_0 l0_0.length c0_0, .bool a0_1, .int .i64 a0_2, .slice A0_3 l0_3.length c0_3]] (h := ?_)
        with_reducible refine (laws_toTree.calls kj15 _ _ l0_0 a0_1 a0_2 _ _ l0_3 t272 t275 t276 t277 _ ?side1 ?side2 ?side3 ?side4 A45.out).mono ?_
        (case side1 => exact kcb)
        (case side2 => exact HC0_0.out)
        (case side3 => exact kcb)
        (case side4 => exact HC0_3.out)
        rintro e w55 ⟨v273, v278, rfl, ho0, ho1, hb⟩
        refine ⟨_, rfl, ?_⟩
        have HO274 := Aside0.mk (Kd.R_lower (Kd.R_new' (Kd.R_new' (Kd.R_new' (Kd.R_new' ho0 (Kd.R_lt (by (with_reducible repeat (first | apply Kd.R_alloc | apply Kd.R_drewN | apply Kd.R_drew)); exact HO_6.out))) (Kd.R_lt (by (with_reducible repeat (first | apply Kd.R_alloc | apply Kd.R_drewN | apply Kd.R_drew)); exact HO_9.out))) (Kd.R_lt (by (with_reducible repeat (first | apply Kd.R_alloc | apply Kd.R_drewN | apply Kd.R_drew)); exact HO_10.out))) (Kd.R_lt (by (with_reducible repeat (first | apply Kd.R_alloc | apply Kd.R_drewN | apply Kd.R_drew)); exact HO_264000.out))) (below_size bel))
        have HO279 := Aside0.mk (Kd.R_lower (Kd.R_newB (Kd.R_new' (Kd.R_new' (Kd.R_new' (Kd.R_new' (Kd.R_new' ho1 (Kd.R_lt (by (with_reducible repeat (first | apply Kd.R_alloc | apply Kd.R_drewN | apply Kd.R_drew)); exact HO_6.out))) (Kd.R_lt (by (with_reducible repeat (first | apply Kd.R_alloc | apply Kd.R_drewN | apply Kd.R_drew)); exact HO_9.out))) (Kd.R_lt (by (with_reducible repeat (first | apply Kd.R_alloc | apply Kd.R_drewN | apply Kd.R_drew)); exact HO_10.out))) (Kd.R_lt (by (with_reducible repeat (first | apply Kd.R_alloc | apply Kd.R_drewN | apply Kd.R_drew)); exact HO_264000.out))) (Kd.R_lt (by (with_reducible repeat (first | apply Kd.R_alloc | apply Kd.R_drewN | apply Kd.R_drew)); exact HO_264003.out))) (g := gb263) (o := .cells #[.slice Ao30 t255.length co30, .bool t258, .int .i64 t259, .slice Ao33 t260.length co33] 30 (0, 0)) (by (with_reducible repeat (first | refine blk_drewN ?_ _ | refine blk_drew ?_ | refine blk_alloc ?_ _)); exact BK263.out)) (below_size bel))
        replace HO_6 := Aside0.mk (Kd.R_elder' (by (with_reducible repeat (first | apply Kd.R_alloc | apply Kd.R_drewN | apply Kd.R_drew)); exact HO_6.out) (Kd.R_base ho0) hb)
        replace HO_9 := Aside0.mk (Kd.R_elder' (by (with_reducible repeat (first | apply Kd.R_alloc | apply Kd.R_drewN | apply Kd.R_drew)); exact HO_9.out) (Kd.R_base ho0) hb)
        replace HO_10 := Aside0.mk (Kd.R_elder' (by (with_reducible repeat (first | apply Kd.R_alloc | apply Kd.R_drewN | apply Kd.R_drew)); exact HO_10.out) (Kd.R_base ho0) hb)
        replace HO_264000 := Aside0.mk (Kd.R_elder' (by (with_reducible repeat (first | apply Kd.R_alloc | apply Kd.R_drewN | apply Kd.R_drew)); exact HO_264000.out) (Kd.R_base ho0) hb)
        replace HO_264003 := Aside0.mk (Kd.R_mono (Kd.R_told (Kd.R_told (Kd.R_old (by (with_reducible repeat (first | apply Kd.R_alloc | apply Kd.R_drewN | apply Kd.R_drew)); exact HO_264003.out) hb) (Kd.R_base ho0)) (Kd.R_base ho1)) (fun _ h_ => h_.1))
        replace BK238 := Aside0.mk (blb BK238 hb)
        replace BK263 := Aside0.mk (blb BK263 hb)
        replace HB := Aside0.mk (below_step bel hb)
        (try clear hb)
        (try clear hb2)
        (try clear hk)
        (try clear hi)
        (try clear ho0)
        (try clear ho1)
        obtain ⟨Ao56, co56, eo56⟩ := Kd.R_slice HO274.out
        (first | subst eo56 | (injection eo56 with f1_ f2_ f3_; have f4_ := f1_.symm; have f5_ := f3_.symm; clear f1_ f2_ f3_; subst f4_; subst f5_))
        obtain ⟨Ao57, co57, eo57⟩ := Kd.R_slice HO279.out
        (first | subst eo57 | (injection eo57 with f1_ f2_ f3_; have f4_ := f1_.symm; have f5_ := f3_.symm; clear f1_ f2_ f3_; subst f4_; subst f5_))
        refine hK.out _ _ (cells_4 BK263.out ⟨(blk_cell BK238.out 0).trans rfl, (blk_cell BK238.out 1).trans rfl, (blk_cell BK238.out 2).trans rfl, (blk_cell BK238.out 3).trans rfl⟩) (fun hHeld => ?_)
        clear hK K
        refine norm_ (a' := ?_) ?_ ?_
        rotate_left
        ·show Act.put _ (some 54) _ = _
         simp only [Act.put, List.setIfInBounds_toArray, List.set_cons_zero, List.set_cons_succ, i64_w, i32_w]
         rfl
        refine one_ (i := 3) (N := some 55) #[true, true, true, true, false] rfl rfl (by kernel_rfl) (by decide) (fun K hK => ?_)
        refine gs_ Try.func19 #[.agg #[.slice Ao30 t255.length co30, .bool t258, .int .i64 t259, .slice Ao33 t260.length co33], .agg #[.slice Ao56 t272.length co56, .bool t275, .int .i64 t276, .slice Ao57 t277.length co57]] (h := ?_)
        with_reducible refine (laws_eqTree.calls kj15 _ _ t255 t258 t259 _ _ t260 _ _ t272 t275 t276 _ _ t277 true _ ?side1 ?side2 ?side3 ?side4 ?side5 ?side6 ?side7 ?side8 A46.out).mono ?_
        (case side1 => repeat (first | exact (Kd.R_reads' HO_264000.out).2.2 | (with_reducible refine Kd.C_alloc ?_ _) | (with_reducible refine Kd.C_drewN ?_ _) | (with_reducible refine Kd.C_drew ?_)))
        (case side2 => exact (Kd.R_reads' HO_264000.out).2.1)
        (case side3 => repeat (first | exact (Kd.R_reads' HO_264003.out).2.2 | (with_reducible refine Kd.C_alloc ?_ _) | (with_reducible refine Kd.C_drewN ?_ _) | (with_reducible refine Kd.C_drew ?_)))
        (case side4 => exact (Kd.R_reads' HO_264003.out).2.1)
        (case side5 => repeat (first | exact (Kd.R_reads' HO274.out).2.2 | (with_reducible refine Kd.C_alloc ?_ _) | (with_reducible refine Kd.C_drewN ?_ _) | (with_reducible refine Kd.C_drew ?_)))
        (case side6 => exact (Kd.R_reads' HO274.out).2.1)
        (case side7 => repeat (first | exact (Kd.R_reads' HO279.out).2.2 | (with_reducible refine Kd.C_alloc ?_ _) | (with_reducible refine Kd.C_drewN ?_ _) | (with_reducible refine Kd.C_drew ?_)))
        (case side8 => exact (Kd.R_reads' HO279.out).2.1)
        rintro e w58 ⟨rfl, hb⟩
        refine ⟨_, rfl, ?_⟩
        replace HO_6 := Aside0.mk (rbl HO_6 hb)
        replace HO_9 := Aside0.mk (rbl HO_9 hb)
        replace HO_10 := Aside0.mk (rbl HO_10 hb)
        replace HO_264000 := Aside0.mk (rbl HO_264000 hb)
        replace HO_264003 := Aside0.mk (rbl HO_264003 hb)
        replace HO274 := Aside0.mk (rbl HO274 hb)
        replace HO279 := Aside0.mk (rbl HO279 hb)
        replace BK238 := Aside0.mk (blb BK238 hb)
        replace BK263 := Aside0.mk (blb BK263 hb)
        replace HB := Aside0.mk (below_step bel hb)
        (try clear hb)
        (try clear hb2)
        (try clear hk)
        (try clear hi)
        refine hK.out _ _ (cells_4 BK263.out ⟨(blk_cell BK238.out 0).trans rfl, (blk_cell BK238.out 1).trans rfl, (blk_cell BK238.out 2).trans rfl, (blk_cell BK238.out 3).trans rfl⟩) (fun hHeld => ?_)
        clear hK K
        refine norm_ (a' := ?_) ?_ ?_
        rotate_left
        ·show Act.put _ (some 55) _ = _
         simp only [Act.put, List.setIfInBounds_toArray, List.set_cons_zero, List.set_cons_succ, i64_w, i32_w]
         rfl
        refine pure_ (i := 4) (N := some 56) (v := ?_) (a' := ?_) #[true, true, true, true, true] rfl rfl (by kernel_rfl) (fun _ _ _ h => h) (Or.inl ⟨by rfl, ?_⟩) ?_ ?_
        rotate_left
        ·intro w'
         go_simp
         with_reducible rfl
        rotate_left
        ·simp only [Act.put, List.setIfInBounds_toArray, List.set_cons_zero, List.set_cons_succ, i64_w, i32_w]
         rfl
        refine done_ (by kernel_rfl) ?_
        go_upto_region 20 with (first | ((with_reducible refine gate_callee (f := 23) rfl ?_); refine gl_ (some 59) Try.func23 #[.slice A1 l1.length c1] (h := ?_); (with_reducible refine (laws_toByteS.calls kj15 _ _ l1 t281 _ ?side1 ?side2 A48.out).mono ?_); (case side1 => exact kcb); (case side2 => exact HC1.out); rintro e w59 ⟨v282, rfl, ho0, hb⟩; refine ⟨_, rfl, ?_⟩; have HO283 := Aside0.mk (Kd.R_lower (Kd.R_new' (Kd.R_new' (Kd.R_new' (Kd.R_new' (Kd.R_new' ho0 (Kd.R_lt (by (with_reducible repeat (first | apply Kd.R_alloc | apply Kd.R_drewN | apply Kd.R_drew)); exact HO_6.out))) (Kd.R_lt (by (with_reducible repeat (first | apply Kd.R_alloc | apply Kd.R_drewN | apply Kd.R_drew)); exact HO_9.out))) (Kd.R_lt (by (with_reducible repeat (first | apply Kd.R_alloc | apply Kd.R_drewN | apply Kd.R_drew)); exact HO_10.out))) (Kd.R_lt (by (with_reducible repeat (first | apply Kd.R_alloc | apply Kd.R_drewN | apply Kd.R_drew)); exact HO_264000.out))) (Kd.R_lt (by (with_reducible repeat (first | apply Kd.R_alloc | apply Kd.R_drewN | apply Kd.R_drew)); exact HO274.out))) (below_size bel)); replace HO_6 := Aside0.mk (Kd.R_elder' (by (with_reducible repeat (first | apply Kd.R_alloc | apply Kd.R_drewN | apply Kd.R_drew)); exact HO_6.out) (Kd.R_base ho0) hb); replace HO_9 := Aside0.mk (Kd.R_elder' (by (with_reducible repeat (first | apply Kd.R_alloc | apply Kd.R_drewN | apply Kd.R_drew)); exact HO_9.out) (Kd.R_base ho0) hb); replace HO_10 := Aside0.mk (Kd.R_elder' (by (with_reducible repeat (first | apply Kd.R_alloc | apply Kd.R_drewN | apply Kd.R_drew)); exact HO_10.out) (Kd.R_base ho0) hb); replace HO_264000 := Aside0.mk (Kd.R_elder' (by (with_reducible repeat (first | apply Kd.R_alloc | apply Kd.R_drewN | apply Kd.R_drew)); exact HO_264000.out) (Kd.R_base ho0) hb); replace HO_264003 := Aside0.mk (Kd.R_elder' (by (with_reducible repeat (first | apply Kd.R_alloc | apply Kd.R_drewN | apply Kd.R_drew)); exact HO_264003.out) (Kd.R_base ho0) hb); replace HO274 := Aside0.mk (Kd.R_elder' (by (with_reducible repeat (first | apply Kd.R_alloc | apply Kd.R_drewN | apply Kd.R_drew)); exact HO274.out) (Kd.R_base ho0) hb); replace HO279 := Aside0.mk (Kd.R_elder' (by (with_reducible repeat (first | apply Kd.R_alloc | apply Kd.R_drewN | apply Kd.R_drew)); exact HO279.out) (Kd.R_base ho0) hb); replace BK238 := Aside0.mk (blb BK238 hb); replace BK263 := Aside0.mk (blb BK263 hb); replace HB := Aside0.mk (below_step bel hb); (try clear hb); (try clear hb2); (try clear hk); (try clear hi); (try clear ho0); obtain ⟨Ao60, co60, eo60⟩ := Kd.R_slice HO283.out; subst eo60) | ((with_reducible refine gate_callee (f := 25) rfl ?_); refine gl_ (some 60) Try.func25 #[.slice Ao36 t264.length co36, .slice Ao60 t281.length co60] (h := ?_); (with_reducible refine (laws_eqByteS.calls kj15 _ _ t264 _ _ t281 true _ ?side1 ?side2 ?side3 ?side4 A49.out).mono ?_); (case side1 => repeat (first | exact (Kd.R_reads' HO_9.out).2.2 | (with_reducible refine Kd.C_alloc ?_ _) | (with_reducible refine Kd.C_drewN ?_ _) | (with_reducible refine Kd.C_drew ?_))); (case side2 => exact (Kd.R_reads' HO_9.out).2.1); (case side3 => repeat (first | exact (Kd.R_reads' HO283.out).2.2 | (with_reducible refine Kd.C_alloc ?_ _) | (with_reducible refine Kd.C_drewN ?_ _) | (with_reducible refine Kd.C_drew ?_))); (case side4 => exact (Kd.R_reads' HO283.out).2.1); rintro e w' ⟨rfl, ⟨nd, rfl⟩⟩; refine ⟨_, rfl, ?_⟩; have hnb61 := NB263_238.out; have hnc61 := NB238_263.out; obtain ⟨hcz62_0, hcz62_1, hcz62_2, hcz62_3, -⟩ := cells_4 BK263.out trivial; obtain ⟨hfz62_0, hfz62_1, hfz62_2, hfz62_3, -⟩ := frz_4 BK263.out) | ((with_reducible refine gate_callee (f := 33) rfl ?_); refine gl_ (some 64) Try.func33 #[.agg #[.slice Ao30 t255.length co30, .bool t258, .int .i64 t259, .slice Ao33 t260.length co33], .int .i64 1] (h := ?_); (with_reducible refine (laws_markTree.calls kj15 (fun k_ => some k_ = (.slice Ao30 t255.length co30 : Value).ownBlock) (.slice Ao30 t255.length co30) t255 t258 t259 (fun k_ => (((((some k_ ≠ (v252 : Value).ownBlock ∧ (some k_ ≠ (.slice Ao36 t264.length co36 : Value).ownBlock ∧ (some k_ ≠ (v268 : Value).ownBlock ∧ (some k_ ≠ (.slice Ao30 t255.length co30 : Value).ownBlock ∧ k_ ≠ gb263)))) ∧ some k_ ≠ (.slice Ao56 t272.length co56 : Value).ownBlock) ∧ some k_ ≠ (.slice Ao57 t277.length co57 : Value).ownBlock) ∧ some k_ ≠ (.slice Ao60 t281.length co60 : Value).ownBlock)) ∧ k_ ≠ gb238) (.slice Ao33 t260.length co33) t260 1 t285 w _ ?side1 ?side2 ?side3 A51.out).mono ?_); (case side1 => repeat (first | (with_reducible first | exact HB.out | apply below_alloc | apply pw_below_drewN | apply below_drew1 | refine below_set ?_ GE238.out | refine below_set ?_ GE263.out) | exact HB.out)); (case side2 => exact Kd.R_tight rfl HO_264000.out); (case side3 => (with_reducible repeat (first | apply Kd.R_alloc | apply Kd.R_drewN | apply Kd.R_drew)); exact (Kd.R_types HO_264003.out BK238.out (by decide))); rintro e w63 ⟨rfl, hb, hkp⟩; refine ⟨_, rfl, ?_⟩; have n0_ := Aside0.mk (Kd.R_mono (ok' := fun k_ => some k_ ≠ (.slice Ao36 t264.length co36 : Value).ownBlock ∧ some k_ ≠ (v268 : Value).ownBlock ∧ some k_ ≠ (.slice Ao56 t272.length co56 : Value).ownBlock ∧ some k_ ≠ (.slice Ao60 t281.length co60 : Value).ownBlock) (Kd.R_keptB ((Kd.R_tight2 rfl HO_6.out)) hkp (fun k_ hk_ hs_ => Or.elim hs_ (fun e_ => (hk_.2.1.1.2.2) e_) (fun e_ => (fun p_ => (p_.1.1.1.1.1) hk_.1) e_))) (fun k_ hk_ => ⟨hk_.1.2.1.1.1, hk_.1.2.1.1.2.1, hk_.1.2.1.2, hk_.1.2.2⟩)); have n1_ := Aside0.mk (Kd.R_mono (ok' := fun k_ => some k_ ≠ (v252 : Value).ownBlock ∧ some k_ ≠ (v268 : Value).ownBlock ∧ some k_ ≠ (.slice Ao56 t272.length co56 : Value).ownBlock ∧ some k_ ≠ (.slice Ao60 t281.length co60 : Value).ownBlock) (Kd.R_keptB ((Kd.R_tight2 rfl HO_9.out)) hkp (fun k_ hk_ hs_ => Or.elim hs_ (fun e_ => (hk_.2.1.1.2.2) e_) (fun e_ => (fun p_ => (p_.1.1.1.1.2.1) hk_.1) e_))) (fun k_ hk_ => ⟨hk_.1.2.1.1.1, hk_.1.2.1.1.2.1, hk_.1.2.1.2, hk_.1.2.2⟩)); have n2_ := Aside0.mk (Kd.R_mono (ok' := fun k_ => some k_ ≠ (v252 : Value).ownBlock ∧ some k_ ≠ (.slice Ao36 t264.length co36 : Value).ownBlock ∧ some k_ ≠ (.slice Ao56 t272.length co56 : Value).ownBlock ∧ some k_ ≠ (.slice Ao60 t281.length co60 : Value).ownBlock) (Kd.R_keptB ((Kd.R_tight2 rfl HO_10.out)) hkp (fun k_ hk_ hs_ => Or.elim hs_ (fun e_ => (hk_.2.1.1.2.2) e_) (fun e_ => (fun p_ => (p_.1.1.1.1.2.2.1) hk_.1) e_))) (fun k_ hk_ => ⟨hk_.1.2.1.1.1, hk_.1.2.1.1.2.1, hk_.1.2.1.2, hk_.1.2.2⟩)); have n3_ := Aside0.mk (blk_kept (by (with_reducible repeat (first | refine blk_drewN ?_ _ | refine blk_drew ?_ | refine blk_alloc ?_ _)); exact BK238.out) hkp (fun hs_ => Or.elim hs_ (fun e_ => (fun e_ => (Kd.R_ne HO_264000.out BK238.out (by decide)) e_) e_) (fun e_ => (fun p_ => (p_.2) rfl) e_))); have n4_ := Aside0.mk (blk_kept (by (with_reducible repeat (first | refine blk_drewN ?_ _ | refine blk_drew ?_ | refine blk_alloc ?_ _)); exact BK263.out) hkp (fun hs_ => Or.elim hs_ (fun e_ => (fun e_ => (Kd.R_ne HO_264000.out BK263.out (by decide)) e_) e_) (fun e_ => (fun p_ => (p_.1.1.1.1.2.2.2.2) rfl) e_))); have n5_ := Aside0.mk (Kd.R_mono (ok' := fun k_ => some k_ ≠ (v252 : Value).ownBlock ∧ some k_ ≠ (.slice Ao36 t264.length co36 : Value).ownBlock ∧ some k_ ≠ (v268 : Value).ownBlock ∧ some k_ ≠ (.slice Ao60 t281.length co60 : Value).ownBlock) (Kd.R_keptB ((Kd.R_tight2 rfl HO274.out)) hkp (fun k_ hk_ hs_ => Or.elim hs_ (fun e_ => (hk_.2.1.2) e_) (fun e_ => (fun p_ => (p_.1.1.1.2) hk_.1) e_))) (fun k_ hk_ => ⟨hk_.1.2.1.1.1.1.2, hk_.1.2.1.1.1.2, hk_.1.2.1.1.2, hk_.1.2.2⟩)); have n6_ := Aside0.mk (Kd.R_mono (ok' := fun k_ => some k_ ≠ (v252 : Value).ownBlock ∧ some k_ ≠ (.slice Ao36 t264.length co36 : Value).ownBlock ∧ some k_ ≠ (v268 : Value).ownBlock ∧ some k_ ≠ (.slice Ao56 t272.length co56 : Value).ownBlock) (Kd.R_keptB ((Kd.R_tight2 rfl HO283.out)) hkp (fun k_ hk_ hs_ => Or.elim hs_ (fun e_ => (hk_.2.1.2) e_) (fun e_ => (fun p_ => (p_.1.2) hk_.1) e_))) (fun k_ hk_ => ⟨hk_.1.2.1.1.1.1.2, hk_.1.2.1.1.1.2, hk_.1.2.1.1.2, hk_.1.2.2⟩)); have n7_ := Aside0.mk (hb); clear HO_6; clear HO_9; clear HO_10; clear BK238; clear BK263; clear HO274; clear HO283; clear HB; clear HO279; clear HO_264000; clear HO_264003; have HO_6 := n0_; have HO_9 := n1_; have HO_10 := n2_; have BK238 := n3_; have BK263 := n4_; have HO274 := n5_; have HO283 := n6_; have HB := n7_; clear n0_ n1_ n2_ n3_ n4_ n5_ n6_ n7_; (try clear hb); (try clear hkp)) | ((with_reducible refine gate_callee (f := 34) rfl ?_); refine gl_ (some 67) Try.func34 #[.slice Ao36 t264.length co36, .int .i64 t285] (h := ?_); (with_reducible refine (laws_markByteS.calls kj15 (fun k_ => some k_ = (.slice Ao36 t264.length co36 : Value).ownBlock) (.slice Ao36 t264.length co36) t264 t285 t286 t287 w _ ?side1 ?side2 A52.out).mono ?_); (case side1 => repeat (first | (with_reducible first | exact HB.out | apply below_alloc | apply pw_below_drewN | apply below_drew1 | refine below_set ?_ GE238.out | refine below_set ?_ GE263.out) | exact HB.out)); (case side2 => exact Kd.R_tight rfl HO_9.out); rintro e w64 ⟨rfl, hy0, hb, hkp⟩; refine ⟨_, rfl, ?_⟩; replace HO_6 := Aside0.mk (Kd.R_mono (ok' := fun k_ => some k_ ≠ (.slice Ao36 t264.length co36 : Value).ownBlock ∧ some k_ ≠ (v268 : Value).ownBlock ∧ some k_ ≠ (.slice Ao56 t272.length co56 : Value).ownBlock ∧ some k_ ≠ (.slice Ao60 t281.length co60 : Value).ownBlock) (Kd.R_keptB (HO_6.out) hkp (fun k_ hk_ hs_ => (hk_.1) hs_)) (fun k_ hk_ => ⟨hk_.1.1, hk_.1.2.1, hk_.1.2.2.1, hk_.1.2.2.2⟩)); replace HO_10 := Aside0.mk (Kd.R_mono (ok' := fun k_ => some k_ ≠ (v252 : Value).ownBlock ∧ some k_ ≠ (.slice Ao36 t264.length co36 : Value).ownBlock ∧ some k_ ≠ (.slice Ao56 t272.length co56 : Value).ownBlock ∧ some k_ ≠ (.slice Ao60 t281.length co60 : Value).ownBlock) (Kd.R_keptB (HO_10.out) hkp (fun k_ hk_ hs_ => (hk_.2.1) hs_)) (fun k_ hk_ => ⟨hk_.1.1, hk_.1.2.1, hk_.1.2.2.1, hk_.1.2.2.2⟩)); replace BK238 := Aside0.mk (blk_kept (by (with_reducible repeat (first | refine blk_drewN ?_ _ | refine blk_drew ?_ | refine blk_alloc ?_ _)); exact BK238.out) hkp (fun hs_ => (fun e_ => (Kd.R_ne HO_9.out BK238.out (by decide)) e_) hs_)); replace BK263 := Aside0.mk (blk_kept (by (with_reducible repeat (first | refine blk_drewN ?_ _ | refine blk_drew ?_ | refine blk_alloc ?_ _)); exact BK263.out) hkp (fun hs_ => (fun e_ => (Kd.R_ne HO_9.out BK263.out (by decide)) e_) hs_)); replace HO_9 := Aside0.mk (Kd.R_reok rfl hy0 (fun k_ e_ => HO_9.out.1 k_ e_)); replace HO274 := Aside0.mk (Kd.R_mono (ok' := fun k_ => some k_ ≠ (v252 : Value).ownBlock ∧ some k_ ≠ (.slice Ao36 t264.length co36 : Value).ownBlock ∧ some k_ ≠ (v268 : Value).ownBlock ∧ some k_ ≠ (.slice Ao60 t281.length co60 : Value).ownBlock) (Kd.R_keptB (HO274.out) hkp (fun k_ hk_ hs_ => (hk_.2.1) hs_)) (fun k_ hk_ => ⟨hk_.1.1, hk_.1.2.1, hk_.1.2.2.1, hk_.1.2.2.2⟩)); replace HO283 := Aside0.mk (Kd.R_mono (ok' := fun k_ => some k_ ≠ (v252 : Value).ownBlock ∧ some k_ ≠ (.slice Ao36 t264.length co36 : Value).ownBlock ∧ some k_ ≠ (v268 : Value).ownBlock ∧ some k_ ≠ (.slice Ao56 t272.length co56 : Value).ownBlock) (Kd.R_keptB (HO283.out) hkp (fun k_ hk_ hs_ => (hk_.2.1) hs_)) (fun k_ hk_ => ⟨hk_.1.1, hk_.1.2.1, hk_.1.2.2.1, hk_.1.2.2.2⟩)); replace HB := Aside0.mk (hb); (try clear hb); (try clear hkp); (try clear hy0)))
        (try simp only [Act.put, List.setIfInBounds_toArray, List.set_cons_zero, List.set_cons_succ])
        go_cut [80] (fun v80 wc => ∃ (kq : Nat) (x80_52 : Bool), v80 = .bool x80_52 ∧ Aside0 (laws_FnExactTreeNext.j1 kq l1 t251 t254 t267 x80_52 l0_0 a0_1 a0_2 l0_3 = some r) ∧ Aside0 (kq ≤ kj15) ∧ Aside0 (Kd.R (Kd.int .u8) 5 wc w.heap.size (fun k_ => some k_ ≠ (v268 : Value).ownBlock) v252 t251) ∧ Aside0 (Kd.R (Kd.int .u8) 5 wc w.heap.size (fun k_ => some k_ ≠ (v252 : Value).ownBlock) v268 t267) ∧ Aside0 (wc.heap[gb238]? = some (.cells #[(.slice A0_0 l0_0.length c0_0), .bool a0_1, .int .i64 a0_2, (.slice A0_3 l0_3.length c0_3)] 25 (0, 0))) ∧ Aside0 (Below w.heap.size w wc))
        case first =>
         have H := HC53.out
         clear HC53
         by_cases c65 : t286 < 0
         ·rw [if_pos c65] at H
          have c65b0 : decide (t286 < 0) = true := decide_eq_true c65
          clear c65
          (first | rw [c65b0] | (simp only [i64_w, i32_w]; rw [c65b0]) | skip)
          have H' := Aside0.mk H
          clear H
          go_wp2
          go_meet
          case rel => exact ⟨_, (true), (by first | rfl | (simp; done) | (simp [*]; done)), H', ⟨by have := HJ15.out; first | omega | exact Nat.le_refl _⟩, ⟨by (with_reducible repeat (first | apply Kd.R_alloc | apply Kd.R_drewN | apply Kd.R_drew)); exact Kd.R_mono HO_6.out (fun _ hk => hk.2.1)⟩, ⟨by (with_reducible repeat (first | apply Kd.R_alloc | apply Kd.R_drewN | apply Kd.R_drew)); exact Kd.R_mono HO_10.out (fun _ hk => hk.1)⟩, ⟨by (with_reducible repeat (first | refine blk_drewN ?_ _ | refine blk_drew ?_ | refine blk_alloc ?_ _)); exact BK238.out⟩, ⟨by repeat (first | (with_reducible first | exact HB.out | apply below_alloc | apply pw_below_drewN | apply below_drew1 | refine below_set ?_ GE238.out | refine below_set ?_ GE263.out) | exact HB.out)⟩⟩
         ·rw [if_neg c65] at H
          have c65b0 : decide (t286 < 0) = false := decide_eq_false c65
          clear c65
          (first | rw [c65b0] | (simp only [i64_w, i32_w]; rw [c65b0]) | skip)
          replace H := Option.bind_eq_some_iff.mp H
          obtain ⟨t288, A660, H⟩ := H
          replace H : (if t288 = true then (laws_FnExactTreeNext.j1 kj15 l1 t251 t254 t267 (t270 != t254) l0_0 a0_1 a0_2 l0_3) else (laws_FnExactTreeNext.j1 kj15 l1 t251 t254 t267 true l0_0 a0_1 a0_2 l0_3)) = some r := H
          have A66 := Aside0.mk A660
          clear A660
          by_cases c67 : t288 = true
          ·subst c67
           have H1 : (laws_FnExactTreeNext.j1 kj15 l1 t251 t254 t267 (t270 != t254) l0_0 a0_1 a0_2 l0_3) = some r := by rw [if_pos rfl] at H; exact H
           clear H
           have H := H1
           clear H1
           have H' := Aside0.mk H
           clear H
           obtain ⟨Ao68, co68, eo68⟩ := Kd.R_slice HO_10.out
           subst eo68
           obtain ⟨Ao69, co69, eo69⟩ := Kd.R_slice HO_6.out
           subst eo69
           go_wp2_with (first | (go_at_call 25; (with_reducible refine (laws_eqByteS.calls kj15 _ _ t267 _ _ t251 true _ ?side1 ?side2 ?side3 ?side4 A66.out).mono ?_); (case side1 => repeat (first | exact (Kd.R_reads' HO_10.out).2.2 | (with_reducible refine Kd.C_alloc ?_ _) | (with_reducible refine Kd.C_drewN ?_ _) | (with_reducible refine Kd.C_drew ?_))); (case side2 => exact (Kd.R_reads' HO_10.out).2.1); (case side3 => repeat (first | exact (Kd.R_reads' HO_6.out).2.2 | (with_reducible refine Kd.C_alloc ?_ _) | (with_reducible refine Kd.C_drewN ?_ _) | (with_reducible refine Kd.C_drew ?_))); (case side4 => exact (Kd.R_reads' HO_6.out).2.1); rintro e w' ⟨rfl, ⟨nd, rfl⟩⟩))
           go_meet
           case rel => exact ⟨_, ((t270 != t254)), (by first | rfl | (simp; done) | (simp [*]; done)), H', ⟨by have := HJ15.out; first | omega | exact Nat.le_refl _⟩, ⟨by (with_reducible repeat (first | apply Kd.R_alloc | apply Kd.R_drewN | apply Kd.R_drew)); exact Kd.R_mono HO_6.out (fun _ hk => hk.2.1)⟩, ⟨by (with_reducible repeat (first | apply Kd.R_alloc | apply Kd.R_drewN | apply Kd.R_drew)); exact Kd.R_mono HO_10.out (fun _ hk => hk.1)⟩, ⟨by (with_reducible repeat (first | refine blk_drewN ?_ _ | refine blk_drew ?_ | refine blk_alloc ?_ _)); exact BK238.out⟩, ⟨by repeat (first | (with_reducible first | exact HB.out | apply below_alloc | apply pw_below_drewN | apply below_drew1 | refine below_set ?_ GE238.out | refine below_set ?_ GE263.out) | exact HB.out)⟩⟩
          ·replace c67 := Bool.eq_false_iff.mpr c67
           subst c67
           have H1 : (laws_FnExactTreeNext.j1 kj15 l1 t251 t254 t267 true l0_0 a0_1 a0_2 l0_3) = some r := by rw [if_neg (show ¬ (false = true) by decide)] at H; exact H
           clear H
           have H := H1
           clear H1
           have H' := Aside0.mk H
           clear H
           obtain ⟨Ao70, co70, eo70⟩ := Kd.R_slice HO_10.out
           subst eo70
           obtain ⟨Ao71, co71, eo71⟩ := Kd.R_slice HO_6.out
           subst eo71
           go_wp2_with (first | (go_at_call 25; (with_reducible refine (laws_eqByteS.calls kj15 _ _ t267 _ _ t251 false _ ?side1 ?side2 ?side3 ?side4 A66.out).mono ?_); (case side1 => repeat (first | exact (Kd.R_reads' HO_10.out).2.2 | (with_reducible refine Kd.C_alloc ?_ _) | (with_reducible refine Kd.C_drewN ?_ _) | (with_reducible refine Kd.C_drew ?_))); (case side2 => exact (Kd.R_reads' HO_10.out).2.1); (case side3 => repeat (first | exact (Kd.R_reads' HO_6.out).2.2 | (with_reducible refine Kd.C_alloc ?_ _) | (with_reducible refine Kd.C_drewN ?_ _) | (with_reducible refine Kd.C_drew ?_))); (case side4 => exact (Kd.R_reads' HO_6.out).2.1); rintro e w' ⟨rfl, ⟨nd, rfl⟩⟩))
           go_meet
           case rel => exact ⟨_, (true), (by first | rfl | (simp; done) | (simp [*]; done)), H', ⟨by have := HJ15.out; first | omega | exact Nat.le_refl _⟩, ⟨by (with_reducible repeat (first | apply Kd.R_alloc | apply Kd.R_drewN | apply Kd.R_drew)); exact Kd.R_mono HO_6.out (fun _ hk => hk.2.1)⟩, ⟨by (with_reducible repeat (first | apply Kd.R_alloc | apply Kd.R_drewN | apply Kd.R_drew)); exact Kd.R_mono HO_10.out (fun _ hk => hk.1)⟩, ⟨by (with_reducible repeat (first | refine blk_drewN ?_ _ | refine blk_drew ?_ | refine blk_alloc ?_ _)); exact BK238.out⟩, ⟨by repeat (first | (with_reducible first | exact HB.out | apply below_alloc | apply pw_below_drewN | apply below_drew1 | refine below_set ?_ GE238.out | refine below_set ?_ GE263.out) | exact HB.out)⟩⟩
        case rest =>
         clear HC53
         try clear c1; try clear c2; try clear p2; try clear c3; try clear c3b0; try clear c3b1; try clear c4; try clear c5; try clear c6; try clear c6b0; try clear c7; try clear c15; try clear c17; try clear c19; try clear c23; try clear c25; try clear c29; try clear c31; try clear c32; try clear c33; try clear c34; try clear c39; try clear c44; try clear c47; try clear c50; try clear c61; try clear c65; try clear c65b0; try clear c67; try clear hcz18_0; try clear hcz18_1; try clear hcz18_2; try clear hcz18_3; try clear hcz20_0; try clear hcz20_1; try clear hcz20_2; try clear hcz20_3; try clear hcz27_0; try clear hcz27_1; try clear hcz27_2; try clear hcz27_3; try clear hcz32_0; try clear hcz32_1; try clear hcz32_2; try clear hcz32_3; try clear hcz35_0; try clear hcz35_1; try clear hcz35_2; try clear hcz35_3; try clear hcz62_0; try clear hcz62_1; try clear hcz62_2; try clear hcz62_3; try clear hcz8_0; try clear hcz8_1; try clear hcz8_2; try clear hcz8_3; try clear hfz18_0; try clear hfz18_1; try clear hfz18_2; try clear hfz18_3; try clear hfz20_0; try clear hfz20_1; try clear hfz20_2; try clear hfz20_3; try clear hfz27_0; try clear hfz27_1; try clear hfz27_2; try clear hfz27_3; try clear hfz32_0; try clear hfz32_1; try clear hfz32_2; try clear hfz32_3; try clear hfz35_0; try clear hfz35_1; try clear hfz35_2; try clear hfz35_3; try clear hfz62_0; try clear hfz62_1; try clear hfz62_2; try clear hfz62_3; try clear hfz8_0; try clear hfz8_1; try clear hfz8_2; try clear hfz8_3; try clear p2
         obtain ⟨kq, x80_52, rfl, HA, HJ52, HO_6, HO_10, BK238, HB⟩ := hcut
         cases kq with
         | zero => exact absurd HA.out (by simp [laws_FnExactTreeNext.j1])
         | succ kj52 =>
          have H := HA.out
          clear HA
          simp only [laws_FnExactTreeNext.j1] at H
          by_cases c72 : x80_52 = true
          ·subst c72
           have H1 : (some false) = some r := by rw [if_pos rfl] at H; exact H
           clear H
           have H := H1
           clear H1
           obtain rfl := Option.some.inj H
           go_wp2
           go_ret
           exact ⟨by first | rfl | (simp [errW_none, errW_some] <;> rfl) | (simp [*, errW_none, errW_some] <;> rfl), by repeat (first | (with_reducible first | exact HB.out | apply below_alloc | apply pw_below_drewN | apply below_drew1 | refine below_set ?_ GE238.out) | exact HB.out)⟩
          ·replace c72 := Bool.eq_false_iff.mpr c72
           subst c72
           have H1 : ((laws_markByteS.f kj52 t267 1).bind fun bt289 => ((laws_heldByteS.f kj52 bt289.2 1).bind fun t291 => (if t291 < 0 then (some false) else (if t291 = bt289.1 then ((laws_toTree.f kj52 l0_0 a0_1 a0_2 l0_3).bind fun bt292 => ((laws_toByteS.f kj52 l1).bind fun t300 => ((impl_TreeNext.f kj52 bt292.1 bt292.2.1 bt292.2.2.1 bt292.2.2.2 t300).bind fun bt303 => ((laws_eqByteS.f kj52 bt303.1 t251).bind fun t307 => (if t307 = true then (laws_FnExactTreeNext.j2 kj52 bt289.2 bt289.1 (bt303.2 != t254)) else (laws_FnExactTreeNext.j2 kj52 bt289.2 bt289.1 true)))))) else (some false))))) = some r := by rw [if_neg (show ¬ (false = true) by decide)] at H; exact H
           clear H
           have H := H1
           clear H1
           replace H := Option.bind_eq_some_iff.mp H
           obtain ⟨⟨t289, t290⟩, A730, H⟩ := H
           replace H : ((laws_heldByteS.f kj52 t290 1).bind fun t291 => (if t291 < 0 then (some false) else (if t291 = t289 then ((laws_toTree.f kj52 l0_0 a0_1 a0_2 l0_3).bind fun bt292 => ((laws_toByteS.f kj52 l1).bind fun t300 => ((impl_TreeNext.f kj52 bt292.1 bt292.2.1 bt292.2.2.1 bt292.2.2.2 t300).bind fun bt303 => ((laws_eqByteS.f kj52 bt303.1 t251).bind fun t307 => (if t307 = true then (laws_FnExactTreeNext.j2 kj52 t290 t289 (bt303.2 != t254)) else (laws_FnExactTreeNext.j2 kj52 t290 t289 true)))))) else (some false)))) = some r := H
           have A73 := Aside0.mk A730
           clear A730
           replace H := Option.bind_eq_some_iff.mp H
           obtain ⟨t291, A740, H⟩ := H
           replace H : (if t291 < 0 then (some false) else (if t291 = t289 then ((laws_toTree.f kj52 l0_0 a0_1 a0_2 l0_3).bind fun bt292 => ((laws_toByteS.f kj52 l1).bind fun t300 => ((impl_TreeNext.f kj52 bt292.1 bt292.2.1 bt292.2.2.1 bt292.2.2.2 t300).bind fun bt303 => ((laws_eqByteS.f kj52 bt303.1 t251).bind fun t307 => (if t307 = true then (laws_FnExactTreeNext.j2 kj52 t290 t289 (bt303.2 != t254)) else (laws_FnExactTreeNext.j2 kj52 t290 t289 true)))))) else (some false))) = some r := H
           have A74 := Aside0.mk A740
           clear A740
           by_cases c75 : t291 < 0
           ·rw [if_pos c75] at H
            have c75b0 : decide (t291 < 0) = true := decide_eq_true c75
            clear c75
            obtain rfl := Option.some.inj H
            obtain ⟨Ao76, co76, eo76⟩ := Kd.R_slice HO_10.out
            subst eo76
            go_wp2_with (first | ((with_reducible refine gate_callee (f := 34) rfl ?_); refine gl_ (some 83) Try.func34 #[.slice Ao76 t267.length co76, .int .i64 1] (h := ?_); (with_reducible refine (laws_markByteS.calls kj52 (fun k_ => some k_ = (.slice Ao76 t267.length co76 : Value).ownBlock) (.slice Ao76 t267.length co76) t267 1 t289 t290 w _ ?side1 ?side2 A73.out).mono ?_); (case side1 => repeat (first | (with_reducible first | exact HB.out | apply below_alloc | apply pw_below_drewN | apply below_drew1 | refine below_set ?_ GE238.out) | exact HB.out)); (case side2 => exact Kd.R_tight rfl HO_10.out); rintro e w77 ⟨rfl, hy0, hb, hkp⟩; refine ⟨_, rfl, ?_⟩; replace HO_6 := Aside0.mk (Kd.R_mono (ok' := fun k_ => some k_ ≠ (.slice Ao76 t267.length co76 : Value).ownBlock) (Kd.R_keptB (HO_6.out) hkp (fun k_ hk_ hs_ => (hk_) hs_)) (fun k_ hk_ => hk_.1)); replace BK238 := Aside0.mk (blk_kept (by (with_reducible repeat (first | refine blk_drewN ?_ _ | refine blk_drew ?_ | refine blk_alloc ?_ _)); exact BK238.out) hkp (fun hs_ => (fun e_ => (Kd.R_ne HO_10.out BK238.out (by decide)) e_) hs_)); replace HO_10 := Aside0.mk (Kd.R_reok rfl hy0 (fun k_ e_ => HO_10.out.1 k_ e_)); replace HB := Aside0.mk (hb); (try clear hb); (try clear hkp); (try clear hy0)) | ((with_reducible refine gate_callee (f := 35) rfl ?_); refine goesL_ (some 86) rfl rfl Try.func35 (by kernel_rfl) rfl #[.slice Ao76 t290.length co76, .int .i64 1] rfl (by (try simp only [List.map_toArray, List.map_cons, List.map_nil]); first | done | (rw [show t290.length = t267.length from (Kd.R_reads' HO_10.out).1.symm] <;> rfl) | rfl | (simp only [List.length_drop, List.length_take]; rfl)) ?_; (with_reducible refine (laws_heldByteS.calls kj52 _ _ t290 1 t291 _ ?side1 ?side2 A74.out).mono ?_); (case side1 => repeat (first | exact (Kd.R_reads' HO_10.out).2.2 | (with_reducible refine Kd.C_alloc ?_ _) | (with_reducible refine Kd.C_drewN ?_ _) | (with_reducible refine Kd.C_drew ?_))); (case side2 => rw [show t290.length = t267.length from (Kd.R_reads' HO_10.out).1.symm]; exact (Kd.R_reads' HO_10.out).2.1); rintro e w' ⟨rfl, ⟨nd, rfl⟩⟩; refine ⟨_, rfl, ?_⟩))
            go_ret
            exact ⟨by first | rfl | (simp [errW_none, errW_some] <;> rfl) | (simp [*, errW_none, errW_some] <;> rfl), by repeat (first | (with_reducible first | exact HB.out | apply below_alloc | apply pw_below_drewN | apply below_drew1 | refine below_set ?_ GE238.out) | exact HB.out)⟩
           ·rw [if_neg c75] at H
            have c75b0 : decide (t291 < 0) = false := decide_eq_false c75
            clear c75
            by_cases c78 : t291 = t289
            ·rw [if_pos c78] at H
             have c78b0 : (t291 == t289) = true := beq_iff_eq.mpr c78
             have c78b1 : (t291 != t289) = false := bne_eq_false_iff_eq.mpr c78
             clear c78
             replace H := Option.bind_eq_some_iff.mp H
             obtain ⟨⟨t292, t295, t296, t297⟩, A790, H⟩ := H
             replace H : ((laws_toByteS.f kj52 l1).bind fun t300 => ((impl_TreeNext.f kj52 t292 t295 t296 t297 t300).bind fun bt303 => ((laws_eqByteS.f kj52 bt303.1 t251).bind fun t307 => (if t307 = true then (laws_FnExactTreeNext.j2 kj52 t290 t289 (bt303.2 != t254)) else (laws_FnExactTreeNext.j2 kj52 t290 t289 true))))) = some r := H
             have A79 := Aside0.mk A790
             clear A790
             replace H := Option.bind_eq_some_iff.mp H
             obtain ⟨t300, A800, H⟩ := H
             replace H : ((impl_TreeNext.f kj52 t292 t295 t296 t297 t300).bind fun bt303 => ((laws_eqByteS.f kj52 bt303.1 t251).bind fun t307 => (if t307 = true then (laws_FnExactTreeNext.j2 kj52 t290 t289 (bt303.2 != t254)) else (laws_FnExactTreeNext.j2 kj52 t290 t289 true)))) = some r := H
             have A80 := Aside0.mk A800
             clear A800
             replace H := Option.bind_eq_some_iff.mp H
             obtain ⟨⟨t303, t306⟩, A810, H⟩ := H
             replace H : ((laws_eqByteS.f kj52 t303 t251).bind fun t307 => (if t307 = true then (laws_FnExactTreeNext.j2 kj52 t290 t289 (t306 != t254)) else (laws_FnExactTreeNext.j2 kj52 t290 t289 true))) = some r := H
             have A81 := Aside0.mk A810
             clear A810
             have HC82 := Aside0.mk H
             clear H
             obtain ⟨Ao83, co83, eo83⟩ := Kd.R_slice HO_10.out
             subst eo83
             go_upto_region 31 with (first | ((with_reducible refine gate_callee (f := 34) rfl ?_); refine gl_ (some 83) Try.func34 #[.slice Ao83 t267.length co83, .int .i64 1] (h := ?_); (with_reducible refine (laws_markByteS.calls kj52 (fun k_ => some k_ = (.slice Ao83 t267.length co83 : Value).ownBlock) (.slice Ao83 t267.length co83) t267 1 t289 t290 w _ ?side1 ?side2 A73.out).mono ?_); (case side1 => repeat (first | (with_reducible first | exact HB.out | apply below_alloc | apply pw_below_drewN | apply below_drew1 | refine below_set ?_ GE238.out) | exact HB.out)); (case side2 => exact Kd.R_tight rfl HO_10.out); rintro e w84 ⟨rfl, hy0, hb, hkp⟩; refine ⟨_, rfl, ?_⟩; replace HO_6 := Aside0.mk (Kd.R_mono (ok' := fun k_ => some k_ ≠ (.slice Ao83 t267.length co83 : Value).ownBlock) (Kd.R_keptB (HO_6.out) hkp (fun k_ hk_ hs_ => (hk_) hs_)) (fun k_ hk_ => hk_.1)); replace BK238 := Aside0.mk (blk_kept (by (with_reducible repeat (first | refine blk_drewN ?_ _ | refine blk_drew ?_ | refine blk_alloc ?_ _)); exact BK238.out) hkp (fun hs_ => (fun e_ => (Kd.R_ne HO_10.out BK238.out (by decide)) e_) hs_)); replace HO_10 := Aside0.mk (Kd.R_reok rfl hy0 (fun k_ e_ => HO_10.out.1 k_ e_)); replace HB := Aside0.mk (hb); (try clear hb); (try clear hkp); (try clear hy0)) | ((with_reducible refine gate_callee (f := 35) rfl ?_); refine goesL_ (some 86) rfl rfl Try.func35 (by kernel_rfl) rfl #[.slice Ao83 t290.length co83, .int .i64 1] rfl (by (try simp only [List.map_toArray, List.map_cons, List.map_nil]); first | done | (rw [show t290.length = t267.length from (Kd.R_reads' HO_10.out).1.symm] <;> rfl) | rfl | (simp only [List.length_drop, List.length_take]; rfl)) ?_; (with_reducible refine (laws_heldByteS.calls kj52 _ _ t290 1 t291 _ ?side1 ?side2 A74.out).mono ?_); (case side1 => repeat (first | exact (Kd.R_reads' HO_10.out).2.2 | (with_reducible refine Kd.C_alloc ?_ _) | (with_reducible refine Kd.C_drewN ?_ _) | (with_reducible refine Kd.C_drew ?_))); (case side2 => rw [show t290.length = t267.length from (Kd.R_reads' HO_10.out).1.symm]; exact (Kd.R_reads' HO_10.out).2.1); rintro e w' ⟨rfl, ⟨nd, rfl⟩⟩; refine ⟨_, rfl, ?_⟩; obtain ⟨hcz85_0, hcz85_1, hcz85_2, hcz85_3, -⟩ := cells_4 BK238.out trivial; obtain ⟨hfz85_0, hfz85_1, hfz85_2, hfz85_3, -⟩ := frz_4 BK238.out) | ((with_reducible refine gate_callee (f := 17) rfl ?_); refine gl_ (some 94) Try.func17 #[.agg #[.slice A0_0 l0_0.length c0_0, .bool a0_1, .int .i64 a0_2, .slice A0_3 l0_3.length c0_3]] (h := ?_); (with_reducible refine (laws_toTree.calls kj52 _ _ l0_0 a0_1 a0_2 _ _ l0_3 t292 t295 t296 t297 _ ?side1 ?side2 ?side3 ?side4 A79.out).mono ?_); (case side1 => exact kcb); (case side2 => exact HC0_0.out); (case side3 => exact kcb); (case side4 => exact HC0_3.out); rintro e w86 ⟨v293, v298, rfl, ho0, ho1, hb⟩; refine ⟨_, rfl, ?_⟩; have HO294 := Aside0.mk (Kd.R_lower (Kd.R_new' (Kd.R_new' ho0 (Kd.R_lt (by (with_reducible repeat (first | apply Kd.R_alloc | apply Kd.R_drewN | apply Kd.R_drew)); exact HO_6.out))) (Kd.R_lt (by (with_reducible repeat (first | apply Kd.R_alloc | apply Kd.R_drewN | apply Kd.R_drew)); exact HO_10.out))) (below_size bel)); have HO299 := Aside0.mk (Kd.R_lower (Kd.R_new' (Kd.R_new' ho1 (Kd.R_lt (by (with_reducible repeat (first | apply Kd.R_alloc | apply Kd.R_drewN | apply Kd.R_drew)); exact HO_6.out))) (Kd.R_lt (by (with_reducible repeat (first | apply Kd.R_alloc | apply Kd.R_drewN | apply Kd.R_drew)); exact HO_10.out))) (below_size bel)); replace HO_6 := Aside0.mk (Kd.R_elder' (by (with_reducible repeat (first | apply Kd.R_alloc | apply Kd.R_drewN | apply Kd.R_drew)); exact HO_6.out) (Kd.R_base ho0) hb); replace HO_10 := Aside0.mk (Kd.R_elder' (by (with_reducible repeat (first | apply Kd.R_alloc | apply Kd.R_drewN | apply Kd.R_drew)); exact HO_10.out) (Kd.R_base ho0) hb); replace BK238 := Aside0.mk (blb BK238 hb); replace HB := Aside0.mk (below_step bel hb); (try clear hb); (try clear hb2); (try clear hk); (try clear hi); (try clear ho0); (try clear ho1)) | ((with_reducible refine gate_callee (f := 23) rfl ?_); refine gl_ (some 96) Try.func23 #[.slice A1 l1.length c1] (h := ?_); (with_reducible refine (laws_toByteS.calls kj52 _ _ l1 t300 _ ?side1 ?side2 A80.out).mono ?_); (case side1 => exact kcb); (case side2 => exact HC1.out); rintro e w87 ⟨v301, rfl, ho0, hb⟩; refine ⟨_, rfl, ?_⟩; have HO302 := Aside0.mk (Kd.R_lower (Kd.R_new' (Kd.R_new' (Kd.R_new' ho0 (Kd.R_lt (by (with_reducible repeat (first | apply Kd.R_alloc | apply Kd.R_drewN | apply Kd.R_drew)); exact HO_6.out))) (Kd.R_lt (by (with_reducible repeat (first | apply Kd.R_alloc | apply Kd.R_drewN | apply Kd.R_drew)); exact HO_10.out))) (Kd.R_lt (by (with_reducible repeat (first | apply Kd.R_alloc | apply Kd.R_drewN | apply Kd.R_drew)); exact HO294.out))) (below_size bel)); replace HO_6 := Aside0.mk (Kd.R_elder' (by (with_reducible repeat (first | apply Kd.R_alloc | apply Kd.R_drewN | apply Kd.R_drew)); exact HO_6.out) (Kd.R_base ho0) hb); replace HO_10 := Aside0.mk (Kd.R_elder' (by (with_reducible repeat (first | apply Kd.R_alloc | apply Kd.R_drewN | apply Kd.R_drew)); exact HO_10.out) (Kd.R_base ho0) hb); replace HO294 := Aside0.mk (Kd.R_elder' (by (with_reducible repeat (first | apply Kd.R_alloc | apply Kd.R_drewN | apply Kd.R_drew)); exact HO294.out) (Kd.R_base ho0) hb); replace HO299 := Aside0.mk (Kd.R_elder' (by (with_reducible repeat (first | apply Kd.R_alloc | apply Kd.R_drewN | apply Kd.R_drew)); exact HO299.out) (Kd.R_base ho0) hb); replace BK238 := Aside0.mk (blb BK238 hb); replace HB := Aside0.mk (below_step bel hb); (try clear hb); (try clear hb2); (try clear hk); (try clear hi); (try clear ho0); obtain ⟨Ao88, co88, eo88⟩ := Kd.R_slice HO294.out; subst eo88; obtain ⟨Ao89, co89, eo89⟩ := Kd.R_slice HO299.out; subst eo89; obtain ⟨Ao90, co90, eo90⟩ := Kd.R_slice HO302.out; subst eo90) | ((with_reducible refine gate_callee (f := 29) rfl ?_); refine gl_ (some 97) Try.func29 #[.agg #[.slice Ao88 t292.length co88, .bool t295, .int .i64 t296, .slice Ao89 t297.length co89], .slice Ao90 t300.length co90] (h := ?_); (with_reducible refine (impl_TreeNext.calls kj52 _ _ t292 t295 t296 _ _ t297 _ _ t300 t303 t306 _ ?side1 ?side2 ?side3 ?side4 ?side5 ?side6 A81.out).mono ?_); (case side1 => repeat (first | exact (Kd.R_reads' HO294.out).2.2 | (with_reducible refine Kd.C_alloc ?_ _) | (with_reducible refine Kd.C_drewN ?_ _) | (with_reducible refine Kd.C_drew ?_))); (case side2 => exact (Kd.R_reads' HO294.out).2.1); (case side3 => repeat (first | exact (Kd.R_reads' HO299.out).2.2 | (with_reducible refine Kd.C_alloc ?_ _) | (with_reducible refine Kd.C_drewN ?_ _) | (with_reducible refine Kd.C_drew ?_))); (case side4 => exact (Kd.R_reads' HO299.out).2.1); (case side5 => repeat (first | exact (Kd.R_reads' HO302.out).2.2 | (with_reducible refine Kd.C_alloc ?_ _) | (with_reducible refine Kd.C_drewN ?_ _) | (with_reducible refine Kd.C_drew ?_))); (case side6 => exact (Kd.R_reads' HO302.out).2.1); rintro e w91 ⟨v304, rfl, ho0, hb⟩; refine ⟨_, rfl, ?_⟩; have HO305 := Aside0.mk (Kd.R_lower (Kd.R_new' (Kd.R_new' (Kd.R_new' (Kd.R_new' ho0 (Kd.R_lt (by (with_reducible repeat (first | apply Kd.R_alloc | apply Kd.R_drewN | apply Kd.R_drew)); exact HO_6.out))) (Kd.R_lt (by (with_reducible repeat (first | apply Kd.R_alloc | apply Kd.R_drewN | apply Kd.R_drew)); exact HO_10.out))) (Kd.R_lt (by (with_reducible repeat (first | apply Kd.R_alloc | apply Kd.R_drewN | apply Kd.R_drew)); exact HO294.out))) (Kd.R_lt (by (with_reducible repeat (first | apply Kd.R_alloc | apply Kd.R_drewN | apply Kd.R_drew)); exact HO302.out))) (below_size bel)); replace HO_6 := Aside0.mk (Kd.R_elder' (by (with_reducible repeat (first | apply Kd.R_alloc | apply Kd.R_drewN | apply Kd.R_drew)); exact HO_6.out) (Kd.R_base ho0) hb); replace HO_10 := Aside0.mk (Kd.R_elder' (by (with_reducible repeat (first | apply Kd.R_alloc | apply Kd.R_drewN | apply Kd.R_drew)); exact HO_10.out) (Kd.R_base ho0) hb); replace HO294 := Aside0.mk (Kd.R_elder' (by (with_reducible repeat (first | apply Kd.R_alloc | apply Kd.R_drewN | apply Kd.R_drew)); exact HO294.out) (Kd.R_base ho0) hb); replace HO299 := Aside0.mk (Kd.R_elder' (by (with_reducible repeat (first | apply Kd.R_alloc | apply Kd.R_drewN | apply Kd.R_drew)); exact HO299.out) (Kd.R_base ho0) hb); replace HO302 := Aside0.mk (Kd.R_elder' (by (with_reducible repeat (first | apply Kd.R_alloc | apply Kd.R_drewN | apply Kd.R_drew)); exact HO302.out) (Kd.R_base ho0) hb); replace BK238 := Aside0.mk (blb BK238 hb); replace HB := Aside0.mk (below_step bel hb); (try clear hb); (try clear hb2); (try clear hk); (try clear hi); (try clear ho0)))
             (try simp only [Act.put, List.setIfInBounds_toArray, List.set_cons_zero, List.set_cons_succ])
             go_cut [108] (fun v108 wc => ∃ (kq : Nat) (x108_81 : Bool), v108 = .bool x108_81 ∧ Aside0 (laws_FnExactTreeNext.j2 kq t290 t289 x108_81 = some r) ∧ Aside0 (kq ≤ kj52) ∧ Aside0 (Kd.R (Kd.int .u8) 5 wc w.heap.size (fun _ => True) (.slice Ao83 t267.length co83) t290) ∧ Aside0 (wc.heap[gb238]? = some (.cells #[(.slice A0_0 l0_0.length c0_0), .bool a0_1, .int .i64 a0_2, (.slice A0_3 l0_3.length c0_3)] 25 (0, 0))) ∧ Aside0 (Below w.heap.size w wc))
             case first =>
              have H := HC82.out
              clear HC82
              replace H := Option.bind_eq_some_iff.mp H
              obtain ⟨t307, A920, H⟩ := H
              replace H : (if t307 = true then (laws_FnExactTreeNext.j2 kj52 t290 t289 (t306 != t254)) else (laws_FnExactTreeNext.j2 kj52 t290 t289 true)) = some r := H
              have A92 := Aside0.mk A920
              clear A920
              by_cases c93 : t307 = true
              ·subst c93
               have H1 : (laws_FnExactTreeNext.j2 kj52 t290 t289 (t306 != t254)) = some r := by rw [if_pos rfl] at H; exact H
               clear H
               have H := H1
               clear H1
               have H' := Aside0.mk H
               clear H
               obtain ⟨Ao94, co94, eo94⟩ := Kd.R_slice HO305.out
               subst eo94
               obtain ⟨Ao95, co95, eo95⟩ := Kd.R_slice HO_6.out
               subst eo95
               go_wp2_with (first | ((with_reducible refine gate_callee (f := 25) rfl ?_); refine gl_ (some 102) Try.func25 #[.slice Ao94 t303.length co94, .slice Ao95 t251.length co95] (h := ?_); (with_reducible refine (laws_eqByteS.calls kj52 _ _ t303 _ _ t251 true _ ?side1 ?side2 ?side3 ?side4 A92.out).mono ?_); (case side1 => repeat (first | exact (Kd.R_reads' HO305.out).2.2 | (with_reducible refine Kd.C_alloc ?_ _) | (with_reducible refine Kd.C_drewN ?_ _) | (with_reducible refine Kd.C_drew ?_))); (case side2 => exact (Kd.R_reads' HO305.out).2.1); (case side3 => repeat (first | exact (Kd.R_reads' HO_6.out).2.2 | (with_reducible refine Kd.C_alloc ?_ _) | (with_reducible refine Kd.C_drewN ?_ _) | (with_reducible refine Kd.C_drew ?_))); (case side4 => exact (Kd.R_reads' HO_6.out).2.1); rintro e w' ⟨rfl, ⟨nd, rfl⟩⟩; refine ⟨_, rfl, ?_⟩))
               go_meet
               case rel => exact ⟨_, ((t306 != t254)), (by first | rfl | (simp; done) | (simp [*]; done)), H', ⟨by have := HJ15.out; have := HJ52.out; first | omega | exact Nat.le_refl _⟩, ⟨by (with_reducible repeat (first | apply Kd.R_alloc | apply Kd.R_drewN | apply Kd.R_drew)); exact Kd.R_mono HO_10.out (fun _ hk => trivial)⟩, ⟨by (with_reducible repeat (first | refine blk_drewN ?_ _ | refine blk_drew ?_ | refine blk_alloc ?_ _)); exact BK238.out⟩, ⟨by repeat (first | (with_reducible first | exact HB.out | apply below_alloc | apply pw_below_drewN | apply below_drew1 | refine below_set ?_ GE238.out) | exact HB.out)⟩⟩
              ·replace c93 := Bool.eq_false_iff.mpr c93
               subst c93
               have H1 : (laws_FnExactTreeNext.j2 kj52 t290 t289 true) = some r := by rw [if_neg (show ¬ (false = true) by decide)] at H; exact H
               clear H
               have H := H1
               clear H1
               have H' := Aside0.mk H
               clear H
               obtain ⟨Ao96, co96, eo96⟩ := Kd.R_slice HO305.out
               subst eo96
               obtain ⟨Ao97, co97, eo97⟩ := Kd.R_slice HO_6.out
               subst eo97
               go_wp2_with (first | ((with_reducible refine gate_callee (f := 25) rfl ?_); refine gl_ (some 102) Try.func25 #[.slice Ao96 t303.length co96, .slice Ao97 t251.length co97] (h := ?_); (with_reducible refine (laws_eqByteS.calls kj52 _ _ t303 _ _ t251 false _ ?side1 ?side2 ?side3 ?side4 A92.out).mono ?_); (case side1 => repeat (first | exact (Kd.R_reads' HO305.out).2.2 | (with_reducible refine Kd.C_alloc ?_ _) | (with_reducible refine Kd.C_drewN ?_ _) | (with_reducible refine Kd.C_drew ?_))); (case side2 => exact (Kd.R_reads' HO305.out).2.1); (case side3 => repeat (first | exact (Kd.R_reads' HO_6.out).2.2 | (with_reducible refine Kd.C_alloc ?_ _) | (with_reducible refine Kd.C_drewN ?_ _) | (with_reducible refine Kd.C_drew ?_))); (case side4 => exact (Kd.R_reads' HO_6.out).2.1); rintro e w' ⟨rfl, ⟨nd, rfl⟩⟩; refine ⟨_, rfl, ?_⟩))
               go_meet
               case rel => exact ⟨_, (true), (by first | rfl | (simp; done) | (simp [*]; done)), H', ⟨by have := HJ15.out; have := HJ52.out; first | omega | exact Nat.le_refl _⟩, ⟨by (with_reducible repeat (first | apply Kd.R_alloc | apply Kd.R_drewN | apply Kd.R_drew)); exact Kd.R_mono HO_10.out (fun _ hk => trivial)⟩, ⟨by (with_reducible repeat (first | refine blk_drewN ?_ _ | refine blk_drew ?_ | refine blk_alloc ?_ _)); exact BK238.out⟩, ⟨by repeat (first | (with_reducible first | exact HB.out | apply below_alloc | apply pw_below_drewN | apply below_drew1 | refine below_set ?_ GE238.out) | exact HB.out)⟩⟩
             case rest =>
              clear HC82
              try clear c1; try clear c2; try clear p2; try clear c3; try clear c3b0; try clear c3b1; try clear c4; try clear c5; try clear c6; try clear c6b0; try clear c7; try clear c9; try clear c15; try clear c17; try clear c19; try clear c23; try clear c25; try clear c29; try clear c31; try clear c32; try clear c33; try clear c34; try clear c35; try clear c39; try clear c44; try clear c47; try clear c50; try clear c61; try clear c65; try clear c65b0; try clear c67; try clear c72; try clear c75; try clear c75b0; try clear c78; try clear c78b0; try clear c78b1; try clear c93; try clear hcz18_0; try clear hcz18_1; try clear hcz18_2; try clear hcz18_3; try clear hcz20_0; try clear hcz20_1; try clear hcz20_2; try clear hcz20_3; try clear hcz27_0; try clear hcz27_1; try clear hcz27_2; try clear hcz27_3; try clear hcz32_0; try clear hcz32_1; try clear hcz32_2; try clear hcz32_3; try clear hcz35_0; try clear hcz35_1; try clear hcz35_2; try clear hcz35_3; try clear hcz62_0; try clear hcz62_1; try clear hcz62_2; try clear hcz62_3; try clear hcz85_0; try clear hcz85_1; try clear hcz85_2; try clear hcz85_3; try clear hcz8_0; try clear hcz8_1; try clear hcz8_2; try clear hcz8_3; try clear hfz18_0; try clear hfz18_1; try clear hfz18_2; try clear hfz18_3; try clear hfz20_0; try clear hfz20_1; try clear hfz20_2; try clear hfz20_3; try clear hfz27_0; try clear hfz27_1; try clear hfz27_2; try clear hfz27_3; try clear hfz32_0; try clear hfz32_1; try clear hfz32_2; try clear hfz32_3; try clear hfz35_0; try clear hfz35_1; try clear hfz35_2; try clear hfz35_3; try clear hfz62_0; try clear hfz62_1; try clear hfz62_2; try clear hfz62_3; try clear hfz85_0; try clear hfz85_1; try clear hfz85_2; try clear hfz85_3; try clear hfz8_0; try clear hfz8_1; try clear hfz8_2; try clear hfz8_3; try clear p2
              obtain ⟨kq, x108_81, rfl, HA, HJ81, HO_10, BK238, HB⟩ := hcut
              have hl10_81 := (Kd.R_reads' HO_10.out).1
              rw [hl10_81] at HO_10
              (try simp only [hl10_81])
              (try simp only [hl10_81] at BK238)
              cases kq with
              | zero => exact absurd HA.out (by simp [laws_FnExactTreeNext.j2])
              | succ kj81 =>
               have H := HA.out
               clear HA
               simp only [laws_FnExactTreeNext.j2] at H
               by_cases c98 : x108_81 = true
               ·subst c98
                have H1 : (some false) = some r := by rw [if_pos rfl] at H; exact H
                clear H
                have H := H1
                clear H1
                obtain rfl := Option.some.inj H
                go_wp2
                go_ret
                exact ⟨by first | rfl | (simp [errW_none, errW_some] <;> rfl) | (simp [*, errW_none, errW_some] <;> rfl), by repeat (first | (with_reducible first | exact HB.out | apply below_alloc | apply pw_below_drewN | apply below_drew1 | refine below_set ?_ GE238.out) | exact HB.out)⟩
               ·replace c98 := Bool.eq_false_iff.mpr c98
                subst c98
                have H1 : ((laws_heldByteS.f kj81 t290 1).bind fun t308 => (if t308 < 0 then (some false) else (if t308 = t289 then (some true) else (some false)))) = some r := by rw [if_neg (show ¬ (false = true) by decide)] at H; exact H
                clear H
                have H := H1
                clear H1
                replace H := Option.bind_eq_some_iff.mp H
                obtain ⟨t308, A990, H⟩ := H
                replace H : (if t308 < 0 then (some false) else (if t308 = t289 then (some true) else (some false))) = some r := H
                have A99 := Aside0.mk A990
                clear A990
                by_cases c100 : t308 < 0
                ·rw [if_pos c100] at H
                 have c100b0 : decide (t308 < 0) = true := decide_eq_true c100
                 clear c100
                 obtain rfl := Option.some.inj H
                 go_wp2_with (first | ((with_reducible refine gate_callee (f := 35) rfl ?_); refine gl_ (some 111) Try.func35 #[.slice Ao83 t290.length co83, .int .i64 1] (h := ?_); (with_reducible refine (laws_heldByteS.calls kj81 _ _ t290 1 t308 _ ?side1 ?side2 A99.out).mono ?_); (case side1 => repeat (first | exact (Kd.R_reads' HO_10.out).2.2 | (with_reducible refine Kd.C_alloc ?_ _) | (with_reducible refine Kd.C_drewN ?_ _) | (with_reducible refine Kd.C_drew ?_))); (case side2 => exact (Kd.R_reads' HO_10.out).2.1); rintro e w' ⟨rfl, ⟨nd, rfl⟩⟩; refine ⟨_, rfl, ?_⟩))
                 go_ret
                 exact ⟨by first | rfl | (simp [errW_none, errW_some] <;> rfl) | (simp [*, errW_none, errW_some] <;> rfl), by repeat (first | (with_reducible first | exact HB.out | apply below_alloc | apply pw_below_drewN | apply below_drew1 | refine below_set ?_ GE238.out) | exact HB.out)⟩
                ·rw [if_neg c100] at H
                 have c100b0 : decide (t308 < 0) = false := decide_eq_false c100
                 clear c100
                 by_cases c101 : t308 = t289
                 ·rw [if_pos c101] at H
                  have c101b0 : (t308 == t289) = true := beq_iff_eq.mpr c101
                  have c101b1 : (t308 != t289) = false := bne_eq_false_iff_eq.mpr c101
                  clear c101
                  obtain rfl := Option.some.inj H
                  go_wp2_with (first | ((with_reducible refine gate_callee (f := 35) rfl ?_); refine gl_ (some 111) Try.func35 #[.slice Ao83 t290.length co83, .int .i64 1] (h := ?_); (with_reducible refine (laws_heldByteS.calls kj81 _ _ t290 1 t308 _ ?side1 ?side2 A99.out).mono ?_); (case side1 => repeat (first | exact (Kd.R_reads' HO_10.out).2.2 | (with_reducible refine Kd.C_alloc ?_ _) | (with_reducible refine Kd.C_drewN ?_ _) | (with_reducible refine Kd.C_drew ?_))); (case side2 => exact (Kd.R_reads' HO_10.out).2.1); rintro e w' ⟨rfl, ⟨nd, rfl⟩⟩; refine ⟨_, rfl, ?_⟩))
                  go_ret
                  exact ⟨by first | rfl | (simp [errW_none, errW_some] <;> rfl) | (simp [*, errW_none, errW_some] <;> rfl), by repeat (first | (with_reducible first | exact HB.out | apply below_alloc | apply pw_below_drewN | apply below_drew1 | refine below_set ?_ GE238.out) | exact HB.out)⟩
                 ·rw [if_neg c101] at H
                  have c101b0 : (t308 == t289) = false := beq_eq_false_iff_ne.mpr c101
                  have c101b1 : (t308 != t289) = true := bne_iff_ne.mpr c101
                  obtain rfl := Option.some.inj H
                  go_wp2_with (first | ((with_reducible refine gate_callee (f := 35) rfl ?_); refine gl_ (some 111) Try.func35 #[.slice Ao83 t290.length co83, .int .i64 1] (h := ?_); (with_reducible refine (laws_heldByteS.calls kj81 _ _ t290 1 t308 _ ?side1 ?side2 A99.out).mono ?_); (case side1 => repeat (first | exact (Kd.R_reads' HO_10.out).2.2 | (with_reducible refine Kd.C_alloc ?_ _) | (with_reducible refine Kd.C_drewN ?_ _) | (with_reducible refine Kd.C_drew ?_))); (case side2 => exact (Kd.R_reads' HO_10.out).2.1); rintro e w' ⟨rfl, ⟨nd, rfl⟩⟩; refine ⟨_, rfl, ?_⟩))
                  go_ret
                  exact ⟨by first | rfl | (simp [errW_none, errW_some] <;> rfl) | (simp [*, errW_none, errW_some] <;> rfl), by repeat (first | (with_reducible first | exact HB.out | apply below_alloc | apply pw_below_drewN | apply below_drew1 | refine below_set ?_ GE238.out) | exact HB.out)⟩
            ·rw [if_neg c78] at H
             have c78b0 : (t291 == t289) = false := beq_eq_false_iff_ne.mpr c78
             have c78b1 : (t291 != t289) = true := bne_iff_ne.mpr c78
             obtain rfl := Option.some.inj H
             obtain ⟨Ao102, co102, eo102⟩ := Kd.R_slice HO_10.out
             subst eo102
             go_wp2_with (first | ((with_reducible refine gate_callee (f := 34) rfl ?_); refine gl_ (some 83) Try.func34 #[.slice Ao102 t267.length co102, .int .i64 1] (h := ?_); (with_reducible refine (laws_markByteS.calls kj52 (fun k_ => some k_ = (.slice Ao102 t267.length co102 : Value).ownBlock) (.slice Ao102 t267.length co102) t267 1 t289 t290 w _ ?side1 ?side2 A73.out).mono ?_); (case side1 => repeat (first | (with_reducible first | exact HB.out | apply below_alloc | apply pw_below_drewN | apply below_drew1 | refine below_set ?_ GE238.out) | exact HB.out)); (case side2 => exact Kd.R_tight rfl HO_10.out); rintro e w103 ⟨rfl, hy0, hb, hkp⟩; refine ⟨_, rfl, ?_⟩; replace HO_6 := Aside0.mk (Kd.R_mono (ok' := fun k_ => some k_ ≠ (.slice Ao102 t267.length co102 : Value).ownBlock) (Kd.R_keptB (HO_6.out) hkp (fun k_ hk_ hs_ => (hk_) hs_)) (fun k_ hk_ => hk_.1)); replace BK238 := Aside0.mk (blk_kept (by (with_reducible repeat (first | refine blk_drewN ?_ _ | refine blk_drew ?_ | refine blk_alloc ?_ _)); exact BK238.out) hkp (fun hs_ => (fun e_ => (Kd.R_ne HO_10.out BK238.out (by decide)) e_) hs_)); replace HO_10 := Aside0.mk (Kd.R_reok rfl hy0 (fun k_ e_ => HO_10.out.1 k_ e_)); replace HB := Aside0.mk (hb); (try clear hb); (try clear hkp); (try clear hy0)) | ((with_reducible refine gate_callee (f := 35) rfl ?_); refine goesL_ (some 86) rfl rfl Try.func35 (by kernel_rfl) rfl #[.slice Ao102 t290.length co102, .int .i64 1] rfl (by (try simp only [List.map_toArray, List.map_cons, List.map_nil]); first | done | (rw [show t290.length = t267.length from (Kd.R_reads' HO_10.out).1.symm] <;> rfl) | rfl | (simp only [List.length_drop, List.length_take]; rfl)) ?_; (with_reducible refine (laws_heldByteS.calls kj52 _ _ t290 1 t291 _ ?side1 ?side2 A74.out).mono ?_); (case side1 => repeat (first | exact (Kd.R_reads' HO_10.out).2.2 | (with_reducible refine Kd.C_alloc ?_ _) | (with_reducible refine Kd.C_drewN ?_ _) | (with_reducible refine Kd.C_drew ?_))); (case side2 => rw [show t290.length = t267.length from (Kd.R_reads' HO_10.out).1.symm]; exact (Kd.R_reads' HO_10.out).2.1); rintro e w' ⟨rfl, ⟨nd, rfl⟩⟩; refine ⟨_, rfl, ?_⟩))
             go_ret
             exact ⟨by first | rfl | (simp [errW_none, errW_some] <;> rfl) | (simp [*, errW_none, errW_some] <;> rfl), by repeat (first | (with_reducible first | exact HB.out | apply below_alloc | apply pw_below_drewN | apply below_drew1 | refine below_set ?_ GE238.out) | exact HB.out)⟩
       ·replace c50 := Bool.eq_false_iff.mpr c50
        subst c50
        have H1 : (some false) = some r := by rw [if_neg (show ¬ (false = true) by decide)] at H; exact H
        clear H
        have H := H1
        clear H1
        obtain rfl := Option.some.inj H
        try go_wp2
        replace HO_6 := Aside0.mk (Kd.R_drew HO_6.out)
        replace HO_9 := Aside0.mk (Kd.R_drew HO_9.out)
        replace HO_10 := Aside0.mk (Kd.R_drew HO_10.out)
        replace HO_264000 := Aside0.mk (Kd.R_drew HO_264000.out)
        replace HO_264003 := Aside0.mk (Kd.R_drew HO_264003.out)
        replace BK238 := Aside0.mk (blk_drew BK238.out)
        replace BK263 := Aside0.mk (blk_drew BK263.out)
        replace HB := Aside0.mk (below_drew1 HB.out)
        refine start_ (n := 5) (S := fun w' => w'.cell? ⟨gb263, 0, none⟩ = some (.slice Ao30 t255.length co30) ∧ w'.cell? ⟨gb263, 1, none⟩ = some (.bool t258) ∧ w'.cell? ⟨gb263, 2, none⟩ = some (.int .i64 t259) ∧ w'.cell? ⟨gb263, 3, none⟩ = some (.slice Ao33 t260.length co33) ∧ w'.cell? ⟨gb238, 0, none⟩ = some (.slice A0_0 l0_0.length c0_0) ∧ w'.cell? ⟨gb238, 1, none⟩ = some (.bool a0_1) ∧ w'.cell? ⟨gb238, 2, none⟩ = some (.int .i64 a0_2) ∧ w'.cell? ⟨gb238, 3, none⟩ = some (.slice A0_3 l0_3.length c0_3)) (ds := []) #[false, false, false, false, false] (by kernel_rfl) rfl rfl (cells_4 BK263.out ⟨(blk_cell BK238.out 0).trans rfl, (blk_cell BK238.out 1).trans rfl, (blk_cell BK238.out 2).trans rfl, (blk_cell BK238.out 3).trans rfl⟩) (fun hHeld => ?_)
        generalize wc.drew = w104 at HO_6 HO_9 HO_10 HO_264000 HO_264003 BK238 BK263 HB hHeld ⊢
        refine take_ (i := 0) (N := some 52) (v := ?_) (a' := ?_) #[true, false, false, false, false] rfl rfl (by kernel_rfl) (fun _ _ _ h => h) (Or.inl ⟨by rfl, ?_⟩) hHeld ?_ ?_
        rotate_left
        ·rintro w' ⟨s0, s1, s2, s3, s4, s5, s6, s7⟩
         go_simp
         with_reducible rfl
        rotate_left
        ·simp only [Act.put, List.setIfInBounds_toArray, List.set_cons_zero, List.set_cons_succ, i64_w, i32_w]
         rfl
        refine take_ (i := 1) (N := some 53) (v := ?_) (a' := ?_) #[true, true, false, false, false] rfl rfl (by kernel_rfl) (fun _ _ _ h => h) (Or.inl ⟨by rfl, ?_⟩) hHeld ?_ ?_
        rotate_left
        ·rintro w' ⟨s0, s1, s2, s3, s4, s5, s6, s7⟩
         go_simp
         with_reducible rfl
        rotate_left
        ·simp only [Act.put, List.setIfInBounds_toArray, List.set_cons_zero, List.set_cons_succ, i64_w, i32_w]
         rfl
        refine one_ (i := 2) (N := some 54) #[true, true, true, false, false] rfl rfl (by kernel_rfl) (by decide) (fun K hK => ?_)
        refine gs_ Try.func17 #[.agg #[.slice A0_0 l0_0.length c0_0, .bool a0_1, .int .i64 a0_2, .slice A0_3 l0_3.length c0_3]] (h := ?_)
        with_reducible refine (laws_toTree.calls kj15 _ _ l0_0 a0_1 a0_2 _ _ l0_3 t272 t275 t276 t277 _ ?side1 ?side2 ?side3 ?side4 A45.out).mono ?_
        (case side1 => exact kcb)
        (case side2 => exact HC0_0.out)
        (case side3 => exact kcb)
        (case side4 => exact HC0_3.out)
        rintro e w105 ⟨v273, v278, rfl, ho0, ho1, hb⟩
        refine ⟨_, rfl, ?_⟩
        have HO274 := Aside0.mk (Kd.R_lower (Kd.R_new' (Kd.R_new' (Kd.R_new' (Kd.R_new' ho0 (Kd.R_lt (by (with_reducible repeat (first | apply Kd.R_alloc | apply Kd.R_drewN | apply Kd.R_drew)); exact HO_6.out))) (Kd.R_lt (by (with_reducible repeat (first | apply Kd.R_alloc | apply Kd.R_drewN | apply Kd.R_drew)); exact HO_9.out))) (Kd.R_lt (by (with_reducible repeat (first | apply Kd.R_alloc | apply Kd.R_drewN | apply Kd.R_drew)); exact HO_10.out))) (Kd.R_lt (by (with_reducible repeat (first | apply Kd.R_alloc | apply Kd.R_drewN | apply Kd.R_drew)); exact HO_264000.out))) (below_size bel))
        have HO279 := Aside0.mk (Kd.R_lower (Kd.R_newB (Kd.R_new' (Kd.R_new' (Kd.R_new' (Kd.R_new' (Kd.R_new' ho1 (Kd.R_lt (by (with_reducible repeat (first | apply Kd.R_alloc | apply Kd.R_drewN | apply Kd.R_drew)); exact HO_6.out))) (Kd.R_lt (by (with_reducible repeat (first | apply Kd.R_alloc | apply Kd.R_drewN | apply Kd.R_drew)); exact HO_9.out))) (Kd.R_lt (by (with_reducible repeat (first | apply Kd.R_alloc | apply Kd.R_drewN | apply Kd.R_drew)); exact HO_10.out))) (Kd.R_lt (by (with_reducible repeat (first | apply Kd.R_alloc | apply Kd.R_drewN | apply Kd.R_drew)); exact HO_264000.out))) (Kd.R_lt (by (with_reducible repeat (first | apply Kd.R_alloc | apply Kd.R_drewN | apply Kd.R_drew)); exact HO_264003.out))) (g := gb263) (o := .cells #[.slice Ao30 t255.length co30, .bool t258, .int .i64 t259, .slice Ao33 t260.length co33] 30 (0, 0)) (by (with_reducible repeat (first | refine blk_drewN ?_ _ | refine blk_drew ?_ | refine blk_alloc ?_ _)); exact BK263.out)) (below_size bel))
        replace HO_6 := Aside0.mk (Kd.R_elder' (by (with_reducible repeat (first | apply Kd.R_alloc | apply Kd.R_drewN | apply Kd.R_drew)); exact HO_6.out) (Kd.R_base ho0) hb)
        replace HO_9 := Aside0.mk (Kd.R_elder' (by (with_reducible repeat (first | apply Kd.R_alloc | apply Kd.R_drewN | apply Kd.R_drew)); exact HO_9.out) (Kd.R_base ho0) hb)
        replace HO_10 := Aside0.mk (Kd.R_elder' (by (with_reducible repeat (first | apply Kd.R_alloc | apply Kd.R_drewN | apply Kd.R_drew)); exact HO_10.out) (Kd.R_base ho0) hb)
        replace HO_264000 := Aside0.mk (Kd.R_elder' (by (with_reducible repeat (first | apply Kd.R_alloc | apply Kd.R_drewN | apply Kd.R_drew)); exact HO_264000.out) (Kd.R_base ho0) hb)
        replace HO_264003 := Aside0.mk (Kd.R_mono (Kd.R_told (Kd.R_told (Kd.R_old (by (with_reducible repeat (first | apply Kd.R_alloc | apply Kd.R_drewN | apply Kd.R_drew)); exact HO_264003.out) hb) (Kd.R_base ho0)) (Kd.R_base ho1)) (fun _ h_ => h_.1))
        replace BK238 := Aside0.mk (blb BK238 hb)
        replace BK263 := Aside0.mk (blb BK263 hb)
        replace HB := Aside0.mk (below_step bel hb)
        (try clear hb)
        (try clear hb2)
        (try clear hk)
        (try clear hi)
        (try clear ho0)
        (try clear ho1)
        obtain ⟨Ao106, co106, eo106⟩ := Kd.R_slice HO274.out
        (first | subst eo106 | (injection eo106 with f1_ f2_ f3_; have f4_ := f1_.symm; have f5_ := f3_.symm; clear f1_ f2_ f3_; subst f4_; subst f5_))
        obtain ⟨Ao107, co107, eo107⟩ := Kd.R_slice HO279.out
        (first | subst eo107 | (injection eo107 with f1_ f2_ f3_; have f4_ := f1_.symm; have f5_ := f3_.symm; clear f1_ f2_ f3_; subst f4_; subst f5_))
        refine hK.out _ _ (cells_4 BK263.out ⟨(blk_cell BK238.out 0).trans rfl, (blk_cell BK238.out 1).trans rfl, (blk_cell BK238.out 2).trans rfl, (blk_cell BK238.out 3).trans rfl⟩) (fun hHeld => ?_)
        clear hK K
        refine norm_ (a' := ?_) ?_ ?_
        rotate_left
        ·show Act.put _ (some 54) _ = _
         simp only [Act.put, List.setIfInBounds_toArray, List.set_cons_zero, List.set_cons_succ, i64_w, i32_w]
         rfl
        refine one_ (i := 3) (N := some 55) #[true, true, true, true, false] rfl rfl (by kernel_rfl) (by decide) (fun K hK => ?_)
        refine gs_ Try.func19 #[.agg #[.slice Ao30 t255.length co30, .bool t258, .int .i64 t259, .slice Ao33 t260.length co33], .agg #[.slice Ao106 t272.length co106, .bool t275, .int .i64 t276, .slice Ao107 t277.length co107]] (h := ?_)
        with_reducible refine (laws_eqTree.calls kj15 _ _ t255 t258 t259 _ _ t260 _ _ t272 t275 t276 _ _ t277 true _ ?side1 ?side2 ?side3 ?side4 ?side5 ?side6 ?side7 ?side8 A46.out).mono ?_
        (case side1 => repeat (first | exact (Kd.R_reads' HO_264000.out).2.2 | (with_reducible refine Kd.C_alloc ?_ _) | (with_reducible refine Kd.C_drewN ?_ _) | (with_reducible refine Kd.C_drew ?_)))
        (case side2 => exact (Kd.R_reads' HO_264000.out).2.1)
        (case side3 => repeat (first | exact (Kd.R_reads' HO_264003.out).2.2 | (with_reducible refine Kd.C_alloc ?_ _) | (with_reducible refine Kd.C_drewN ?_ _) | (with_reducible refine Kd.C_drew ?_)))
        (case side4 => exact (Kd.R_reads' HO_264003.out).2.1)
        (case side5 => repeat (first | exact (Kd.R_reads' HO274.out).2.2 | (with_reducible refine Kd.C_alloc ?_ _) | (with_reducible refine Kd.C_drewN ?_ _) | (with_reducible refine Kd.C_drew ?_)))
        (case side6 => exact (Kd.R_reads' HO274.out).2.1)
        (case side7 => repeat (first | exact (Kd.R_reads' HO279.out).2.2 | (with_reducible refine Kd.C_alloc ?_ _) | (with_reducible refine Kd.C_drewN ?_ _) | (with_reducible refine Kd.C_drew ?_)))
        (case side8 => exact (Kd.R_reads' HO279.out).2.1)
        rintro e w108 ⟨rfl, hb⟩
        refine ⟨_, rfl, ?_⟩
        replace HO_6 := Aside0.mk (rbl HO_6 hb)
        replace HO_9 := Aside0.mk (rbl HO_9 hb)
        replace HO_10 := Aside0.mk (rbl HO_10 hb)
        replace HO_264000 := Aside0.mk (rbl HO_264000 hb)
        replace HO_264003 := Aside0.mk (rbl HO_264003 hb)
        replace HO274 := Aside0.mk (rbl HO274 hb)
        replace HO279 := Aside0.mk (rbl HO279 hb)
        replace BK238 := Aside0.mk (blb BK238 hb)
        replace BK263 := Aside0.mk (blb BK263 hb)
        replace HB := Aside0.mk (below_step bel hb)
        (try clear hb)
        (try clear hb2)
        (try clear hk)
        (try clear hi)
        refine hK.out _ _ (cells_4 BK263.out ⟨(blk_cell BK238.out 0).trans rfl, (blk_cell BK238.out 1).trans rfl, (blk_cell BK238.out 2).trans rfl, (blk_cell BK238.out 3).trans rfl⟩) (fun hHeld => ?_)
        clear hK K
        refine norm_ (a' := ?_) ?_ ?_
        rotate_left
        ·show Act.put _ (some 55) _ = _
         simp only [Act.put, List.setIfInBounds_toArray, List.set_cons_zero, List.set_cons_succ, i64_w, i32_w]
         rfl
        refine pure_ (i := 4) (N := some 56) (v := ?_) (a' := ?_) #[true, true, true, true, true] rfl rfl (by kernel_rfl) (fun _ _ _ h => h) (Or.inl ⟨by rfl, ?_⟩) ?_ ?_
        rotate_left
        ·intro w'
         go_simp
         with_reducible rfl
        rotate_left
        ·simp only [Act.put, List.setIfInBounds_toArray, List.set_cons_zero, List.set_cons_succ, i64_w, i32_w]
         rfl
        refine done_ (by kernel_rfl) ?_
        try go_wp2_with (first | ((with_reducible refine gate_callee (f := 23) rfl ?_); refine gl_ (some 59) Try.func23 #[.slice A1 l1.length c1] (h := ?_); (with_reducible refine (laws_toByteS.calls kj15 _ _ l1 t281 _ ?side1 ?side2 A48.out).mono ?_); (case side1 => exact kcb); (case side2 => exact HC1.out); rintro e w109 ⟨v282, rfl, ho0, hb⟩; refine ⟨_, rfl, ?_⟩; have HO283 := Aside0.mk (Kd.R_lower (Kd.R_new' (Kd.R_new' (Kd.R_new' (Kd.R_new' (Kd.R_new' ho0 (Kd.R_lt (by (with_reducible repeat (first | apply Kd.R_alloc | apply Kd.R_drewN | apply Kd.R_drew)); exact HO_6.out))) (Kd.R_lt (by (with_reducible repeat (first | apply Kd.R_alloc | apply Kd.R_drewN | apply Kd.R_drew)); exact HO_9.out))) (Kd.R_lt (by (with_reducible repeat (first | apply Kd.R_alloc | apply Kd.R_drewN | apply Kd.R_drew)); exact HO_10.out))) (Kd.R_lt (by (with_reducible repeat (first | apply Kd.R_alloc | apply Kd.R_drewN | apply Kd.R_drew)); exact HO_264000.out))) (Kd.R_lt (by (with_reducible repeat (first | apply Kd.R_alloc | apply Kd.R_drewN | apply Kd.R_drew)); exact HO274.out))) (below_size bel)); replace HO_6 := Aside0.mk (Kd.R_elder' (by (with_reducible repeat (first | apply Kd.R_alloc | apply Kd.R_drewN | apply Kd.R_drew)); exact HO_6.out) (Kd.R_base ho0) hb); replace HO_9 := Aside0.mk (Kd.R_elder' (by (with_reducible repeat (first | apply Kd.R_alloc | apply Kd.R_drewN | apply Kd.R_drew)); exact HO_9.out) (Kd.R_base ho0) hb); replace HO_10 := Aside0.mk (Kd.R_elder' (by (with_reducible repeat (first | apply Kd.R_alloc | apply Kd.R_drewN | apply Kd.R_drew)); exact HO_10.out) (Kd.R_base ho0) hb); replace HO_264000 := Aside0.mk (Kd.R_elder' (by (with_reducible repeat (first | apply Kd.R_alloc | apply Kd.R_drewN | apply Kd.R_drew)); exact HO_264000.out) (Kd.R_base ho0) hb); replace HO_264003 := Aside0.mk (Kd.R_elder' (by (with_reducible repeat (first | apply Kd.R_alloc | apply Kd.R_drewN | apply Kd.R_drew)); exact HO_264003.out) (Kd.R_base ho0) hb); replace HO274 := Aside0.mk (Kd.R_elder' (by (with_reducible repeat (first | apply Kd.R_alloc | apply Kd.R_drewN | apply Kd.R_drew)); exact HO274.out) (Kd.R_base ho0) hb); replace HO279 := Aside0.mk (Kd.R_elder' (by (with_reducible repeat (first | apply Kd.R_alloc | apply Kd.R_drewN | apply Kd.R_drew)); exact HO279.out) (Kd.R_base ho0) hb); replace BK238 := Aside0.mk (blb BK238 hb); replace BK263 := Aside0.mk (blb BK263 hb); replace HB := Aside0.mk (below_step bel hb); (try clear hb); (try clear hb2); (try clear hk); (try clear hi); (try clear ho0); obtain ⟨Ao110, co110, eo110⟩ := Kd.R_slice HO283.out; subst eo110) | ((with_reducible refine gate_callee (f := 25) rfl ?_); refine gl_ (some 60) Try.func25 #[.slice Ao36 t264.length co36, .slice Ao110 t281.length co110] (h := ?_); (with_reducible refine (laws_eqByteS.calls kj15 _ _ t264 _ _ t281 false _ ?side1 ?side2 ?side3 ?side4 A49.out).mono ?_); (case side1 => repeat (first | exact (Kd.R_reads' HO_9.out).2.2 | (with_reducible refine Kd.C_alloc ?_ _) | (with_reducible refine Kd.C_drewN ?_ _) | (with_reducible refine Kd.C_drew ?_))); (case side2 => exact (Kd.R_reads' HO_9.out).2.1); (case side3 => repeat (first | exact (Kd.R_reads' HO283.out).2.2 | (with_reducible refine Kd.C_alloc ?_ _) | (with_reducible refine Kd.C_drewN ?_ _) | (with_reducible refine Kd.C_drew ?_))); (case side4 => exact (Kd.R_reads' HO283.out).2.1); rintro e w' ⟨rfl, ⟨nd, rfl⟩⟩; refine ⟨_, rfl, ?_⟩))
        go_ret
        exact ⟨by first | rfl | (simp [errW_none, errW_some] <;> rfl) | (simp [*, errW_none, errW_some] <;> rfl), by repeat (first | (with_reducible first | exact HB.out | apply below_alloc | apply pw_below_drewN | apply below_drew1 | refine below_set ?_ GE238.out | refine below_set ?_ GE263.out) | exact HB.out)⟩
      ·replace c47 := Bool.eq_false_iff.mpr c47
       subst c47
       have H1 : (some false) = some r := by rw [if_neg (show ¬ (false = true) by decide)] at H; exact H
       clear H
       have H := H1
       clear H1
       obtain rfl := Option.some.inj H
       try go_wp2
       replace HO_6 := Aside0.mk (Kd.R_drew HO_6.out)
       replace HO_9 := Aside0.mk (Kd.R_drew HO_9.out)
       replace HO_10 := Aside0.mk (Kd.R_drew HO_10.out)
       replace HO_264000 := Aside0.mk (Kd.R_drew HO_264000.out)
       replace HO_264003 := Aside0.mk (Kd.R_drew HO_264003.out)
       replace BK238 := Aside0.mk (blk_drew BK238.out)
       replace BK263 := Aside0.mk (blk_drew BK263.out)
       replace HB := Aside0.mk (below_drew1 HB.out)
       refine start_ (n := 5) (S := fun w' => w'.cell? ⟨gb263, 0, none⟩ = some (.slice Ao30 t255.length co30) ∧ w'.cell? ⟨gb263, 1, none⟩ = some (.bool t258) ∧ w'.cell? ⟨gb263, 2, none⟩ = some (.int .i64 t259) ∧ w'.cell? ⟨gb263, 3, none⟩ = some (.slice Ao33 t260.length co33) ∧ w'.cell? ⟨gb238, 0, none⟩ = some (.slice A0_0 l0_0.length c0_0) ∧ w'.cell? ⟨gb238, 1, none⟩ = some (.bool a0_1) ∧ w'.cell? ⟨gb238, 2, none⟩ = some (.int .i64 a0_2) ∧ w'.cell? ⟨gb238, 3, none⟩ = some (.slice A0_3 l0_3.length c0_3)) (ds := []) #[false, false, false, false, false] (by kernel_rfl) rfl rfl (cells_4 BK263.out ⟨(blk_cell BK238.out 0).trans rfl, (blk_cell BK238.out 1).trans rfl, (blk_cell BK238.out 2).trans rfl, (blk_cell BK238.out 3).trans rfl⟩) (fun hHeld => ?_)
       generalize wc.drew = w111 at HO_6 HO_9 HO_10 HO_264000 HO_264003 BK238 BK263 HB hHeld ⊢
       refine take_ (i := 0) (N := some 52) (v := ?_) (a' := ?_) #[true, false, false, false, false] rfl rfl (by kernel_rfl) (fun _ _ _ h => h) (Or.inl ⟨by rfl, ?_⟩) hHeld ?_ ?_
       rotate_left
       ·rintro w' ⟨s0, s1, s2, s3, s4, s5, s6, s7⟩
        go_simp
        with_reducible rfl
       rotate_left
       ·simp only [Act.put, List.setIfInBounds_toArray, List.set_cons_zero, List.set_cons_succ, i64_w, i32_w]
        rfl
       refine take_ (i := 1) (N := some 53) (v := ?_) (a' := ?_) #[true, true, false, false, false] rfl rfl (by kernel_rfl) (fun _ _ _ h => h) (Or.inl ⟨by rfl, ?_⟩) hHeld ?_ ?_
       rotate_left
       ·rintro w' ⟨s0, s1, s2, s3, s4, s5, s6, s7⟩
        go_simp
        with_reducible rfl
       rotate_left
       ·simp only [Act.put, List.setIfInBounds_toArray, List.set_cons_zero, List.set_cons_succ, i64_w, i32_w]
        rfl
       refine one_ (i := 2) (N := some 54) #[true, true, true, false, false] rfl rfl (by kernel_rfl) (by decide) (fun K hK => ?_)
       refine gs_ Try.func17 #[.agg #[.slice A0_0 l0_0.length c0_0, .bool a0_1, .int .i64 a0_2, .slice A0_3 l0_3.length c0_3]] (h := ?_)
       with_reducible refine (laws_toTree.calls kj15 _ _ l0_0 a0_1 a0_2 _ _ l0_3 t272 t275 t276 t277 _ ?side1 ?side2 ?side3 ?side4 A45.out).mono ?_
       (case side1 => exact kcb)
       (case side2 => exact HC0_0.out)
       (case side3 => exact kcb)
       (case side4 => exact HC0_3.out)
       rintro e w112 ⟨v273, v278, rfl, ho0, ho1, hb⟩
       refine ⟨_, rfl, ?_⟩
       have HO274 := Aside0.mk (Kd.R_lower (Kd.R_new' (Kd.R_new' (Kd.R_new' (Kd.R_new' ho0 (Kd.R_lt (by (with_reducible repeat (first | apply Kd.R_alloc | apply Kd.R_drewN | apply Kd.R_drew)); exact HO_6.out))) (Kd.R_lt (by (with_reducible repeat (first | apply Kd.R_alloc | apply Kd.R_drewN | apply Kd.R_drew)); exact HO_9.out))) (Kd.R_lt (by (with_reducible repeat (first | apply Kd.R_alloc | apply Kd.R_drewN | apply Kd.R_drew)); exact HO_10.out))) (Kd.R_lt (by (with_reducible repeat (first | apply Kd.R_alloc | apply Kd.R_drewN | apply Kd.R_drew)); exact HO_264000.out))) (below_size bel))
       have HO279 := Aside0.mk (Kd.R_lower (Kd.R_newB (Kd.R_new' (Kd.R_new' (Kd.R_new' (Kd.R_new' (Kd.R_new' ho1 (Kd.R_lt (by (with_reducible repeat (first | apply Kd.R_alloc | apply Kd.R_drewN | apply Kd.R_drew)); exact HO_6.out))) (Kd.R_lt (by (with_reducible repeat (first | apply Kd.R_alloc | apply Kd.R_drewN | apply Kd.R_drew)); exact HO_9.out))) (Kd.R_lt (by (with_reducible repeat (first | apply Kd.R_alloc | apply Kd.R_drewN | apply Kd.R_drew)); exact HO_10.out))) (Kd.R_lt (by (with_reducible repeat (first | apply Kd.R_alloc | apply Kd.R_drewN | apply Kd.R_drew)); exact HO_264000.out))) (Kd.R_lt (by (with_reducible repeat (first | apply Kd.R_alloc | apply Kd.R_drewN | apply Kd.R_drew)); exact HO_264003.out))) (g := gb263) (o := .cells #[.slice Ao30 t255.length co30, .bool t258, .int .i64 t259, .slice Ao33 t260.length co33] 30 (0, 0)) (by (with_reducible repeat (first | refine blk_drewN ?_ _ | refine blk_drew ?_ | refine blk_alloc ?_ _)); exact BK263.out)) (below_size bel))
       replace HO_6 := Aside0.mk (Kd.R_elder' (by (with_reducible repeat (first | apply Kd.R_alloc | apply Kd.R_drewN | apply Kd.R_drew)); exact HO_6.out) (Kd.R_base ho0) hb)
       replace HO_9 := Aside0.mk (Kd.R_elder' (by (with_reducible repeat (first | apply Kd.R_alloc | apply Kd.R_drewN | apply Kd.R_drew)); exact HO_9.out) (Kd.R_base ho0) hb)
       replace HO_10 := Aside0.mk (Kd.R_elder' (by (with_reducible repeat (first | apply Kd.R_alloc | apply Kd.R_drewN | apply Kd.R_drew)); exact HO_10.out) (Kd.R_base ho0) hb)
       replace HO_264000 := Aside0.mk (Kd.R_elder' (by (with_reducible repeat (first | apply Kd.R_alloc | apply Kd.R_drewN | apply Kd.R_drew)); exact HO_264000.out) (Kd.R_base ho0) hb)
       replace HO_264003 := Aside0.mk (Kd.R_mono (Kd.R_told (Kd.R_told (Kd.R_old (by (with_reducible repeat (first | apply Kd.R_alloc | apply Kd.R_drewN | apply Kd.R_drew)); exact HO_264003.out) hb) (Kd.R_base ho0)) (Kd.R_base ho1)) (fun _ h_ => h_.1))
       replace BK238 := Aside0.mk (blb BK238 hb)
       replace BK263 := Aside0.mk (blb BK263 hb)
       replace HB := Aside0.mk (below_step bel hb)
       (try clear hb)
       (try clear hb2)
       (try clear hk)
       (try clear hi)
       (try clear ho0)
       (try clear ho1)
       obtain ⟨Ao113, co113, eo113⟩ := Kd.R_slice HO274.out
       (first | subst eo113 | (injection eo113 with f1_ f2_ f3_; have f4_ := f1_.symm; have f5_ := f3_.symm; clear f1_ f2_ f3_; subst f4_; subst f5_))
       obtain ⟨Ao114, co114, eo114⟩ := Kd.R_slice HO279.out
       (first | subst eo114 | (injection eo114 with f1_ f2_ f3_; have f4_ := f1_.symm; have f5_ := f3_.symm; clear f1_ f2_ f3_; subst f4_; subst f5_))
       refine hK.out _ _ (cells_4 BK263.out ⟨(blk_cell BK238.out 0).trans rfl, (blk_cell BK238.out 1).trans rfl, (blk_cell BK238.out 2).trans rfl, (blk_cell BK238.out 3).trans rfl⟩) (fun hHeld => ?_)
       clear hK K
       refine norm_ (a' := ?_) ?_ ?_
       rotate_left
       ·show Act.put _ (some 54) _ = _
        simp only [Act.put, List.setIfInBounds_toArray, List.set_cons_zero, List.set_cons_succ, i64_w, i32_w]
        rfl
       refine one_ (i := 3) (N := some 55) #[true, true, true, true, false] rfl rfl (by kernel_rfl) (by decide) (fun K hK => ?_)
       refine gs_ Try.func19 #[.agg #[.slice Ao30 t255.length co30, .bool t258, .int .i64 t259, .slice Ao33 t260.length co33], .agg #[.slice Ao113 t272.length co113, .bool t275, .int .i64 t276, .slice Ao114 t277.length co114]] (h := ?_)
       with_reducible refine (laws_eqTree.calls kj15 _ _ t255 t258 t259 _ _ t260 _ _ t272 t275 t276 _ _ t277 false _ ?side1 ?side2 ?side3 ?side4 ?side5 ?side6 ?side7 ?side8 A46.out).mono ?_
       (case side1 => repeat (first | exact (Kd.R_reads' HO_264000.out).2.2 | (with_reducible refine Kd.C_alloc ?_ _) | (with_reducible refine Kd.C_drewN ?_ _) | (with_reducible refine Kd.C_drew ?_)))
       (case side2 => exact (Kd.R_reads' HO_264000.out).2.1)
       (case side3 => repeat (first | exact (Kd.R_reads' HO_264003.out).2.2 | (with_reducible refine Kd.C_alloc ?_ _) | (with_reducible refine Kd.C_drewN ?_ _) | (with_reducible refine Kd.C_drew ?_)))
       (case side4 => exact (Kd.R_reads' HO_264003.out).2.1)
       (case side5 => repeat (first | exact (Kd.R_reads' HO274.out).2.2 | (with_reducible refine Kd.C_alloc ?_ _) | (with_reducible refine Kd.C_drewN ?_ _) | (with_reducible refine Kd.C_drew ?_)))
       (case side6 => exact (Kd.R_reads' HO274.out).2.1)
       (case side7 => repeat (first | exact (Kd.R_reads' HO279.out).2.2 | (with_reducible refine Kd.C_alloc ?_ _) | (with_reducible refine Kd.C_drewN ?_ _) | (with_reducible refine Kd.C_drew ?_)))
       (case side8 => exact (Kd.R_reads' HO279.out).2.1)
       rintro e w115 ⟨rfl, hb⟩
       refine ⟨_, rfl, ?_⟩
       replace HO_6 := Aside0.mk (rbl HO_6 hb)
       replace HO_9 := Aside0.mk (rbl HO_9 hb)
       replace HO_10 := Aside0.mk (rbl HO_10 hb)
       replace HO_264000 := Aside0.mk (rbl HO_264000 hb)
       replace HO_264003 := Aside0.mk (rbl HO_264003 hb)
       replace HO274 := Aside0.mk (rbl HO274 hb)
       replace HO279 := Aside0.mk (rbl HO279 hb)
       replace BK238 := Aside0.mk (blb BK238 hb)
       replace BK263 := Aside0.mk (blb BK263 hb)
       replace HB := Aside0.mk (below_step bel hb)
       (try clear hb)
       (try clear hb2)
       (try clear hk)
       (try clear hi)
       refine hK.out _ _ (cells_4 BK263.out ⟨(blk_cell BK238.out 0).trans rfl, (blk_cell BK238.out 1).trans rfl, (blk_cell BK238.out 2).trans rfl, (blk_cell BK238.out 3).trans rfl⟩) (fun hHeld => ?_)
       clear hK K
       refine norm_ (a' := ?_) ?_ ?_
       rotate_left
       ·show Act.put _ (some 55) _ = _
        simp only [Act.put, List.setIfInBounds_toArray, List.set_cons_zero, List.set_cons_succ, i64_w, i32_w]
        rfl
       refine pure_ (i := 4) (N := some 56) (v := ?_) (a' := ?_) #[true, true, true, true, true] rfl rfl (by kernel_rfl) (fun _ _ _ h => h) (Or.inl ⟨by rfl, ?_⟩) ?_ ?_
       rotate_left
       ·intro w'
        go_simp
        with_reducible rfl
       rotate_left
       ·simp only [Act.put, List.setIfInBounds_toArray, List.set_cons_zero, List.set_cons_succ, i64_w, i32_w]
        rfl
       refine done_ (by kernel_rfl) ?_
       try go_wp2
       go_ret
       exact ⟨by first | rfl | (simp [errW_none, errW_some] <;> rfl) | (simp [*, errW_none, errW_some] <;> rfl), by repeat (first | (with_reducible first | exact HB.out | apply below_alloc | apply pw_below_drewN | apply below_drew1 | refine below_set ?_ GE238.out | refine below_set ?_ GE263.out) | exact HB.out)⟩

/-- THE ONE PURE STATEMENT of laws_FnExactTreeNext. -/
def laws_FnExactTreeNext.Pure : Prop := ∀ (x0 : S25) (l1 : List Int), okS25 x0 → l1.length ≤ maxLen → l1.length * 1 ≤ 140737488351232 → (∀ x ∈ l1, (Lit.int .u8 x).wf = true) → ∃ k, laws_FnExactTreeNext.f k x0.f0 x0.f1 x0.f2 x0.f3 l1 = some true
theorem laws_FnExactTreeNext.walk (P : laws_FnExactTreeNext.Pure) (x0 : S25) (cs0 : List Value) (a1 : Option Addr) (len1 cap1 : Nat) (z1 : List Int) (w : World) (w0 : k25.K w x0 cs0) (o0 : okS25 x0) (w1 : (a1 = none ∧ len1 = 0 ∧ cap1 = 0 ∧ z1 = []) ∨ ∃ x, a1 = some x ∧ len1 ≤ cap1 ∧ cap1 ≤ maxLen ∧ z1.length = cap1 ∧ (∀ i, i < z1.length → w.cell? (x.add i) = some (.int .u8 (z1.getD i 0))) ∧ ∀ n ∈ z1, (Lit.int .u8 n).wf = true) (y1 : len1 * 1 ≤ 140737488351232) :
  Calls Try.prog 7 #[.agg ⟨cs0⟩, .slice a1 len1 cap1] w fun e w' => e = .returned (.bool true) ∧ Below w.heap.size w w' := by
 obtain ⟨A0_0, c0_0, A0_3, c0_3, rfl, m0_0, g0_0, m0_3, g0_3⟩ := k25_open w0
 obtain ⟨l1, rfl, hr1, hm1, hw1, hc1⟩ := ReadsInt.ofRowC w1
 obtain ⟨k, h⟩ := P x0 l1 o0 hm1 y1 hw1
 refine (laws_FnExactTreeNext.calls k _ _ x0.f0 x0.f1 x0.f2 _ _ x0.f3 _ _ l1 true w g0_0 m0_0 g0_3 m0_3 (Kd.C_of_reads (d := (0 : Int)) (h1 := fun _ => rfl) hr1) hc1 h).mono ?_
 rintro e w' ⟨rfl, hd⟩
 exact ⟨rfl, hd⟩

end Go.Proofs.Ytoaddpfoecggpaa.PT
