-- Written for this claim by the session's program pp.py, out of the kit's print and the seat's translation.
import Derived.Test.YtoaddpfoecggpaaPGx0
import Derived.Test.YtoaddpfoecggpaaPGx1
import Derived.Test.YtoaddpfoecggpaaPGx2
import Derived.Test.YtoaddpfoecggpaaPGx4
import Derived.Test.YtoaddpfoecggpaaPGx7
namespace Go.Proofs.Ytoaddpfoecggpaa.PG
open Go.RowKit Go.Proofs.YtoaddpfoecggpaaW.PrintWords Go.Proofs.YtoaddpfoecggpaaW.PrintLast Go.Proofs.YtoaddpfoecggpaaW.PrintMore
attribute [local go_sem] max2_int min2_int max_two min_two max_three min_three max_four min_four   -- for this text's walks alone
set_option linter.unusedVariables false
set_option linter.unusedSimpArgs false

/-! ### laws_FnExactTreeGet: function 5 -/
def laws_FnExactTreeGet.j0 : Nat → List Int → List Int → Bool → List Int → Bool → Int → List (S25) → List Int → Bool → Int → List (S30) → Option (Bool)
 | 0, _, _, _, _, _, _, _, _, _, _, _ => none
 | k + 1, x1, x9, x45, x221000, x221001, x221002, x221003, x244000, x244001, x244002, x244003 => if x45 = true then (some false) else ((laws_toTree.f k x221000 x221001 x221002 x221003).bind fun bt249 => ((laws_eqTree.f k x244000 x244001 x244002 x244003 bt249.1 bt249.2.1 bt249.2.2.1 bt249.2.2.2).bind fun t257 => (if t257 = true then ((laws_toByteS.f k x1).bind fun t258 => ((laws_eqByteS.f k x9 t258).bind fun t261 => (if t261 = true then (some true) else (some false)))) else (some false))))
def laws_FnExactTreeGet.f (k : Nat) (l0_0 : List Int) (a0_1 : Bool) (a0_2 : Int) (l0_3 : List (S25)) (l1 : List Int) : Option (Bool) := if (l1.length : Int) > 1048576 then (some true) else ((laws_szTree.f k l0_0 a0_1 a0_2 l0_3 1048576).bind fun t221 => (if t221 < 0 then (some true) else ((laws_toTree.f k l0_0 a0_1 a0_2 l0_3).bind fun bt222 => ((laws_toByteS.f k l1).bind fun t230 => ((spec_TreeGet.f k bt222.1 bt222.2.1 bt222.2.2.1 bt222.2.2.2 t230).bind fun bt233 => ((laws_toTree.f k l0_0 a0_1 a0_2 l0_3).bind fun bt235 => ((laws_toByteS.f k l1).bind fun t244 => ((impl_TreeGet.f k bt235.1 bt235.2.1 bt235.2.2.1 bt235.2.2.2 t244).bind fun bt247 => (if bt247.1 = bt233.1 then (laws_FnExactTreeGet.j0 k l1 t244 (bt247.2 != bt233.2) l0_0 a0_1 a0_2 l0_3 bt235.1 bt235.2.1 bt235.2.2.1 bt235.2.2.2) else (laws_FnExactTreeGet.j0 k l1 t244 true l0_0 a0_1 a0_2 l0_3 bt235.1 bt235.2.1 bt235.2.2.1 bt235.2.2.2))))))))))
theorem laws_FnExactTreeGet.mono_l : ∀ k, (∀ y0 y1 y2 y3 y4 y5 y6 y7 y8 y9 y10, LeO (laws_FnExactTreeGet.j0 k y0 y1 y2 y3 y4 y5 y6 y7 y8 y9 y10) (laws_FnExactTreeGet.j0 (k + 1) y0 y1 y2 y3 y4 y5 y6 y7 y8 y9 y10))
 | 0 => fun _ _ _ _ _ _ _ _ _ _ _ r h => by simp [laws_FnExactTreeGet.j0] at h
 | k + 1 => by
  have ih0 := laws_FnExactTreeGet.mono_l k
  ·intro y0 y1 y2 y3 y4 y5 y6 y7 y8 y9 y10
   unfold laws_FnExactTreeGet.j0
   repeat' first
   | (with_reducible exact ih0 _ _ _ _ _ _ _ _ _ _ _)
   | (with_reducible exact impl_TreeGet.mono _ _ _ _ _ _)
   | (with_reducible exact laws_eqByteS.mono _ _ _)
   | (with_reducible exact laws_eqTree.mono _ _ _ _ _ _ _ _ _)
   | (with_reducible exact laws_szTree.mono _ _ _ _ _ _)
   | (with_reducible exact laws_toByteS.mono _ _)
   | (with_reducible exact laws_toTree.mono _ _ _ _ _)
   | (with_reducible exact spec_TreeGet.mono _ _ _ _ _ _)
   | (with_reducible exact LeO.refl _)
   | (with_reducible exact LeO.none _)
   | (with_reducible refine LeO.ite ?_ ?_)
   | (with_reducible refine LeO.bind ?_ (fun _ => ?_))
   | exact ih0 _ _ _ _ _ _ _ _ _ _ _
   | exact impl_TreeGet.mono _ _ _ _ _ _
   | exact laws_eqByteS.mono _ _ _
   | exact laws_eqTree.mono _ _ _ _ _ _ _ _ _
   | exact laws_szTree.mono _ _ _ _ _ _
   | exact laws_toByteS.mono _ _
   | exact laws_toTree.mono _ _ _ _ _
   | exact spec_TreeGet.mono _ _ _ _ _ _
   | exact LeO.none _
   | refine LeO.ite ?_ ?_
   | refine LeO.bind ?_ (fun _ => ?_)
theorem laws_FnExactTreeGet.mono : ∀ a0 a1 a2 a3 a4 k, LeO (laws_FnExactTreeGet.f k a0 a1 a2 a3 a4) (laws_FnExactTreeGet.f (k + 1) a0 a1 a2 a3 a4) := by
 intro a0 a1 a2 a3 a4 k
 have ih0 := laws_FnExactTreeGet.mono_l k
 unfold laws_FnExactTreeGet.f
 repeat' first
   | (with_reducible exact ih0 _ _ _ _ _ _ _ _ _ _ _)
   | (with_reducible exact impl_TreeGet.mono _ _ _ _ _ _)
   | (with_reducible exact laws_eqByteS.mono _ _ _)
   | (with_reducible exact laws_eqTree.mono _ _ _ _ _ _ _ _ _)
   | (with_reducible exact laws_szTree.mono _ _ _ _ _ _)
   | (with_reducible exact laws_toByteS.mono _ _)
   | (with_reducible exact laws_toTree.mono _ _ _ _ _)
   | (with_reducible exact spec_TreeGet.mono _ _ _ _ _ _)
   | (with_reducible exact LeO.refl _)
   | (with_reducible exact LeO.none _)
   | (with_reducible refine LeO.ite ?_ ?_)
   | (with_reducible refine LeO.bind ?_ (fun _ => ?_))
   | exact ih0 _ _ _ _ _ _ _ _ _ _ _
   | exact impl_TreeGet.mono _ _ _ _ _ _
   | exact laws_eqByteS.mono _ _ _
   | exact laws_eqTree.mono _ _ _ _ _ _ _ _ _
   | exact laws_szTree.mono _ _ _ _ _ _
   | exact laws_toByteS.mono _ _
   | exact laws_toTree.mono _ _ _ _ _
   | exact spec_TreeGet.mono _ _ _ _ _ _
   | exact LeO.none _
   | refine LeO.ite ?_ ?_
   | refine LeO.bind ?_ (fun _ => ?_)
set_option maxHeartbeats 8000000 in
set_option maxRecDepth 100000 in
theorem laws_FnExactTreeGet.calls (k : Nat) (A0_0 : Option Addr) (c0_0 : Nat) (l0_0 : List Int) (a0_1 : Bool) (a0_2 : Int) (A0_3 : Option Addr) (c0_3 : Nat) (l0_3 : List (S25)) (A1 : Option Addr) (c1 : Nat) (l1 : List Int) (r : Bool) (w : World) (hr0_0 : Kd.C (Kd.int .u8) w A0_0 l0_0.length l0_0) (hc0_0 : l0_0.length ≤ c0_0) (hr0_3 : Kd.C k25 w A0_3 l0_3.length l0_3) (hc0_3 : l0_3.length ≤ c0_3) (hr1 : Kd.C (Kd.int .u8) w A1 l1.length l1) (hc1 : l1.length ≤ c1) (h : laws_FnExactTreeGet.f k l0_0 a0_1 a0_2 l0_3 l1 = some r) :
  Calls Try.prog 5 #[.agg #[.slice A0_0 l0_0.length c0_0, .bool a0_1, .int .i64 a0_2, .slice A0_3 l0_3.length c0_3], .slice A1 l1.length c1] w fun e w' => e = .returned (.bool r) ∧ Below w.heap.size w w' := by
 have hu25 := Try.underlying25
 have hu30 := Try.underlying30
 have HR0_0 := Aside0.mk hr0_0
 have HC0_0 := Aside0.mk hc0_0
 clear hr0_0 hc0_0
 have HR0_3 := Aside0.mk hr0_3
 have HC0_3 := Aside0.mk hc0_3
 clear hr0_3 hc0_3
 have HR1 := Aside0.mk hr1
 have HC1 := Aside0.mk hc1
 clear hr1 hc1
 have HB := Aside0.mk (Below.refl w.heap.size w)
 have H : (if (l1.length : Int) > 1048576 then (some true) else ((laws_szTree.f k l0_0 a0_1 a0_2 l0_3 1048576).bind fun t221 => (if t221 < 0 then (some true) else ((laws_toTree.f k l0_0 a0_1 a0_2 l0_3).bind fun bt222 => ((laws_toByteS.f k l1).bind fun t230 => ((spec_TreeGet.f k bt222.1 bt222.2.1 bt222.2.2.1 bt222.2.2.2 t230).bind fun bt233 => ((laws_toTree.f k l0_0 a0_1 a0_2 l0_3).bind fun bt235 => ((laws_toByteS.f k l1).bind fun t244 => ((impl_TreeGet.f k bt235.1 bt235.2.1 bt235.2.2.1 bt235.2.2.2 t244).bind fun bt247 => (if bt247.1 = bt233.1 then (laws_FnExactTreeGet.j0 k l1 t244 (bt247.2 != bt233.2) l0_0 a0_1 a0_2 l0_3 bt235.1 bt235.2.1 bt235.2.2.1 bt235.2.2.2) else (laws_FnExactTreeGet.j0 k l1 t244 true l0_0 a0_1 a0_2 l0_3 bt235.1 bt235.2.1 bt235.2.2.1 bt235.2.2.2))))))))))) = some r := h
 clear h
 by_cases c3 : (l1.length : Int) > 1048576
 ·rw [if_pos c3] at H
  have c3b0 : decide (1048576 < (l1.length : Int)) = true := decide_eq_true c3
  have c3b1 : decide (1048576 < l1.length) = true := decide_eq_true (by omega)
  clear c3
  obtain rfl := Option.some.inj H
  go_enter Try.func5, Try.ntmps5
  go_wp2_with (first | ((with_reducible refine gate_dst (N := 2) rfl ?_); refine bx_ 2 #[.slice A0_0 l0_0.length c0_0, .bool a0_1, .int .i64 a0_2, .slice A0_3 l0_3.length c0_3] 25 (h := ?_); intro gb220 hg w4 hbox hb; have BK220 := Aside0.mk (hbox); have GW220 := Aside0.mk ((by rw [hg]; exact (below_size bel) : w.heap.size ≤ gb220)); have GE220 := Aside0.mk ((by rw [hg]; exact (below_size bel) : w.heap.size ≤ gb220)); replace HB := Aside0.mk (below_step bel hb); clear hb hbox hg))
  go_ret
  exact ⟨by first | rfl | (simp [errW_none, errW_some] <;> rfl) | (simp [*, errW_none, errW_some] <;> rfl), by repeat (first | (with_reducible first | exact HB.out | apply below_alloc | apply pw_below_drewN | apply below_drew1 | refine below_set ?_ GE220.out) | exact HB.out)⟩
 ·rw [if_neg c3] at H
  have c3b0 : decide (1048576 < (l1.length : Int)) = false := decide_eq_false c3
  have c3b1 : decide (1048576 < l1.length) = false := decide_eq_false (by omega)
  clear c3
  replace H := Option.bind_eq_some_iff.mp H
  obtain ⟨t221, A50, H⟩ := H
  replace H : (if t221 < 0 then (some true) else ((laws_toTree.f k l0_0 a0_1 a0_2 l0_3).bind fun bt222 => ((laws_toByteS.f k l1).bind fun t230 => ((spec_TreeGet.f k bt222.1 bt222.2.1 bt222.2.2.1 bt222.2.2.2 t230).bind fun bt233 => ((laws_toTree.f k l0_0 a0_1 a0_2 l0_3).bind fun bt235 => ((laws_toByteS.f k l1).bind fun t244 => ((impl_TreeGet.f k bt235.1 bt235.2.1 bt235.2.2.1 bt235.2.2.2 t244).bind fun bt247 => (if bt247.1 = bt233.1 then (laws_FnExactTreeGet.j0 k l1 t244 (bt247.2 != bt233.2) l0_0 a0_1 a0_2 l0_3 bt235.1 bt235.2.1 bt235.2.2.1 bt235.2.2.2) else (laws_FnExactTreeGet.j0 k l1 t244 true l0_0 a0_1 a0_2 l0_3 bt235.1 bt235.2.1 bt235.2.2.1 bt235.2.2.2))))))))) = some r := H
  have A5 := Aside0.mk A50
  clear A50
  by_cases c6 : t221 < 0
  ·rw [if_pos c6] at H
   have c6b0 : decide (t221 < 0) = true := decide_eq_true c6
   clear c6
   obtain rfl := Option.some.inj H
   go_enter Try.func5, Try.ntmps5
   go_wp2_with (first | ((with_reducible refine gate_dst (N := 2) rfl ?_); refine bx_ 2 #[.slice A0_0 l0_0.length c0_0, .bool a0_1, .int .i64 a0_2, .slice A0_3 l0_3.length c0_3] 25 (h := ?_); intro gb220 hg w7 hbox hb; have BK220 := Aside0.mk (hbox); have GW220 := Aside0.mk ((by rw [hg]; exact (below_size bel) : w.heap.size ≤ gb220)); have GE220 := Aside0.mk ((by rw [hg]; exact (below_size bel) : w.heap.size ≤ gb220)); replace HB := Aside0.mk (below_step bel hb); clear hb hbox hg; obtain ⟨hcz8_0, hcz8_1, hcz8_2, hcz8_3, -⟩ := cells_4 BK220.out trivial; obtain ⟨hfz8_0, hfz8_1, hfz8_2, hfz8_3, -⟩ := frz_4 BK220.out) | ((with_reducible refine gate_callee (f := 15) rfl ?_); refine gl_ (some 17) Try.func15 #[.agg #[.slice A0_0 l0_0.length c0_0, .bool a0_1, .int .i64 a0_2, .slice A0_3 l0_3.length c0_3], .int .i64 1048576] (h := ?_); (with_reducible refine (laws_szTree.calls k _ _ l0_0 a0_1 a0_2 _ _ l0_3 1048576 t221 _ ?side1 ?side2 ?side3 ?side4 A5.out).mono ?_); (case side1 => exact kcb); (case side2 => exact HC0_0.out); (case side3 => exact kcb); (case side4 => exact HC0_3.out); rintro e w9 ⟨rfl, hb⟩; refine ⟨_, rfl, ?_⟩; replace BK220 := Aside0.mk (blb BK220 hb); replace HB := Aside0.mk (below_step bel hb); (try clear hb); (try clear hb2); (try clear hk); (try clear hi)))
   go_ret
   exact ⟨by first | rfl | (simp [errW_none, errW_some] <;> rfl) | (simp [*, errW_none, errW_some] <;> rfl), by repeat (first | (with_reducible first | exact HB.out | apply below_alloc | apply pw_below_drewN | apply below_drew1 | refine below_set ?_ GE220.out) | exact HB.out)⟩
  ·rw [if_neg c6] at H
   have c6b0 : decide (t221 < 0) = false := decide_eq_false c6
   clear c6
   replace H := Option.bind_eq_some_iff.mp H
   obtain ⟨⟨t222, t225, t226, t227⟩, A100, H⟩ := H
   replace H : ((laws_toByteS.f k l1).bind fun t230 => ((spec_TreeGet.f k t222 t225 t226 t227 t230).bind fun bt233 => ((laws_toTree.f k l0_0 a0_1 a0_2 l0_3).bind fun bt235 => ((laws_toByteS.f k l1).bind fun t244 => ((impl_TreeGet.f k bt235.1 bt235.2.1 bt235.2.2.1 bt235.2.2.2 t244).bind fun bt247 => (if bt247.1 = bt233.1 then (laws_FnExactTreeGet.j0 k l1 t244 (bt247.2 != bt233.2) l0_0 a0_1 a0_2 l0_3 bt235.1 bt235.2.1 bt235.2.2.1 bt235.2.2.2) else (laws_FnExactTreeGet.j0 k l1 t244 true l0_0 a0_1 a0_2 l0_3 bt235.1 bt235.2.1 bt235.2.2.1 bt235.2.2.2))))))) = some r := H
   have A10 := Aside0.mk A100
   clear A100
   replace H := Option.bind_eq_some_iff.mp H
   obtain ⟨t230, A110, H⟩ := H
   replace H : ((spec_TreeGet.f k t222 t225 t226 t227 t230).bind fun bt233 => ((laws_toTree.f k l0_0 a0_1 a0_2 l0_3).bind fun bt235 => ((laws_toByteS.f k l1).bind fun t244 => ((impl_TreeGet.f k bt235.1 bt235.2.1 bt235.2.2.1 bt235.2.2.2 t244).bind fun bt247 => (if bt247.1 = bt233.1 then (laws_FnExactTreeGet.j0 k l1 t244 (bt247.2 != bt233.2) l0_0 a0_1 a0_2 l0_3 bt235.1 bt235.2.1 bt235.2.2.1 bt235.2.2.2) else (laws_FnExactTreeGet.j0 k l1 t244 true l0_0 a0_1 a0_2 l0_3 bt235.1 bt235.2.1 bt235.2.2.1 bt235.2.2.2)))))) = some r := H
   have A11 := Aside0.mk A110
   clear A110
   replace H := Option.bind_eq_some_iff.mp H
   obtain ⟨⟨t233, t234⟩, A120, H⟩ := H
   replace H : ((laws_toTree.f k l0_0 a0_1 a0_2 l0_3).bind fun bt235 => ((laws_toByteS.f k l1).bind fun t244 => ((impl_TreeGet.f k bt235.1 bt235.2.1 bt235.2.2.1 bt235.2.2.2 t244).bind fun bt247 => (if bt247.1 = t233 then (laws_FnExactTreeGet.j0 k l1 t244 (bt247.2 != t234) l0_0 a0_1 a0_2 l0_3 bt235.1 bt235.2.1 bt235.2.2.1 bt235.2.2.2) else (laws_FnExactTreeGet.j0 k l1 t244 true l0_0 a0_1 a0_2 l0_3 bt235.1 bt235.2.1 bt235.2.2.1 bt235.2.2.2))))) = some r := H
   have A12 := Aside0.mk A120
   clear A120
   replace H := Option.bind_eq_some_iff.mp H
   obtain ⟨⟨t235, t238, t239, t240⟩, A130, H⟩ := H
   replace H : ((laws_toByteS.f k l1).bind fun t244 => ((impl_TreeGet.f k t235 t238 t239 t240 t244).bind fun bt247 => (if bt247.1 = t233 then (laws_FnExactTreeGet.j0 k l1 t244 (bt247.2 != t234) l0_0 a0_1 a0_2 l0_3 t235 t238 t239 t240) else (laws_FnExactTreeGet.j0 k l1 t244 true l0_0 a0_1 a0_2 l0_3 t235 t238 t239 t240)))) = some r := H
   have A13 := Aside0.mk A130
   clear A130
   replace H := Option.bind_eq_some_iff.mp H
   obtain ⟨t244, A140, H⟩ := H
   replace H : ((impl_TreeGet.f k t235 t238 t239 t240 t244).bind fun bt247 => (if bt247.1 = t233 then (laws_FnExactTreeGet.j0 k l1 t244 (bt247.2 != t234) l0_0 a0_1 a0_2 l0_3 t235 t238 t239 t240) else (laws_FnExactTreeGet.j0 k l1 t244 true l0_0 a0_1 a0_2 l0_3 t235 t238 t239 t240))) = some r := H
   have A14 := Aside0.mk A140
   clear A140
   replace H := Option.bind_eq_some_iff.mp H
   obtain ⟨⟨t247, t248⟩, A150, H⟩ := H
   replace H : (if t247 = t233 then (laws_FnExactTreeGet.j0 k l1 t244 (t248 != t234) l0_0 a0_1 a0_2 l0_3 t235 t238 t239 t240) else (laws_FnExactTreeGet.j0 k l1 t244 true l0_0 a0_1 a0_2 l0_3 t235 t238 t239 t240)) = some r := H
   have A15 := Aside0.mk A150
   clear A150
   have HC16 := Aside0.mk H
   clear H
   go_enter Try.func5, Try.ntmps5
   go_upto_region 11 with (first | ((with_reducible refine gate_dst (N := 2) rfl ?_); refine bx_ 2 #[.slice A0_0 l0_0.length c0_0, .bool a0_1, .int .i64 a0_2, .slice A0_3 l0_3.length c0_3] 25 (h := ?_); intro gb220 hg w17 hbox hb; have BK220 := Aside0.mk (hbox); have GW220 := Aside0.mk ((by rw [hg]; exact (below_size bel) : w.heap.size ≤ gb220)); have GE220 := Aside0.mk ((by rw [hg]; exact (below_size bel) : w.heap.size ≤ gb220)); replace HB := Aside0.mk (below_step bel hb); clear hb hbox hg; obtain ⟨hcz18_0, hcz18_1, hcz18_2, hcz18_3, -⟩ := cells_4 BK220.out trivial; obtain ⟨hfz18_0, hfz18_1, hfz18_2, hfz18_3, -⟩ := frz_4 BK220.out) | ((with_reducible refine gate_callee (f := 15) rfl ?_); refine gl_ (some 17) Try.func15 #[.agg #[.slice A0_0 l0_0.length c0_0, .bool a0_1, .int .i64 a0_2, .slice A0_3 l0_3.length c0_3], .int .i64 1048576] (h := ?_); (with_reducible refine (laws_szTree.calls k _ _ l0_0 a0_1 a0_2 _ _ l0_3 1048576 t221 _ ?side1 ?side2 ?side3 ?side4 A5.out).mono ?_); (case side1 => exact kcb); (case side2 => exact HC0_0.out); (case side3 => exact kcb); (case side4 => exact HC0_3.out); rintro e w19 ⟨rfl, hb⟩; refine ⟨_, rfl, ?_⟩; replace BK220 := Aside0.mk (blb BK220 hb); replace HB := Aside0.mk (below_step bel hb); (try clear hb); (try clear hb2); (try clear hk); (try clear hi); obtain ⟨hcz20_0, hcz20_1, hcz20_2, hcz20_3, -⟩ := cells_4 BK220.out trivial; obtain ⟨hfz20_0, hfz20_1, hfz20_2, hfz20_3, -⟩ := frz_4 BK220.out) | ((with_reducible refine gate_callee (f := 17) rfl ?_); refine gl_ (some 22) Try.func17 #[.agg #[.slice A0_0 l0_0.length c0_0, .bool a0_1, .int .i64 a0_2, .slice A0_3 l0_3.length c0_3]] (h := ?_); (with_reducible refine (laws_toTree.calls k _ _ l0_0 a0_1 a0_2 _ _ l0_3 t222 t225 t226 t227 _ ?side1 ?side2 ?side3 ?side4 A10.out).mono ?_); (case side1 => exact kcb); (case side2 => exact HC0_0.out); (case side3 => exact kcb); (case side4 => exact HC0_3.out); rintro e w21 ⟨v223, v228, rfl, ho0, ho1, hb⟩; refine ⟨_, rfl, ?_⟩; have HO224 := Aside0.mk (Kd.R_lower ho0 (below_size bel)); have HO229 := Aside0.mk (Kd.R_lower ho1 (below_size bel)); replace BK220 := Aside0.mk (blb BK220 hb); replace HB := Aside0.mk (below_step bel hb); (try clear hb); (try clear hb2); (try clear hk); (try clear hi); (try clear ho0); (try clear ho1)) | ((with_reducible refine gate_callee (f := 23) rfl ?_); refine gl_ (some 24) Try.func23 #[.slice A1 l1.length c1] (h := ?_); (with_reducible refine (laws_toByteS.calls k _ _ l1 t230 _ ?side1 ?side2 A11.out).mono ?_); (case side1 => exact kcb); (case side2 => exact HC1.out); rintro e w22 ⟨v231, rfl, ho0, hb⟩; refine ⟨_, rfl, ?_⟩; have HO232 := Aside0.mk (Kd.R_lower (Kd.R_new' ho0 (Kd.R_lt (by (with_reducible repeat (first | apply Kd.R_alloc | apply Kd.R_drewN | apply Kd.R_drew)); exact HO224.out))) (below_size bel)); replace HO224 := Aside0.mk (Kd.R_elder' (by (with_reducible repeat (first | apply Kd.R_alloc | apply Kd.R_drewN | apply Kd.R_drew)); exact HO224.out) (Kd.R_base ho0) hb); replace HO229 := Aside0.mk (Kd.R_elder' (by (with_reducible repeat (first | apply Kd.R_alloc | apply Kd.R_drewN | apply Kd.R_drew)); exact HO229.out) (Kd.R_base ho0) hb); replace BK220 := Aside0.mk (blb BK220 hb); replace HB := Aside0.mk (below_step bel hb); (try clear hb); (try clear hb2); (try clear hk); (try clear hi); (try clear ho0); obtain ⟨Ao23, co23, eo23⟩ := Kd.R_slice HO224.out; subst eo23; obtain ⟨Ao24, co24, eo24⟩ := Kd.R_slice HO229.out; subst eo24; obtain ⟨Ao25, co25, eo25⟩ := Kd.R_slice HO232.out; subst eo25) | ((with_reducible refine gate_callee (f := 22) rfl ?_); refine gl_ (some 25) Try.func22 #[.agg #[.slice Ao23 t222.length co23, .bool t225, .int .i64 t226, .slice Ao24 t227.length co24], .slice Ao25 t230.length co25] (h := ?_); (with_reducible refine (spec_TreeGet.calls k _ _ t222 t225 t226 _ _ t227 _ _ t230 t233 t234 _ ?side1 ?side2 ?side3 ?side4 ?side5 ?side6 A12.out).mono ?_); (case side1 => repeat (first | exact (Kd.R_reads' HO224.out).2.2 | (with_reducible refine Kd.C_alloc ?_ _) | (with_reducible refine Kd.C_drewN ?_ _) | (with_reducible refine Kd.C_drew ?_))); (case side2 => exact (Kd.R_reads' HO224.out).2.1); (case side3 => repeat (first | exact (Kd.R_reads' HO229.out).2.2 | (with_reducible refine Kd.C_alloc ?_ _) | (with_reducible refine Kd.C_drewN ?_ _) | (with_reducible refine Kd.C_drew ?_))); (case side4 => exact (Kd.R_reads' HO229.out).2.1); (case side5 => repeat (first | exact (Kd.R_reads' HO232.out).2.2 | (with_reducible refine Kd.C_alloc ?_ _) | (with_reducible refine Kd.C_drewN ?_ _) | (with_reducible refine Kd.C_drew ?_))); (case side6 => exact (Kd.R_reads' HO232.out).2.1); rintro e w26 ⟨rfl, hb⟩; refine ⟨_, rfl, ?_⟩; replace HO224 := Aside0.mk (rbl HO224 hb); replace HO229 := Aside0.mk (rbl HO229 hb); replace HO232 := Aside0.mk (rbl HO232 hb); replace BK220 := Aside0.mk (blb BK220 hb); replace HB := Aside0.mk (below_step bel hb); (try clear hb); (try clear hb2); (try clear hk); (try clear hi); obtain ⟨hcz27_0, hcz27_1, hcz27_2, hcz27_3, -⟩ := cells_4 BK220.out trivial; obtain ⟨hfz27_0, hfz27_1, hfz27_2, hfz27_3, -⟩ := frz_4 BK220.out) | ((with_reducible refine gate_callee (f := 17) rfl ?_); refine gl_ (some 29) Try.func17 #[.agg #[.slice A0_0 l0_0.length c0_0, .bool a0_1, .int .i64 a0_2, .slice A0_3 l0_3.length c0_3]] (h := ?_); (with_reducible refine (laws_toTree.calls k _ _ l0_0 a0_1 a0_2 _ _ l0_3 t235 t238 t239 t240 _ ?side1 ?side2 ?side3 ?side4 A13.out).mono ?_); (case side1 => exact kcb); (case side2 => exact HC0_0.out); (case side3 => exact kcb); (case side4 => exact HC0_3.out); rintro e w28 ⟨v236, v241, rfl, ho0, ho1, hb⟩; refine ⟨_, rfl, ?_⟩; have HO237 := Aside0.mk (Kd.R_lower (Kd.R_new' (Kd.R_new' ho0 (Kd.R_lt (by (with_reducible repeat (first | apply Kd.R_alloc | apply Kd.R_drewN | apply Kd.R_drew)); exact HO224.out))) (Kd.R_lt (by (with_reducible repeat (first | apply Kd.R_alloc | apply Kd.R_drewN | apply Kd.R_drew)); exact HO232.out))) (below_size bel)); have HO242 := Aside0.mk (Kd.R_lower (Kd.R_new' (Kd.R_new' (Kd.R_new' ho1 (Kd.R_lt (by (with_reducible repeat (first | apply Kd.R_alloc | apply Kd.R_drewN | apply Kd.R_drew)); exact HO224.out))) (Kd.R_lt (by (with_reducible repeat (first | apply Kd.R_alloc | apply Kd.R_drewN | apply Kd.R_drew)); exact HO229.out))) (Kd.R_lt (by (with_reducible repeat (first | apply Kd.R_alloc | apply Kd.R_drewN | apply Kd.R_drew)); exact HO232.out))) (below_size bel)); replace HO224 := Aside0.mk (Kd.R_elder' (by (with_reducible repeat (first | apply Kd.R_alloc | apply Kd.R_drewN | apply Kd.R_drew)); exact HO224.out) (Kd.R_base ho0) hb); replace HO229 := Aside0.mk (Kd.R_mono (Kd.R_told (Kd.R_told (Kd.R_old (by (with_reducible repeat (first | apply Kd.R_alloc | apply Kd.R_drewN | apply Kd.R_drew)); exact HO229.out) hb) (Kd.R_base ho0)) (Kd.R_base ho1)) (fun _ h_ => h_.1)); replace HO232 := Aside0.mk (Kd.R_elder' (by (with_reducible repeat (first | apply Kd.R_alloc | apply Kd.R_drewN | apply Kd.R_drew)); exact HO232.out) (Kd.R_base ho0) hb); replace BK220 := Aside0.mk (blb BK220 hb); replace HB := Aside0.mk (below_step bel hb); (try clear hb); (try clear hb2); (try clear hk); (try clear hi); (try clear ho0); (try clear ho1)) | ((with_reducible refine gate_dst (N := 8) rfl ?_); refine bx_ 8 #[.slice none 0 0, .bool false, .int .i64 0, .slice none 0 0] 30 (h := ?_); intro gb243 hg w29 hbox hb; have BK243 := Aside0.mk (hbox); have GW243 := Aside0.mk ((by rw [hg]; exact (below_size bel) : w.heap.size ≤ gb243)); have GE243 := Aside0.mk ((by rw [hg]; exact (below_size bel) : w.heap.size ≤ gb243)); have NB220_243 := Aside0.mk ((by rw [hg]; exact Nat.ne_of_lt (blt BK220) : gb220 ≠ gb243)); have NB243_220 := Aside0.mk ((by rw [hg]; exact Nat.ne_of_gt (blt BK220) : gb243 ≠ gb220)); replace HO224 := Aside0.mk (rbl HO224 hb); replace HO229 := Aside0.mk (Kd.R_below (Kd.R_elderB (by (with_reducible repeat (first | apply Kd.R_alloc | apply Kd.R_drewN | apply Kd.R_drew)); exact HO229.out) gb243 (Nat.le_of_eq hg.symm)) hb); replace HO232 := Aside0.mk (rbl HO232 hb); replace HO237 := Aside0.mk (rbl HO237 hb); replace HO242 := Aside0.mk (Kd.R_below (Kd.R_elderB (by (with_reducible repeat (first | apply Kd.R_alloc | apply Kd.R_drewN | apply Kd.R_drew)); exact HO242.out) gb243 (Nat.le_of_eq hg.symm)) hb); replace BK220 := Aside0.mk (blb BK220 hb); replace HB := Aside0.mk (below_step bel hb); clear hb hbox hg; obtain ⟨Ao30, co30, eo30⟩ := Kd.R_slice HO237.out; subst eo30; have hnb31 := NB243_220.out; have hnc31 := NB220_243.out; obtain ⟨hcz32_0, hcz32_1, hcz32_2, hcz32_3, -⟩ := cells_4 BK243.out trivial; obtain ⟨hfz32_0, hfz32_1, hfz32_2, hfz32_3, -⟩ := frz_4 BK243.out; obtain ⟨Ao33, co33, eo33⟩ := Kd.R_slice HO242.out; subst eo33) | ((with_reducible refine gate_callee (f := 23) rfl ?_); refine gl_ (some 31) Try.func23 #[.slice A1 l1.length c1] (h := ?_); (with_reducible refine (laws_toByteS.calls k _ _ l1 t244 _ ?side1 ?side2 A14.out).mono ?_); (case side1 => exact Kd.C_below HR1.out bel); (case side2 => exact HC1.out); rintro e w34 ⟨v245, rfl, ho0, hb⟩; refine ⟨_, rfl, ?_⟩; have HO246 := Aside0.mk (Kd.R_lower (Kd.R_new' (Kd.R_new' (Kd.R_new' ho0 (Kd.R_lt (by (with_reducible repeat (first | apply Kd.R_alloc | apply Kd.R_drewN | apply Kd.R_drew)); exact (Kd.R_mono (Kd.R_far (p := ⟨gb243, 3, none⟩) (Kd.R_far (p := ⟨gb243, 2, none⟩) (Kd.R_far (p := ⟨gb243, 1, none⟩) (Kd.R_far (p := ⟨gb243, 0, none⟩) (Kd.R_types HO224.out BK243.out (by decide)) (fun _ hk => hk.2) (.slice Ao30 t235.length co30)) (fun _ hk => hk.2) (.bool t238)) (fun _ hk => hk.2) (.int .i64 t239)) (fun _ hk => hk.2) (.slice Ao33 t240.length co33)) (fun _ h_ => h_.1))))) (Kd.R_lt (by (with_reducible repeat (first | apply Kd.R_alloc | apply Kd.R_drewN | apply Kd.R_drew)); exact (Kd.R_mono (Kd.R_far (p := ⟨gb243, 3, none⟩) (Kd.R_far (p := ⟨gb243, 2, none⟩) (Kd.R_far (p := ⟨gb243, 1, none⟩) (Kd.R_far (p := ⟨gb243, 0, none⟩) (Kd.R_types HO232.out BK243.out (by decide)) (fun _ hk => hk.2) (.slice Ao30 t235.length co30)) (fun _ hk => hk.2) (.bool t238)) (fun _ hk => hk.2) (.int .i64 t239)) (fun _ hk => hk.2) (.slice Ao33 t240.length co33)) (fun _ h_ => h_.1))))) (Kd.R_lt (by (with_reducible repeat (first | apply Kd.R_alloc | apply Kd.R_drewN | apply Kd.R_drew)); exact (Kd.R_mono (Kd.R_far (p := ⟨gb243, 3, none⟩) (Kd.R_far (p := ⟨gb243, 2, none⟩) (Kd.R_far (p := ⟨gb243, 1, none⟩) (Kd.R_far (p := ⟨gb243, 0, none⟩) (Kd.R_types HO237.out BK243.out (by decide)) (fun _ hk => hk.2) (.slice Ao30 t235.length co30)) (fun _ hk => hk.2) (.bool t238)) (fun _ hk => hk.2) (.int .i64 t239)) (fun _ hk => hk.2) (.slice Ao33 t240.length co33)) (fun _ h_ => h_.1))))) (below_size bel)); replace HO224 := Aside0.mk (Kd.R_elder' (by (with_reducible repeat (first | apply Kd.R_alloc | apply Kd.R_drewN | apply Kd.R_drew)); exact (Kd.R_mono (Kd.R_far (p := ⟨gb243, 3, none⟩) (Kd.R_far (p := ⟨gb243, 2, none⟩) (Kd.R_far (p := ⟨gb243, 1, none⟩) (Kd.R_far (p := ⟨gb243, 0, none⟩) (Kd.R_types HO224.out BK243.out (by decide)) (fun _ hk => hk.2) (.slice Ao30 t235.length co30)) (fun _ hk => hk.2) (.bool t238)) (fun _ hk => hk.2) (.int .i64 t239)) (fun _ hk => hk.2) (.slice Ao33 t240.length co33)) (fun _ h_ => h_.1))) (Kd.R_base ho0) hb); replace HO229 := Aside0.mk (Kd.R_elder' (by (with_reducible repeat (first | apply Kd.R_alloc | apply Kd.R_drewN | apply Kd.R_drew)); exact (Kd.R_mono (Kd.R_far (p := ⟨gb243, 3, none⟩) (Kd.R_far (p := ⟨gb243, 2, none⟩) (Kd.R_far (p := ⟨gb243, 1, none⟩) (Kd.R_far (p := ⟨gb243, 0, none⟩) (Kd.R_mono HO229.out (fun k_ hk => (⟨hk, hk.2⟩ : _ ∧ k_ ≠ gb243))) (fun _ hk => hk.2) (.slice Ao30 t235.length co30)) (fun _ hk => hk.2) (.bool t238)) (fun _ hk => hk.2) (.int .i64 t239)) (fun _ hk => hk.2) (.slice Ao33 t240.length co33)) (fun _ h_ => h_.1))) (Kd.R_base ho0) hb); replace HO232 := Aside0.mk (Kd.R_elder' (by (with_reducible repeat (first | apply Kd.R_alloc | apply Kd.R_drewN | apply Kd.R_drew)); exact (Kd.R_mono (Kd.R_far (p := ⟨gb243, 3, none⟩) (Kd.R_far (p := ⟨gb243, 2, none⟩) (Kd.R_far (p := ⟨gb243, 1, none⟩) (Kd.R_far (p := ⟨gb243, 0, none⟩) (Kd.R_types HO232.out BK243.out (by decide)) (fun _ hk => hk.2) (.slice Ao30 t235.length co30)) (fun _ hk => hk.2) (.bool t238)) (fun _ hk => hk.2) (.int .i64 t239)) (fun _ hk => hk.2) (.slice Ao33 t240.length co33)) (fun _ h_ => h_.1))) (Kd.R_base ho0) hb); replace HO237 := Aside0.mk (Kd.R_elder' (by (with_reducible repeat (first | apply Kd.R_alloc | apply Kd.R_drewN | apply Kd.R_drew)); exact (Kd.R_mono (Kd.R_far (p := ⟨gb243, 3, none⟩) (Kd.R_far (p := ⟨gb243, 2, none⟩) (Kd.R_far (p := ⟨gb243, 1, none⟩) (Kd.R_far (p := ⟨gb243, 0, none⟩) (Kd.R_types HO237.out BK243.out (by decide)) (fun _ hk => hk.2) (.slice Ao30 t235.length co30)) (fun _ hk => hk.2) (.bool t238)) (fun _ hk => hk.2) (.int .i64 t239)) (fun _ hk => hk.2) (.slice Ao33 t240.length co33)) (fun _ h_ => h_.1))) (Kd.R_base ho0) hb); replace HO242 := Aside0.mk (Kd.R_elder' (by (with_reducible repeat (first | apply Kd.R_alloc | apply Kd.R_drewN | apply Kd.R_drew)); exact (Kd.R_mono (Kd.R_far (p := ⟨gb243, 3, none⟩) (Kd.R_far (p := ⟨gb243, 2, none⟩) (Kd.R_far (p := ⟨gb243, 1, none⟩) (Kd.R_far (p := ⟨gb243, 0, none⟩) (Kd.R_mono HO242.out (fun k_ hk => (⟨hk, hk.2⟩ : _ ∧ k_ ≠ gb243))) (fun _ hk => hk.2) (.slice Ao30 t235.length co30)) (fun _ hk => hk.2) (.bool t238)) (fun _ hk => hk.2) (.int .i64 t239)) (fun _ hk => hk.2) (.slice Ao33 t240.length co33)) (fun _ h_ => h_.1))) (Kd.R_base ho0) hb); replace BK220 := Aside0.mk (blk_below (g := gb220) (o := .cells #[.slice A0_0 l0_0.length c0_0, .bool a0_1, .int .i64 a0_2, .slice A0_3 l0_3.length c0_3] 25 (0, 0)) (by (with_reducible repeat (first | refine blk_drewN ?_ _ | refine blk_drew ?_ | refine blk_alloc ?_ _)); refine blk_far ?_ NB220_243.out _; (with_reducible repeat (first | refine blk_drewN ?_ _ | refine blk_drew ?_ | refine blk_alloc ?_ _)); refine blk_far ?_ NB220_243.out _; (with_reducible repeat (first | refine blk_drewN ?_ _ | refine blk_drew ?_ | refine blk_alloc ?_ _)); refine blk_far ?_ NB220_243.out _; (with_reducible repeat (first | refine blk_drewN ?_ _ | refine blk_drew ?_ | refine blk_alloc ?_ _)); refine blk_far ?_ NB220_243.out _; (with_reducible repeat (first | refine blk_drewN ?_ _ | refine blk_drew ?_ | refine blk_alloc ?_ _)); exact BK220.out) hb); replace BK243 := Aside0.mk (blk_below (g := gb243) (o := .cells #[.slice Ao30 t235.length co30, .bool t238, .int .i64 t239, .slice Ao33 t240.length co33] 30 (0, 0)) (by (with_reducible repeat (first | refine blk_drewN ?_ _ | refine blk_drew ?_ | refine blk_alloc ?_ _)); refine blk_put (cs := #[.slice Ao30 t235.length co30, .bool t238, .int .i64 t239, .slice none 0 0]) ?_ 3 _ rfl; (with_reducible repeat (first | refine blk_drewN ?_ _ | refine blk_drew ?_ | refine blk_alloc ?_ _)); refine blk_put (cs := #[.slice Ao30 t235.length co30, .bool t238, .int .i64 0, .slice none 0 0]) ?_ 2 _ rfl; (with_reducible repeat (first | refine blk_drewN ?_ _ | refine blk_drew ?_ | refine blk_alloc ?_ _)); refine blk_put (cs := #[.slice Ao30 t235.length co30, .bool false, .int .i64 0, .slice none 0 0]) ?_ 1 _ rfl; (with_reducible repeat (first | refine blk_drewN ?_ _ | refine blk_drew ?_ | refine blk_alloc ?_ _)); refine blk_put (cs := #[.slice none 0 0, .bool false, .int .i64 0, .slice none 0 0]) ?_ 0 _ rfl; (with_reducible repeat (first | refine blk_drewN ?_ _ | refine blk_drew ?_ | refine blk_alloc ?_ _)); exact BK243.out) hb); replace HB := Aside0.mk (below_step bel hb); (try clear hb); (try clear hb2); (try clear hk); (try clear hi); (try clear ho0); obtain ⟨hcz35_0, hcz35_1, hcz35_2, hcz35_3, -⟩ := cells_4 BK243.out trivial; obtain ⟨hfz35_0, hfz35_1, hfz35_2, hfz35_3, -⟩ := frz_4 BK243.out; obtain ⟨Ao36, co36, eo36⟩ := Kd.R_slice HO246.out; subst eo36) | ((with_reducible refine gate_callee (f := 24) rfl ?_); refine gl_ (some 35) Try.func24 #[.agg #[.slice Ao30 t235.length co30, .bool t238, .int .i64 t239, .slice Ao33 t240.length co33], .slice Ao36 t244.length co36] (h := ?_); (with_reducible refine (impl_TreeGet.calls k _ _ t235 t238 t239 _ _ t240 _ _ t244 t247 t248 _ ?side1 ?side2 ?side3 ?side4 ?side5 ?side6 A15.out).mono ?_); (case side1 => repeat (first | exact (Kd.R_reads' HO237.out).2.2 | (with_reducible refine Kd.C_alloc ?_ _) | (with_reducible refine Kd.C_drewN ?_ _) | (with_reducible refine Kd.C_drew ?_))); (case side2 => exact (Kd.R_reads' HO237.out).2.1); (case side3 => repeat (first | exact (Kd.R_reads' HO242.out).2.2 | (with_reducible refine Kd.C_alloc ?_ _) | (with_reducible refine Kd.C_drewN ?_ _) | (with_reducible refine Kd.C_drew ?_))); (case side4 => exact (Kd.R_reads' HO242.out).2.1); (case side5 => repeat (first | exact (Kd.R_reads' HO246.out).2.2 | (with_reducible refine Kd.C_alloc ?_ _) | (with_reducible refine Kd.C_drewN ?_ _) | (with_reducible refine Kd.C_drew ?_))); (case side6 => exact (Kd.R_reads' HO246.out).2.1); rintro e w37 ⟨rfl, hb⟩; refine ⟨_, rfl, ?_⟩; replace HO224 := Aside0.mk (rbl HO224 hb); replace HO229 := Aside0.mk (rbl HO229 hb); replace HO232 := Aside0.mk (rbl HO232 hb); replace HO237 := Aside0.mk (rbl HO237 hb); replace HO242 := Aside0.mk (rbl HO242 hb); replace HO246 := Aside0.mk (rbl HO246 hb); replace BK220 := Aside0.mk (blb BK220 hb); replace BK243 := Aside0.mk (blb BK243 hb); replace HB := Aside0.mk (below_step bel hb); (try clear hb); (try clear hb2); (try clear hk); (try clear hi)))
   (try simp only [Act.put, List.setIfInBounds_toArray, List.set_cons_zero, List.set_cons_succ])
   go_cut [45] (fun v45 wc => ∃ (kq : Nat) (x45_15 : Bool), v45 = .bool x45_15 ∧ Aside0 (laws_FnExactTreeGet.j0 kq l1 t244 x45_15 l0_0 a0_1 a0_2 l0_3 t235 t238 t239 t240 = some r) ∧ Aside0 (kq ≤ k) ∧ Aside0 (Kd.R (Kd.int .u8) 5 wc w.heap.size (fun k_ => some k_ ≠ ((.slice Ao30 t235.length co30) : Value).ownBlock) (.slice Ao36 t244.length co36) t244) ∧ Aside0 (Kd.R (Kd.int .u8) 5 wc w.heap.size (fun k_ => some k_ ≠ ((.slice Ao36 t244.length co36) : Value).ownBlock) (.slice Ao30 t235.length co30) t235) ∧ Aside0 (Kd.R k30 30 wc w.heap.size (fun k_ => some k_ ≠ ((.slice Ao36 t244.length co36) : Value).ownBlock ∧ some k_ ≠ ((.slice Ao30 t235.length co30) : Value).ownBlock ∧ k_ ≠ gb243) (.slice Ao33 t240.length co33) t240) ∧ Aside0 (wc.heap[gb220]? = some (.cells #[(.slice A0_0 l0_0.length c0_0), .bool a0_1, .int .i64 a0_2, (.slice A0_3 l0_3.length c0_3)] 25 (0, 0))) ∧ Aside0 (wc.heap[gb243]? = some (.cells #[(.slice Ao30 t235.length co30), .bool t238, .int .i64 t239, (.slice Ao33 t240.length co33)] 30 (0, 0))) ∧ Aside0 (Below w.heap.size w wc))
   case first =>
    have H := HC16.out
    clear HC16
    by_cases c38 : t247 = t233
    ·rw [if_pos c38] at H
     have c38b0 : (t247 == t233) = true := beq_iff_eq.mpr c38
     have c38b1 : (t247 != t233) = false := bne_eq_false_iff_eq.mpr c38
     clear c38
     (first | rw [c38b0] | (simp only [i64_w, i32_w]; rw [c38b0]) | skip)
     have H' := Aside0.mk H
     clear H
     go_wp2
     go_meet
     case rel => exact ⟨_, ((t248 != t234)), (by first | rfl | (simp; done) | (simp [*]; done)), H', ⟨by first | omega | exact Nat.le_refl _⟩, ⟨by (with_reducible repeat (first | apply Kd.R_alloc | apply Kd.R_drewN | apply Kd.R_drew)); exact Kd.R_mono HO246.out (fun _ hk => hk.2)⟩, ⟨by (with_reducible repeat (first | apply Kd.R_alloc | apply Kd.R_drewN | apply Kd.R_drew)); exact Kd.R_mono HO237.out (fun _ hk => hk.2)⟩, ⟨by (with_reducible repeat (first | apply Kd.R_alloc | apply Kd.R_drewN | apply Kd.R_drew)); exact Kd.R_mono HO242.out (fun _ hk => ⟨hk.2, ⟨hk.1.1.1.1.1, hk.1.2⟩⟩)⟩, ⟨by (with_reducible repeat (first | refine blk_drewN ?_ _ | refine blk_drew ?_ | refine blk_alloc ?_ _)); exact BK220.out⟩, ⟨by (with_reducible repeat (first | refine blk_drewN ?_ _ | refine blk_drew ?_ | refine blk_alloc ?_ _)); exact BK243.out⟩, ⟨by repeat (first | (with_reducible first | exact HB.out | apply below_alloc | apply pw_below_drewN | apply below_drew1 | refine below_set ?_ GE220.out | refine below_set ?_ GE243.out) | exact HB.out)⟩⟩
    ·rw [if_neg c38] at H
     have c38b0 : (t247 == t233) = false := beq_eq_false_iff_ne.mpr c38
     have c38b1 : (t247 != t233) = true := bne_iff_ne.mpr c38
     (first | rw [c38b0] | (simp only [i64_w, i32_w]; rw [c38b0]) | skip)
     have H' := Aside0.mk H
     clear H
     go_wp2
     go_meet
     case rel => exact ⟨_, (true), (by first | rfl | (simp; done) | (simp [*]; done)), H', ⟨by first | omega | exact Nat.le_refl _⟩, ⟨by (with_reducible repeat (first | apply Kd.R_alloc | apply Kd.R_drewN | apply Kd.R_drew)); exact Kd.R_mono HO246.out (fun _ hk => hk.2)⟩, ⟨by (with_reducible repeat (first | apply Kd.R_alloc | apply Kd.R_drewN | apply Kd.R_drew)); exact Kd.R_mono HO237.out (fun _ hk => hk.2)⟩, ⟨by (with_reducible repeat (first | apply Kd.R_alloc | apply Kd.R_drewN | apply Kd.R_drew)); exact Kd.R_mono HO242.out (fun _ hk => ⟨hk.2, ⟨hk.1.1.1.1.1, hk.1.2⟩⟩)⟩, ⟨by (with_reducible repeat (first | refine blk_drewN ?_ _ | refine blk_drew ?_ | refine blk_alloc ?_ _)); exact BK220.out⟩, ⟨by (with_reducible repeat (first | refine blk_drewN ?_ _ | refine blk_drew ?_ | refine blk_alloc ?_ _)); exact BK243.out⟩, ⟨by repeat (first | (with_reducible first | exact HB.out | apply below_alloc | apply pw_below_drewN | apply below_drew1 | refine below_set ?_ GE220.out | refine below_set ?_ GE243.out) | exact HB.out)⟩⟩
   case rest =>
    clear HC16
    try clear c1; try clear c2; try clear p2; try clear c3; try clear c3b0; try clear c3b1; try clear c5; try clear c6; try clear c6b0; try clear c15; try clear c17; try clear c22; try clear c23; try clear c24; try clear c31; try clear c38; try clear c38b0; try clear c38b1; try clear hcz18_0; try clear hcz18_1; try clear hcz18_2; try clear hcz18_3; try clear hcz20_0; try clear hcz20_1; try clear hcz20_2; try clear hcz20_3; try clear hcz27_0; try clear hcz27_1; try clear hcz27_2; try clear hcz27_3; try clear hcz32_0; try clear hcz32_1; try clear hcz32_2; try clear hcz32_3; try clear hcz35_0; try clear hcz35_1; try clear hcz35_2; try clear hcz35_3; try clear hcz8_0; try clear hcz8_1; try clear hcz8_2; try clear hcz8_3; try clear hfz18_0; try clear hfz18_1; try clear hfz18_2; try clear hfz18_3; try clear hfz20_0; try clear hfz20_1; try clear hfz20_2; try clear hfz20_3; try clear hfz27_0; try clear hfz27_1; try clear hfz27_2; try clear hfz27_3; try clear hfz32_0; try clear hfz32_1; try clear hfz32_2; try clear hfz32_3; try clear hfz35_0; try clear hfz35_1; try clear hfz35_2; try clear hfz35_3; try clear hfz8_0; try clear hfz8_1; try clear hfz8_2; try clear hfz8_3
    obtain ⟨kq, x45_15, rfl, HA, HJ15, HO_9, HO_244000, HO_244003, BK220, BK243, HB⟩ := hcut
    cases kq with
    | zero => exact absurd HA.out (by simp [laws_FnExactTreeGet.j0])
    | succ kj15 =>
     have H := HA.out
     clear HA
     simp only [laws_FnExactTreeGet.j0] at H
     by_cases c39 : x45_15 = true
     ·subst c39
      have H1 : (some false) = some r := by rw [if_pos rfl] at H; exact H
      clear H
      have H := H1
      clear H1
      obtain rfl := Option.some.inj H
      go_wp2
      go_ret
      exact ⟨by first | rfl | (simp [errW_none, errW_some] <;> rfl) | (simp [*, errW_none, errW_some] <;> rfl), by repeat (first | (with_reducible first | exact HB.out | apply below_alloc | apply pw_below_drewN | apply below_drew1 | refine below_set ?_ GE220.out | refine below_set ?_ GE243.out) | exact HB.out)⟩
     ·replace c39 := Bool.eq_false_iff.mpr c39
      subst c39
      have H1 : ((laws_toTree.f kj15 l0_0 a0_1 a0_2 l0_3).bind fun bt249 => ((laws_eqTree.f kj15 t235 t238 t239 t240 bt249.1 bt249.2.1 bt249.2.2.1 bt249.2.2.2).bind fun t257 => (if t257 = true then ((laws_toByteS.f kj15 l1).bind fun t258 => ((laws_eqByteS.f kj15 t244 t258).bind fun t261 => (if t261 = true then (some true) else (some false)))) else (some false)))) = some r := by rw [if_neg (show ¬ (false = true) by decide)] at H; exact H
      clear H
      have H := H1
      clear H1
      replace H := Option.bind_eq_some_iff.mp H
      obtain ⟨⟨t249, t252, t253, t254⟩, A400, H⟩ := H
      replace H : ((laws_eqTree.f kj15 t235 t238 t239 t240 t249 t252 t253 t254).bind fun t257 => (if t257 = true then ((laws_toByteS.f kj15 l1).bind fun t258 => ((laws_eqByteS.f kj15 t244 t258).bind fun t261 => (if t261 = true then (some true) else (some false)))) else (some false))) = some r := H
      have A40 := Aside0.mk A400
      clear A400
      replace H := Option.bind_eq_some_iff.mp H
      obtain ⟨t257, A410, H⟩ := H
      replace H : (if t257 = true then ((laws_toByteS.f kj15 l1).bind fun t258 => ((laws_eqByteS.f kj15 t244 t258).bind fun t261 => (if t261 = true then (some true) else (some false)))) else (some false)) = some r := H
      have A41 := Aside0.mk A410
      clear A410
      by_cases c42 : t257 = true
      ·subst c42
       have H1 : ((laws_toByteS.f kj15 l1).bind fun t258 => ((laws_eqByteS.f kj15 t244 t258).bind fun t261 => (if t261 = true then (some true) else (some false)))) = some r := by rw [if_pos rfl] at H; exact H
       clear H
       have H := H1
       clear H1
       replace H := Option.bind_eq_some_iff.mp H
       obtain ⟨t258, A430, H⟩ := H
       replace H : ((laws_eqByteS.f kj15 t244 t258).bind fun t261 => (if t261 = true then (some true) else (some false))) = some r := H
       have A43 := Aside0.mk A430
       clear A430
       replace H := Option.bind_eq_some_iff.mp H
       obtain ⟨t261, A440, H⟩ := H
       replace H : (if t261 = true then (some true) else (some false)) = some r := H
       have A44 := Aside0.mk A440
       clear A440
       by_cases c45 : t261 = true
       ·subst c45
        have H1 : (some true) = some r := by rw [if_pos rfl] at H; exact H
        clear H
        have H := H1
        clear H1
        obtain rfl := Option.some.inj H
        try go_wp2
        replace HO_9 := Aside0.mk (Kd.R_drew HO_9.out)
        replace HO_244000 := Aside0.mk (Kd.R_drew HO_244000.out)
        replace HO_244003 := Aside0.mk (Kd.R_drew HO_244003.out)
        replace BK220 := Aside0.mk (blk_drew BK220.out)
        replace BK243 := Aside0.mk (blk_drew BK243.out)
        replace HB := Aside0.mk (below_drew1 HB.out)
        refine start_ (n := 5) (S := fun w' => w'.cell? ⟨gb243, 0, none⟩ = some (.slice Ao30 t235.length co30) ∧ w'.cell? ⟨gb243, 1, none⟩ = some (.bool t238) ∧ w'.cell? ⟨gb243, 2, none⟩ = some (.int .i64 t239) ∧ w'.cell? ⟨gb243, 3, none⟩ = some (.slice Ao33 t240.length co33) ∧ w'.cell? ⟨gb220, 0, none⟩ = some (.slice A0_0 l0_0.length c0_0) ∧ w'.cell? ⟨gb220, 1, none⟩ = some (.bool a0_1) ∧ w'.cell? ⟨gb220, 2, none⟩ = some (.int .i64 a0_2) ∧ w'.cell? ⟨gb220, 3, none⟩ = some (.slice A0_3 l0_3.length c0_3)) (ds := []) #[false, false, false, false, false] (by kernel_rfl) rfl rfl (cells_4 BK243.out ⟨(blk_cell BK220.out 0).trans rfl, (blk_cell BK220.out 1).trans rfl, (blk_cell BK220.out 2).trans rfl, (blk_cell BK220.out 3).trans rfl⟩) (fun hHeld => ?_)
        generalize wc.drew = w46 at HO_9 HO_244000 HO_244003 BK220 BK243 HB hHeld ⊢
        refine take_ (i := 0) (N := some 46) (v := ?_) (a' := ?_) #[true, false, false, false, false] rfl rfl (by kernel_rfl) (fun _ _ _ h => h) (Or.inl ⟨by rfl, ?_⟩) hHeld ?_ ?_
        rotate_left
        ·rintro w' ⟨s0, s1, s2, s3, s4, s5, s6, s7⟩
         go_simp
         with_reducible rfl
        rotate_left
        ·simp only [Act.put, List.setIfInBounds_toArray, List.set_cons_zero, List.set_cons_succ, i64_w, i32_w]
         rfl
        refine take_ (i := 1) (N := some 47) (v := ?_) (a' := ?_) #[true, true, false, false, false] rfl rfl (by kernel_rfl) (fun _ _ _ h => h) (Or.inl ⟨by rfl, ?_⟩) hHeld ?_ ?_
        rotate_left
        ·rintro w' ⟨s0, s1, s2, s3, s4, s5, s6, s7⟩
         go_simp
         with_reducible rfl
        rotate_left
        ·simp only [Act.put, List.setIfInBounds_toArray, List.set_cons_zero, List.set_cons_succ, i64_w, i32_w]
         rfl
        refine one_ (i := 2) (N := some 48) #[true, true, true, false, false] rfl rfl (by kernel_rfl) (by decide) (fun K hK => ?_)
        refine gs_ Try.func17 #[.agg #[.slice A0_0 l0_0.length c0_0, .bool a0_1, .int .i64 a0_2, .slice A0_3 l0_3.length c0_3]] (h := ?_)
        with_reducible refine (laws_toTree.calls kj15 _ _ l0_0 a0_1 a0_2 _ _ l0_3 t249 t252 t253 t254 _ ?side1 ?side2 ?side3 ?side4 A40.out).mono ?_
        (case side1 => exact kcb)
        (case side2 => exact HC0_0.out)
        (case side3 => exact kcb)
        (case side4 => exact HC0_3.out)
        rintro e w47 ⟨v250, v255, rfl, ho0, ho1, hb⟩
        refine ⟨_, rfl, ?_⟩
        have HO251 := Aside0.mk (Kd.R_lower (Kd.R_new' (Kd.R_new' ho0 (Kd.R_lt (by (with_reducible repeat (first | apply Kd.R_alloc | apply Kd.R_drewN | apply Kd.R_drew)); exact HO_9.out))) (Kd.R_lt (by (with_reducible repeat (first | apply Kd.R_alloc | apply Kd.R_drewN | apply Kd.R_drew)); exact HO_244000.out))) (below_size bel))
        have HO256 := Aside0.mk (Kd.R_lower (Kd.R_newB (Kd.R_new' (Kd.R_new' (Kd.R_new' ho1 (Kd.R_lt (by (with_reducible repeat (first | apply Kd.R_alloc | apply Kd.R_drewN | apply Kd.R_drew)); exact HO_9.out))) (Kd.R_lt (by (with_reducible repeat (first | apply Kd.R_alloc | apply Kd.R_drewN | apply Kd.R_drew)); exact HO_244000.out))) (Kd.R_lt (by (with_reducible repeat (first | apply Kd.R_alloc | apply Kd.R_drewN | apply Kd.R_drew)); exact HO_244003.out))) (g := gb243) (o := .cells #[.slice Ao30 t235.length co30, .bool t238, .int .i64 t239, .slice Ao33 t240.length co33] 30 (0, 0)) (by (with_reducible repeat (first | refine blk_drewN ?_ _ | refine blk_drew ?_ | refine blk_alloc ?_ _)); exact BK243.out)) (below_size bel))
        replace HO_9 := Aside0.mk (Kd.R_elder' (by (with_reducible repeat (first | apply Kd.R_alloc | apply Kd.R_drewN | apply Kd.R_drew)); exact HO_9.out) (Kd.R_base ho0) hb)
        replace HO_244000 := Aside0.mk (Kd.R_elder' (by (with_reducible repeat (first | apply Kd.R_alloc | apply Kd.R_drewN | apply Kd.R_drew)); exact HO_244000.out) (Kd.R_base ho0) hb)
        replace HO_244003 := Aside0.mk (Kd.R_mono (Kd.R_told (Kd.R_told (Kd.R_old (by (with_reducible repeat (first | apply Kd.R_alloc | apply Kd.R_drewN | apply Kd.R_drew)); exact HO_244003.out) hb) (Kd.R_base ho0)) (Kd.R_base ho1)) (fun _ h_ => h_.1))
        replace BK220 := Aside0.mk (blb BK220 hb)
        replace BK243 := Aside0.mk (blb BK243 hb)
        replace HB := Aside0.mk (below_step bel hb)
        (try clear hb)
        (try clear hb2)
        (try clear hk)
        (try clear hi)
        (try clear ho0)
        (try clear ho1)
        obtain ⟨Ao48, co48, eo48⟩ := Kd.R_slice HO251.out
        (first | subst eo48 | (injection eo48 with f1_ f2_ f3_; have f4_ := f1_.symm; have f5_ := f3_.symm; clear f1_ f2_ f3_; subst f4_; subst f5_))
        obtain ⟨Ao49, co49, eo49⟩ := Kd.R_slice HO256.out
        (first | subst eo49 | (injection eo49 with f1_ f2_ f3_; have f4_ := f1_.symm; have f5_ := f3_.symm; clear f1_ f2_ f3_; subst f4_; subst f5_))
        refine hK.out _ _ (cells_4 BK243.out ⟨(blk_cell BK220.out 0).trans rfl, (blk_cell BK220.out 1).trans rfl, (blk_cell BK220.out 2).trans rfl, (blk_cell BK220.out 3).trans rfl⟩) (fun hHeld => ?_)
        clear hK K
        refine norm_ (a' := ?_) ?_ ?_
        rotate_left
        ·show Act.put _ (some 48) _ = _
         simp only [Act.put, List.setIfInBounds_toArray, List.set_cons_zero, List.set_cons_succ, i64_w, i32_w]
         rfl
        refine one_ (i := 3) (N := some 49) #[true, true, true, true, false] rfl rfl (by kernel_rfl) (by decide) (fun K hK => ?_)
        refine gs_ Try.func19 #[.agg #[.slice Ao30 t235.length co30, .bool t238, .int .i64 t239, .slice Ao33 t240.length co33], .agg #[.slice Ao48 t249.length co48, .bool t252, .int .i64 t253, .slice Ao49 t254.length co49]] (h := ?_)
        with_reducible refine (laws_eqTree.calls kj15 _ _ t235 t238 t239 _ _ t240 _ _ t249 t252 t253 _ _ t254 true _ ?side1 ?side2 ?side3 ?side4 ?side5 ?side6 ?side7 ?side8 A41.out).mono ?_
        (case side1 => repeat (first | exact (Kd.R_reads' HO_244000.out).2.2 | (with_reducible refine Kd.C_alloc ?_ _) | (with_reducible refine Kd.C_drewN ?_ _) | (with_reducible refine Kd.C_drew ?_)))
        (case side2 => exact (Kd.R_reads' HO_244000.out).2.1)
        (case side3 => repeat (first | exact (Kd.R_reads' HO_244003.out).2.2 | (with_reducible refine Kd.C_alloc ?_ _) | (with_reducible refine Kd.C_drewN ?_ _) | (with_reducible refine Kd.C_drew ?_)))
        (case side4 => exact (Kd.R_reads' HO_244003.out).2.1)
        (case side5 => repeat (first | exact (Kd.R_reads' HO251.out).2.2 | (with_reducible refine Kd.C_alloc ?_ _) | (with_reducible refine Kd.C_drewN ?_ _) | (with_reducible refine Kd.C_drew ?_)))
        (case side6 => exact (Kd.R_reads' HO251.out).2.1)
        (case side7 => repeat (first | exact (Kd.R_reads' HO256.out).2.2 | (with_reducible refine Kd.C_alloc ?_ _) | (with_reducible refine Kd.C_drewN ?_ _) | (with_reducible refine Kd.C_drew ?_)))
        (case side8 => exact (Kd.R_reads' HO256.out).2.1)
        rintro e w50 ⟨rfl, hb⟩
        refine ⟨_, rfl, ?_⟩
        replace HO_9 := Aside0.mk (rbl HO_9 hb)
        replace HO_244000 := Aside0.mk (rbl HO_244000 hb)
        replace HO_244003 := Aside0.mk (rbl HO_244003 hb)
        replace HO251 := Aside0.mk (rbl HO251 hb)
        replace HO256 := Aside0.mk (rbl HO256 hb)
        replace BK220 := Aside0.mk (blb BK220 hb)
        replace BK243 := Aside0.mk (blb BK243 hb)
        replace HB := Aside0.mk (below_step bel hb)
        (try clear hb)
        (try clear hb2)
        (try clear hk)
        (try clear hi)
        refine hK.out _ _ (cells_4 BK243.out ⟨(blk_cell BK220.out 0).trans rfl, (blk_cell BK220.out 1).trans rfl, (blk_cell BK220.out 2).trans rfl, (blk_cell BK220.out 3).trans rfl⟩) (fun hHeld => ?_)
        clear hK K
        refine norm_ (a' := ?_) ?_ ?_
        rotate_left
        ·show Act.put _ (some 49) _ = _
         simp only [Act.put, List.setIfInBounds_toArray, List.set_cons_zero, List.set_cons_succ, i64_w, i32_w]
         rfl
        refine pure_ (i := 4) (N := some 50) (v := ?_) (a' := ?_) #[true, true, true, true, true] rfl rfl (by kernel_rfl) (fun _ _ _ h => h) (Or.inl ⟨by rfl, ?_⟩) ?_ ?_
        rotate_left
        ·intro w'
         go_simp
         with_reducible rfl
        rotate_left
        ·simp only [Act.put, List.setIfInBounds_toArray, List.set_cons_zero, List.set_cons_succ, i64_w, i32_w]
         rfl
        refine done_ (by kernel_rfl) ?_
        try go_wp2_with (first | ((with_reducible refine gate_callee (f := 23) rfl ?_); refine gl_ (some 53) Try.func23 #[.slice A1 l1.length c1] (h := ?_); (with_reducible refine (laws_toByteS.calls kj15 _ _ l1 t258 _ ?side1 ?side2 A43.out).mono ?_); (case side1 => exact kcb); (case side2 => exact HC1.out); rintro e w51 ⟨v259, rfl, ho0, hb⟩; refine ⟨_, rfl, ?_⟩; have HO260 := Aside0.mk (Kd.R_lower (Kd.R_new' (Kd.R_new' (Kd.R_new' ho0 (Kd.R_lt (by (with_reducible repeat (first | apply Kd.R_alloc | apply Kd.R_drewN | apply Kd.R_drew)); exact HO_9.out))) (Kd.R_lt (by (with_reducible repeat (first | apply Kd.R_alloc | apply Kd.R_drewN | apply Kd.R_drew)); exact HO_244000.out))) (Kd.R_lt (by (with_reducible repeat (first | apply Kd.R_alloc | apply Kd.R_drewN | apply Kd.R_drew)); exact HO251.out))) (below_size bel)); replace HO_9 := Aside0.mk (Kd.R_elder' (by (with_reducible repeat (first | apply Kd.R_alloc | apply Kd.R_drewN | apply Kd.R_drew)); exact HO_9.out) (Kd.R_base ho0) hb); replace HO_244000 := Aside0.mk (Kd.R_elder' (by (with_reducible repeat (first | apply Kd.R_alloc | apply Kd.R_drewN | apply Kd.R_drew)); exact HO_244000.out) (Kd.R_base ho0) hb); replace HO_244003 := Aside0.mk (Kd.R_elder' (by (with_reducible repeat (first | apply Kd.R_alloc | apply Kd.R_drewN | apply Kd.R_drew)); exact HO_244003.out) (Kd.R_base ho0) hb); replace HO251 := Aside0.mk (Kd.R_elder' (by (with_reducible repeat (first | apply Kd.R_alloc | apply Kd.R_drewN | apply Kd.R_drew)); exact HO251.out) (Kd.R_base ho0) hb); replace HO256 := Aside0.mk (Kd.R_elder' (by (with_reducible repeat (first | apply Kd.R_alloc | apply Kd.R_drewN | apply Kd.R_drew)); exact HO256.out) (Kd.R_base ho0) hb); replace BK220 := Aside0.mk (blb BK220 hb); replace BK243 := Aside0.mk (blb BK243 hb); replace HB := Aside0.mk (below_step bel hb); (try clear hb); (try clear hb2); (try clear hk); (try clear hi); (try clear ho0); obtain ⟨Ao52, co52, eo52⟩ := Kd.R_slice HO260.out; subst eo52) | ((with_reducible refine gate_callee (f := 25) rfl ?_); refine gl_ (some 54) Try.func25 #[.slice Ao36 t244.length co36, .slice Ao52 t258.length co52] (h := ?_); (with_reducible refine (laws_eqByteS.calls kj15 _ _ t244 _ _ t258 true _ ?side1 ?side2 ?side3 ?side4 A44.out).mono ?_); (case side1 => repeat (first | exact (Kd.R_reads' HO_9.out).2.2 | (with_reducible refine Kd.C_alloc ?_ _) | (with_reducible refine Kd.C_drewN ?_ _) | (with_reducible refine Kd.C_drew ?_))); (case side2 => exact (Kd.R_reads' HO_9.out).2.1); (case side3 => repeat (first | exact (Kd.R_reads' HO260.out).2.2 | (with_reducible refine Kd.C_alloc ?_ _) | (with_reducible refine Kd.C_drewN ?_ _) | (with_reducible refine Kd.C_drew ?_))); (case side4 => exact (Kd.R_reads' HO260.out).2.1); rintro e w' ⟨rfl, ⟨nd, rfl⟩⟩; refine ⟨_, rfl, ?_⟩))
        go_ret
        exact ⟨by first | rfl | (simp [errW_none, errW_some] <;> rfl) | (simp [*, errW_none, errW_some] <;> rfl), by repeat (first | (with_reducible first | exact HB.out | apply below_alloc | apply pw_below_drewN | apply below_drew1 | refine below_set ?_ GE220.out | refine below_set ?_ GE243.out) | exact HB.out)⟩
       ·replace c45 := Bool.eq_false_iff.mpr c45
        subst c45
        have H1 : (some false) = some r := by rw [if_neg (show ¬ (false = true) by decide)] at H; exact H
        clear H
        have H := H1
        clear H1
        obtain rfl := Option.some.inj H
        try go_wp2
        replace HO_9 := Aside0.mk (Kd.R_drew HO_9.out)
        replace HO_244000 := Aside0.mk (Kd.R_drew HO_244000.out)
        replace HO_244003 := Aside0.mk (Kd.R_drew HO_244003.out)
        replace BK220 := Aside0.mk (blk_drew BK220.out)
        replace BK243 := Aside0.mk (blk_drew BK243.out)
        replace HB := Aside0.mk (below_drew1 HB.out)
        refine start_ (n := 5) (S := fun w' => w'.cell? ⟨gb243, 0, none⟩ = some (.slice Ao30 t235.length co30) ∧ w'.cell? ⟨gb243, 1, none⟩ = some (.bool t238) ∧ w'.cell? ⟨gb243, 2, none⟩ = some (.int .i64 t239) ∧ w'.cell? ⟨gb243, 3, none⟩ = some (.slice Ao33 t240.length co33) ∧ w'.cell? ⟨gb220, 0, none⟩ = some (.slice A0_0 l0_0.length c0_0) ∧ w'.cell? ⟨gb220, 1, none⟩ = some (.bool a0_1) ∧ w'.cell? ⟨gb220, 2, none⟩ = some (.int .i64 a0_2) ∧ w'.cell? ⟨gb220, 3, none⟩ = some (.slice A0_3 l0_3.length c0_3)) (ds := []) #[false, false, false, false, false] (by kernel_rfl) rfl rfl (cells_4 BK243.out ⟨(blk_cell BK220.out 0).trans rfl, (blk_cell BK220.out 1).trans rfl, (blk_cell BK220.out 2).trans rfl, (blk_cell BK220.out 3).trans rfl⟩) (fun hHeld => ?_)
        generalize wc.drew = w53 at HO_9 HO_244000 HO_244003 BK220 BK243 HB hHeld ⊢
        refine take_ (i := 0) (N := some 46) (v := ?_) (a' := ?_) #[true, false, false, false, false] rfl rfl (by kernel_rfl) (fun _ _ _ h => h) (Or.inl ⟨by rfl, ?_⟩) hHeld ?_ ?_
        rotate_left
        ·rintro w' ⟨s0, s1, s2, s3, s4, s5, s6, s7⟩
         go_simp
         with_reducible rfl
        rotate_left
        ·simp only [Act.put, List.setIfInBounds_toArray, List.set_cons_zero, List.set_cons_succ, i64_w, i32_w]
         rfl
        refine take_ (i := 1) (N := some 47) (v := ?_) (a' := ?_) #[true, true, false, false, false] rfl rfl (by kernel_rfl) (fun _ _ _ h => h) (Or.inl ⟨by rfl, ?_⟩) hHeld ?_ ?_
        rotate_left
        ·rintro w' ⟨s0, s1, s2, s3, s4, s5, s6, s7⟩
         go_simp
         with_reducible rfl
        rotate_left
        ·simp only [Act.put, List.setIfInBounds_toArray, List.set_cons_zero, List.set_cons_succ, i64_w, i32_w]
         rfl
        refine one_ (i := 2) (N := some 48) #[true, true, true, false, false] rfl rfl (by kernel_rfl) (by decide) (fun K hK => ?_)
        refine gs_ Try.func17 #[.agg #[.slice A0_0 l0_0.length c0_0, .bool a0_1, .int .i64 a0_2, .slice A0_3 l0_3.length c0_3]] (h := ?_)
        with_reducible refine (laws_toTree.calls kj15 _ _ l0_0 a0_1 a0_2 _ _ l0_3 t249 t252 t253 t254 _ ?side1 ?side2 ?side3 ?side4 A40.out).mono ?_
        (case side1 => exact kcb)
        (case side2 => exact HC0_0.out)
        (case side3 => exact kcb)
        (case side4 => exact HC0_3.out)
        rintro e w54 ⟨v250, v255, rfl, ho0, ho1, hb⟩
        refine ⟨_, rfl, ?_⟩
        have HO251 := Aside0.mk (Kd.R_lower (Kd.R_new' (Kd.R_new' ho0 (Kd.R_lt (by (with_reducible repeat (first | apply Kd.R_alloc | apply Kd.R_drewN | apply Kd.R_drew)); exact HO_9.out))) (Kd.R_lt (by (with_reducible repeat (first | apply Kd.R_alloc | apply Kd.R_drewN | apply Kd.R_drew)); exact HO_244000.out))) (below_size bel))
        have HO256 := Aside0.mk (Kd.R_lower (Kd.R_newB (Kd.R_new' (Kd.R_new' (Kd.R_new' ho1 (Kd.R_lt (by (with_reducible repeat (first | apply Kd.R_alloc | apply Kd.R_drewN | apply Kd.R_drew)); exact HO_9.out))) (Kd.R_lt (by (with_reducible repeat (first | apply Kd.R_alloc | apply Kd.R_drewN | apply Kd.R_drew)); exact HO_244000.out))) (Kd.R_lt (by (with_reducible repeat (first | apply Kd.R_alloc | apply Kd.R_drewN | apply Kd.R_drew)); exact HO_244003.out))) (g := gb243) (o := .cells #[.slice Ao30 t235.length co30, .bool t238, .int .i64 t239, .slice Ao33 t240.length co33] 30 (0, 0)) (by (with_reducible repeat (first | refine blk_drewN ?_ _ | refine blk_drew ?_ | refine blk_alloc ?_ _)); exact BK243.out)) (below_size bel))
        replace HO_9 := Aside0.mk (Kd.R_elder' (by (with_reducible repeat (first | apply Kd.R_alloc | apply Kd.R_drewN | apply Kd.R_drew)); exact HO_9.out) (Kd.R_base ho0) hb)
        replace HO_244000 := Aside0.mk (Kd.R_elder' (by (with_reducible repeat (first | apply Kd.R_alloc | apply Kd.R_drewN | apply Kd.R_drew)); exact HO_244000.out) (Kd.R_base ho0) hb)
        replace HO_244003 := Aside0.mk (Kd.R_mono (Kd.R_told (Kd.R_told (Kd.R_old (by (with_reducible repeat (first | apply Kd.R_alloc | apply Kd.R_drewN | apply Kd.R_drew)); exact HO_244003.out) hb) (Kd.R_base ho0)) (Kd.R_base ho1)) (fun _ h_ => h_.1))
        replace BK220 := Aside0.mk (blb BK220 hb)
        replace BK243 := Aside0.mk (blb BK243 hb)
        replace HB := Aside0.mk (below_step bel hb)
        (try clear hb)
        (try clear hb2)
        (try clear hk)
        (try clear hi)
        (try clear ho0)
        (try clear ho1)
        obtain ⟨Ao55, co55, eo55⟩ := Kd.R_slice HO251.out
        (first | subst eo55 | (injection eo55 with f1_ f2_ f3_; have f4_ := f1_.symm; have f5_ := f3_.symm; clear f1_ f2_ f3_; subst f4_; subst f5_))
        obtain ⟨Ao56, co56, eo56⟩ := Kd.R_slice HO256.out
        (first | subst eo56 | (injection eo56 with f1_ f2_ f3_; have f4_ := f1_.symm; have f5_ := f3_.symm; clear f1_ f2_ f3_; subst f4_; subst f5_))
        refine hK.out _ _ (cells_4 BK243.out ⟨(blk_cell BK220.out 0).trans rfl, (blk_cell BK220.out 1).trans rfl, (blk_cell BK220.out 2).trans rfl, (blk_cell BK220.out 3).trans rfl⟩) (fun hHeld => ?_)
        clear hK K
        refine norm_ (a' := ?_) ?_ ?_
        rotate_left
        ·show Act.put _ (some 48) _ = _
         simp only [Act.put, List.setIfInBounds_toArray, List.set_cons_zero, List.set_cons_succ, i64_w, i32_w]
         rfl
        refine one_ (i := 3) (N := some 49) #[true, true, true, true, false] rfl rfl (by kernel_rfl) (by decide) (fun K hK => ?_)
        refine gs_ Try.func19 #[.agg #[.slice Ao30 t235.length co30, .bool t238, .int .i64 t239, .slice Ao33 t240.length co33], .agg #[.slice Ao55 t249.length co55, .bool t252, .int .i64 t253, .slice Ao56 t254.length co56]] (h := ?_)
        with_reducible refine (laws_eqTree.calls kj15 _ _ t235 t238 t239 _ _ t240 _ _ t249 t252 t253 _ _ t254 true _ ?side1 ?side2 ?side3 ?side4 ?side5 ?side6 ?side7 ?side8 A41.out).mono ?_
        (case side1 => repeat (first | exact (Kd.R_reads' HO_244000.out).2.2 | (with_reducible refine Kd.C_alloc ?_ _) | (with_reducible refine Kd.C_drewN ?_ _) | (with_reducible refine Kd.C_drew ?_)))
        (case side2 => exact (Kd.R_reads' HO_244000.out).2.1)
        (case side3 => repeat (first | exact (Kd.R_reads' HO_244003.out).2.2 | (with_reducible refine Kd.C_alloc ?_ _) | (with_reducible refine Kd.C_drewN ?_ _) | (with_reducible refine Kd.C_drew ?_)))
        (case side4 => exact (Kd.R_reads' HO_244003.out).2.1)
        (case side5 => repeat (first | exact (Kd.R_reads' HO251.out).2.2 | (with_reducible refine Kd.C_alloc ?_ _) | (with_reducible refine Kd.C_drewN ?_ _) | (with_reducible refine Kd.C_drew ?_)))
        (case side6 => exact (Kd.R_reads' HO251.out).2.1)
        (case side7 => repeat (first | exact (Kd.R_reads' HO256.out).2.2 | (with_reducible refine Kd.C_alloc ?_ _) | (with_reducible refine Kd.C_drewN ?_ _) | (with_reducible refine Kd.C_drew ?_)))
        (case side8 => exact (Kd.R_reads' HO256.out).2.1)
        rintro e w57 ⟨rfl, hb⟩
        refine ⟨_, rfl, ?_⟩
        replace HO_9 := Aside0.mk (rbl HO_9 hb)
        replace HO_244000 := Aside0.mk (rbl HO_244000 hb)
        replace HO_244003 := Aside0.mk (rbl HO_244003 hb)
        replace HO251 := Aside0.mk (rbl HO251 hb)
        replace HO256 := Aside0.mk (rbl HO256 hb)
        replace BK220 := Aside0.mk (blb BK220 hb)
        replace BK243 := Aside0.mk (blb BK243 hb)
        replace HB := Aside0.mk (below_step bel hb)
        (try clear hb)
        (try clear hb2)
        (try clear hk)
        (try clear hi)
        refine hK.out _ _ (cells_4 BK243.out ⟨(blk_cell BK220.out 0).trans rfl, (blk_cell BK220.out 1).trans rfl, (blk_cell BK220.out 2).trans rfl, (blk_cell BK220.out 3).trans rfl⟩) (fun hHeld => ?_)
        clear hK K
        refine norm_ (a' := ?_) ?_ ?_
        rotate_left
        ·show Act.put _ (some 49) _ = _
         simp only [Act.put, List.setIfInBounds_toArray, List.set_cons_zero, List.set_cons_succ, i64_w, i32_w]
         rfl
        refine pure_ (i := 4) (N := some 50) (v := ?_) (a' := ?_) #[true, true, true, true, true] rfl rfl (by kernel_rfl) (fun _ _ _ h => h) (Or.inl ⟨by rfl, ?_⟩) ?_ ?_
        rotate_left
        ·intro w'
         go_simp
         with_reducible rfl
        rotate_left
        ·simp only [Act.put, List.setIfInBounds_toArray, List.set_cons_zero, List.set_cons_succ, i64_w, i32_w]
         rfl
        refine done_ (by kernel_rfl) ?_
        try go_wp2_with (first | ((with_reducible refine gate_callee (f := 23) rfl ?_); refine gl_ (some 53) Try.func23 #[.slice A1 l1.length c1] (h := ?_); (with_reducible refine (laws_toByteS.calls kj15 _ _ l1 t258 _ ?side1 ?side2 A43.out).mono ?_); (case side1 => exact kcb); (case side2 => exact HC1.out); rintro e w58 ⟨v259, rfl, ho0, hb⟩; refine ⟨_, rfl, ?_⟩; have HO260 := Aside0.mk (Kd.R_lower (Kd.R_new' (Kd.R_new' (Kd.R_new' ho0 (Kd.R_lt (by (with_reducible repeat (first | apply Kd.R_alloc | apply Kd.R_drewN | apply Kd.R_drew)); exact HO_9.out))) (Kd.R_lt (by (with_reducible repeat (first | apply Kd.R_alloc | apply Kd.R_drewN | apply Kd.R_drew)); exact HO_244000.out))) (Kd.R_lt (by (with_reducible repeat (first | apply Kd.R_alloc | apply Kd.R_drewN | apply Kd.R_drew)); exact HO251.out))) (below_size bel)); replace HO_9 := Aside0.mk (Kd.R_elder' (by (with_reducible repeat (first | apply Kd.R_alloc | apply Kd.R_drewN | apply Kd.R_drew)); exact HO_9.out) (Kd.R_base ho0) hb); replace HO_244000 := Aside0.mk (Kd.R_elder' (by (with_reducible repeat (first | apply Kd.R_alloc | apply Kd.R_drewN | apply Kd.R_drew)); exact HO_244000.out) (Kd.R_base ho0) hb); replace HO_244003 := Aside0.mk (Kd.R_elder' (by (with_reducible repeat (first | apply Kd.R_alloc | apply Kd.R_drewN | apply Kd.R_drew)); exact HO_244003.out) (Kd.R_base ho0) hb); replace HO251 := Aside0.mk (Kd.R_elder' (by (with_reducible repeat (first | apply Kd.R_alloc | apply Kd.R_drewN | apply Kd.R_drew)); exact HO251.out) (Kd.R_base ho0) hb); replace HO256 := Aside0.mk (Kd.R_elder' (by (with_reducible repeat (first | apply Kd.R_alloc | apply Kd.R_drewN | apply Kd.R_drew)); exact HO256.out) (Kd.R_base ho0) hb); replace BK220 := Aside0.mk (blb BK220 hb); replace BK243 := Aside0.mk (blb BK243 hb); replace HB := Aside0.mk (below_step bel hb); (try clear hb); (try clear hb2); (try clear hk); (try clear hi); (try clear ho0); obtain ⟨Ao59, co59, eo59⟩ := Kd.R_slice HO260.out; subst eo59) | ((with_reducible refine gate_callee (f := 25) rfl ?_); refine gl_ (some 54) Try.func25 #[.slice Ao36 t244.length co36, .slice Ao59 t258.length co59] (h := ?_); (with_reducible refine (laws_eqByteS.calls kj15 _ _ t244 _ _ t258 false _ ?side1 ?side2 ?side3 ?side4 A44.out).mono ?_); (case side1 => repeat (first | exact (Kd.R_reads' HO_9.out).2.2 | (with_reducible refine Kd.C_alloc ?_ _) | (with_reducible refine Kd.C_drewN ?_ _) | (with_reducible refine Kd.C_drew ?_))); (case side2 => exact (Kd.R_reads' HO_9.out).2.1); (case side3 => repeat (first | exact (Kd.R_reads' HO260.out).2.2 | (with_reducible refine Kd.C_alloc ?_ _) | (with_reducible refine Kd.C_drewN ?_ _) | (with_reducible refine Kd.C_drew ?_))); (case side4 => exact (Kd.R_reads' HO260.out).2.1); rintro e w' ⟨rfl, ⟨nd, rfl⟩⟩; refine ⟨_, rfl, ?_⟩))
        go_ret
        exact ⟨by first | rfl | (simp [errW_none, errW_some] <;> rfl) | (simp [*, errW_none, errW_some] <;> rfl), by repeat (first | (with_reducible first | exact HB.out | apply below_alloc | apply pw_below_drewN | apply below_drew1 | refine below_set ?_ GE220.out | refine below_set ?_ GE243.out) | exact HB.out)⟩
      ·replace c42 := Bool.eq_false_iff.mpr c42
       subst c42
       have H1 : (some false) = some r := by rw [if_neg (show ¬ (false = true) by decide)] at H; exact H
       clear H
       have H := H1
       clear H1
       obtain rfl := Option.some.inj H
       try go_wp2
       replace HO_9 := Aside0.mk (Kd.R_drew HO_9.out)
       replace HO_244000 := Aside0.mk (Kd.R_drew HO_244000.out)
       replace HO_244003 := Aside0.mk (Kd.R_drew HO_244003.out)
       replace BK220 := Aside0.mk (blk_drew BK220.out)
       replace BK243 := Aside0.mk (blk_drew BK243.out)
       replace HB := Aside0.mk (below_drew1 HB.out)
       refine start_ (n := 5) (S := fun w' => w'.cell? ⟨gb243, 0, none⟩ = some (.slice Ao30 t235.length co30) ∧ w'.cell? ⟨gb243, 1, none⟩ = some (.bool t238) ∧ w'.cell? ⟨gb243, 2, none⟩ = some (.int .i64 t239) ∧ w'.cell? ⟨gb243, 3, none⟩ = some (.slice Ao33 t240.length co33) ∧ w'.cell? ⟨gb220, 0, none⟩ = some (.slice A0_0 l0_0.length c0_0) ∧ w'.cell? ⟨gb220, 1, none⟩ = some (.bool a0_1) ∧ w'.cell? ⟨gb220, 2, none⟩ = some (.int .i64 a0_2) ∧ w'.cell? ⟨gb220, 3, none⟩ = some (.slice A0_3 l0_3.length c0_3)) (ds := []) #[false, false, false, false, false] (by kernel_rfl) rfl rfl (cells_4 BK243.out ⟨(blk_cell BK220.out 0).trans rfl, (blk_cell BK220.out 1).trans rfl, (blk_cell BK220.out 2).trans rfl, (blk_cell BK220.out 3).trans rfl⟩) (fun hHeld => ?_)
       generalize wc.drew = w60 at HO_9 HO_244000 HO_244003 BK220 BK243 HB hHeld ⊢
       refine take_ (i := 0) (N := some 46) (v := ?_) (a' := ?_) #[true, false, false, false, false] rfl rfl (by kernel_rfl) (fun _ _ _ h => h) (Or.inl ⟨by rfl, ?_⟩) hHeld ?_ ?_
       rotate_left
       ·rintro w' ⟨s0, s1, s2, s3, s4, s5, s6, s7⟩
        go_simp
        with_reducible rfl
       rotate_left
       ·simp only [Act.put, List.setIfInBounds_toArray, List.set_cons_zero, List.set_cons_succ, i64_w, i32_w]
        rfl
       refine take_ (i := 1) (N := some 47) (v := ?_) (a' := ?_) #[true, true, false, false, false] rfl rfl (by kernel_rfl) (fun _ _ _ h => h) (Or.inl ⟨by rfl, ?_⟩) hHeld ?_ ?_
       rotate_left
       ·rintro w' ⟨s0, s1, s2, s3, s4, s5, s6, s7⟩
        go_simp
        with_reducible rfl
       rotate_left
       ·simp only [Act.put, List.setIfInBounds_toArray, List.set_cons_zero, List.set_cons_succ, i64_w, i32_w]
        rfl
       refine one_ (i := 2) (N := some 48) #[true, true, true, false, false] rfl rfl (by kernel_rfl) (by decide) (fun K hK => ?_)
       refine gs_ Try.func17 #[.agg #[.slice A0_0 l0_0.length c0_0, .bool a0_1, .int .i64 a0_2, .slice A0_3 l0_3.length c0_3]] (h := ?_)
       with_reducible refine (laws_toTree.calls kj15 _ _ l0_0 a0_1 a0_2 _ _ l0_3 t249 t252 t253 t254 _ ?side1 ?side2 ?side3 ?side4 A40.out).mono ?_
       (case side1 => exact kcb)
       (case side2 => exact HC0_0.out)
       (case side3 => exact kcb)
       (case side4 => exact HC0_3.out)
       rintro e w61 ⟨v250, v255, rfl, ho0, ho1, hb⟩
       refine ⟨_, rfl, ?_⟩
       have HO251 := Aside0.mk (Kd.R_lower (Kd.R_new' (Kd.R_new' ho0 (Kd.R_lt (by (with_reducible repeat (first | apply Kd.R_alloc | apply Kd.R_drewN | apply Kd.R_drew)); exact HO_9.out))) (Kd.R_lt (by (with_reducible repeat (first | apply Kd.R_alloc | apply Kd.R_drewN | apply Kd.R_drew)); exact HO_244000.out))) (below_size bel))
       have HO256 := Aside0.mk (Kd.R_lower (Kd.R_newB (Kd.R_new' (Kd.R_new' (Kd.R_new' ho1 (Kd.R_lt (by (with_reducible repeat (first | apply Kd.R_alloc | apply Kd.R_drewN | apply Kd.R_drew)); exact HO_9.out))) (Kd.R_lt (by (with_reducible repeat (first | apply Kd.R_alloc | apply Kd.R_drewN | apply Kd.R_drew)); exact HO_244000.out))) (Kd.R_lt (by (with_reducible repeat (first | apply Kd.R_alloc | apply Kd.R_drewN | apply Kd.R_drew)); exact HO_244003.out))) (g := gb243) (o := .cells #[.slice Ao30 t235.length co30, .bool t238, .int .i64 t239, .slice Ao33 t240.length co33] 30 (0, 0)) (by (with_reducible repeat (first | refine blk_drewN ?_ _ | refine blk_drew ?_ | refine blk_alloc ?_ _)); exact BK243.out)) (below_size bel))
       replace HO_9 := Aside0.mk (Kd.R_elder' (by (with_reducible repeat (first | apply Kd.R_alloc | apply Kd.R_drewN | apply Kd.R_drew)); exact HO_9.out) (Kd.R_base ho0) hb)
       replace HO_244000 := Aside0.mk (Kd.R_elder' (by (with_reducible repeat (first | apply Kd.R_alloc | apply Kd.R_drewN | apply Kd.R_drew)); exact HO_244000.out) (Kd.R_base ho0) hb)
       replace HO_244003 := Aside0.mk (Kd.R_mono (Kd.R_told (Kd.R_told (Kd.R_old (by (with_reducible repeat (first | apply Kd.R_alloc | apply Kd.R_drewN | apply Kd.R_drew)); exact HO_244003.out) hb) (Kd.R_base ho0)) (Kd.R_base ho1)) (fun _ h_ => h_.1))
       replace BK220 := Aside0.mk (blb BK220 hb)
       replace BK243 := Aside0.mk (blb BK243 hb)
       replace HB := Aside0.mk (below_step bel hb)
       (try clear hb)
       (try clear hb2)
       (try clear hk)
       (try clear hi)
       (try clear ho0)
       (try clear ho1)
       obtain ⟨Ao62, co62, eo62⟩ := Kd.R_slice HO251.out
       (first | subst eo62 | (injection eo62 with f1_ f2_ f3_; have f4_ := f1_.symm; have f5_ := f3_.symm; clear f1_ f2_ f3_; subst f4_; subst f5_))
       obtain ⟨Ao63, co63, eo63⟩ := Kd.R_slice HO256.out
       (first | subst eo63 | (injection eo63 with f1_ f2_ f3_; have f4_ := f1_.symm; have f5_ := f3_.symm; clear f1_ f2_ f3_; subst f4_; subst f5_))
       refine hK.out _ _ (cells_4 BK243.out ⟨(blk_cell BK220.out 0).trans rfl, (blk_cell BK220.out 1).trans rfl, (blk_cell BK220.out 2).trans rfl, (blk_cell BK220.out 3).trans rfl⟩) (fun hHeld => ?_)
       clear hK K
       refine norm_ (a' := ?_) ?_ ?_
       rotate_left
       ·show Act.put _ (some 48) _ = _
        simp only [Act.put, List.setIfInBounds_toArray, List.set_cons_zero, List.set_cons_succ, i64_w, i32_w]
        rfl
       refine one_ (i := 3) (N := some 49) #[true, true, true, true, false] rfl rfl (by kernel_rfl) (by decide) (fun K hK => ?_)
       refine gs_ Try.func19 #[.agg #[.slice Ao30 t235.length co30, .bool t238, .int .i64 t239, .slice Ao33 t240.length co33], .agg #[.slice Ao62 t249.length co62, .bool t252, .int .i64 t253, .slice Ao63 t254.length co63]] (h := ?_)
       with_reducible refine (laws_eqTree.calls kj15 _ _ t235 t238 t239 _ _ t240 _ _ t249 t252 t253 _ _ t254 false _ ?side1 ?side2 ?side3 ?side4 ?side5 ?side6 ?side7 ?side8 A41.out).mono ?_
       (case side1 => repeat (first | exact (Kd.R_reads' HO_244000.out).2.2 | (with_reducible refine Kd.C_alloc ?_ _) | (with_reducible refine Kd.C_drewN ?_ _) | (with_reducible refine Kd.C_drew ?_)))
       (case side2 => exact (Kd.R_reads' HO_244000.out).2.1)
       (case side3 => repeat (first | exact (Kd.R_reads' HO_244003.out).2.2 | (with_reducible refine Kd.C_alloc ?_ _) | (with_reducible refine Kd.C_drewN ?_ _) | (with_reducible refine Kd.C_drew ?_)))
       (case side4 => exact (Kd.R_reads' HO_244003.out).2.1)
       (case side5 => repeat (first | exact (Kd.R_reads' HO251.out).2.2 | (with_reducible refine Kd.C_alloc ?_ _) | (with_reducible refine Kd.C_drewN ?_ _) | (with_reducible refine Kd.C_drew ?_)))
       (case side6 => exact (Kd.R_reads' HO251.out).2.1)
       (case side7 => repeat (first | exact (Kd.R_reads' HO256.out).2.2 | (with_reducible refine Kd.C_alloc ?_ _) | (with_reducible refine Kd.C_drewN ?_ _) | (with_reducible refine Kd.C_drew ?_)))
       (case side8 => exact (Kd.R_reads' HO256.out).2.1)
       rintro e w64 ⟨rfl, hb⟩
       refine ⟨_, rfl, ?_⟩
       replace HO_9 := Aside0.mk (rbl HO_9 hb)
       replace HO_244000 := Aside0.mk (rbl HO_244000 hb)
       replace HO_244003 := Aside0.mk (rbl HO_244003 hb)
       replace HO251 := Aside0.mk (rbl HO251 hb)
       replace HO256 := Aside0.mk (rbl HO256 hb)
       replace BK220 := Aside0.mk (blb BK220 hb)
       replace BK243 := Aside0.mk (blb BK243 hb)
       replace HB := Aside0.mk (below_step bel hb)
       (try clear hb)
       (try clear hb2)
       (try clear hk)
       (try clear hi)
       refine hK.out _ _ (cells_4 BK243.out ⟨(blk_cell BK220.out 0).trans rfl, (blk_cell BK220.out 1).trans rfl, (blk_cell BK220.out 2).trans rfl, (blk_cell BK220.out 3).trans rfl⟩) (fun hHeld => ?_)
       clear hK K
       refine norm_ (a' := ?_) ?_ ?_
       rotate_left
       ·show Act.put _ (some 49) _ = _
        simp only [Act.put, List.setIfInBounds_toArray, List.set_cons_zero, List.set_cons_succ, i64_w, i32_w]
        rfl
       refine pure_ (i := 4) (N := some 50) (v := ?_) (a' := ?_) #[true, true, true, true, true] rfl rfl (by kernel_rfl) (fun _ _ _ h => h) (Or.inl ⟨by rfl, ?_⟩) ?_ ?_
       rotate_left
       ·intro w'
        go_simp
        with_reducible rfl
       rotate_left
       ·simp only [Act.put, List.setIfInBounds_toArray, List.set_cons_zero, List.set_cons_succ, i64_w, i32_w]
        rfl
       refine done_ (by kernel_rfl) ?_
       try go_wp2
       go_ret
       exact ⟨by first | rfl | (simp [errW_none, errW_some] <;> rfl) | (simp [*, errW_none, errW_some] <;> rfl), by repeat (first | (with_reducible first | exact HB.out | apply below_alloc | apply pw_below_drewN | apply below_drew1 | refine below_set ?_ GE220.out | refine below_set ?_ GE243.out) | exact HB.out)⟩

/-- THE ONE PURE STATEMENT of laws_FnExactTreeGet. -/
def laws_FnExactTreeGet.Pure : Prop := ∀ (x0 : S25) (l1 : List Int), okS25 x0 → l1.length ≤ maxLen → l1.length * 1 ≤ 140737488351232 → (∀ x ∈ l1, (Lit.int .u8 x).wf = true) → ∃ k, laws_FnExactTreeGet.f k x0.f0 x0.f1 x0.f2 x0.f3 l1 = some true
theorem laws_FnExactTreeGet.walk (P : laws_FnExactTreeGet.Pure) (x0 : S25) (cs0 : List Value) (a1 : Option Addr) (len1 cap1 : Nat) (z1 : List Int) (w : World) (w0 : k25.K w x0 cs0) (o0 : okS25 x0) (w1 : (a1 = none ∧ len1 = 0 ∧ cap1 = 0 ∧ z1 = []) ∨ ∃ x, a1 = some x ∧ len1 ≤ cap1 ∧ cap1 ≤ maxLen ∧ z1.length = cap1 ∧ (∀ i, i < z1.length → w.cell? (x.add i) = some (.int .u8 (z1.getD i 0))) ∧ ∀ n ∈ z1, (Lit.int .u8 n).wf = true) (y1 : len1 * 1 ≤ 140737488351232) :
  Calls Try.prog 5 #[.agg ⟨cs0⟩, .slice a1 len1 cap1] w fun e w' => e = .returned (.bool true) ∧ Below w.heap.size w w' := by
 obtain ⟨A0_0, c0_0, A0_3, c0_3, rfl, m0_0, g0_0, m0_3, g0_3⟩ := k25_open w0
 obtain ⟨l1, rfl, hr1, hm1, hw1, hc1⟩ := ReadsInt.ofRowC w1
 obtain ⟨k, h⟩ := P x0 l1 o0 hm1 y1 hw1
 refine (laws_FnExactTreeGet.calls k _ _ x0.f0 x0.f1 x0.f2 _ _ x0.f3 _ _ l1 true w g0_0 m0_0 g0_3 m0_3 (Kd.C_of_reads (d := (0 : Int)) (h1 := fun _ => rfl) hr1) hc1 h).mono ?_
 rintro e w' ⟨rfl, hd⟩
 exact ⟨rfl, hd⟩

end Go.Proofs.Ytoaddpfoecggpaa.PG
