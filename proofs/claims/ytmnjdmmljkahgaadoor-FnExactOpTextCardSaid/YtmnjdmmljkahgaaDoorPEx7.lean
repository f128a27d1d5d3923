-- Written for this claim by the session's program pp.py, out of the kit's print and the seat's translation.
import Derived.Test.YtmnjdmmljkahgaaDoorPEx0
import Derived.Test.YtmnjdmmljkahgaaDoorPEx2
import Derived.Test.YtmnjdmmljkahgaaDoorPEx3
import Derived.Test.YtmnjdmmljkahgaaDoorPEx6
namespace Go.Proofs.YtmnjdmmljkahgaaDoor.PE
open Go.RowKit Go.Proofs.YtmnjdmmljkahgaaDoorW.PrintWords Go.Proofs.YtmnjdmmljkahgaaDoorW.PrintLast Go.Proofs.YtmnjdmmljkahgaaDoorW.PrintMore
attribute [local go_sem] max2_int min2_int max_two min_two max_three min_three max_four min_four   -- for this text's walks alone
set_option linter.unusedVariables false
set_option linter.unusedSimpArgs false

/-! ### laws_FnExactOpText: function 6 -/
mutual
def laws_FnExactOpText.j0 : Nat → List Int → Bool → List Int → Bool → Bool → Int → List Int → List Int → Int → Int → List Int → List Int → Int → Option (Bool)
 | 0, _, _, _, _, _, _, _, _, _, _, _, _, _ => none
 | k + 1, x4, x5, x7, x8, x40, x284000, x284001, x284002, x284003, x306000, x306001, x306002, x306003 => if x40 = true then (some false) else ((laws_toOp.f k x284000 x284001 x284002 x284003).bind fun bt311 => ((laws_eqOp.f k x306000 x306001 x306002 x306003 bt311.1 bt311.2.1 bt311.2.2.1 bt311.2.2.2).bind fun t319 => (if t319 = true then ((laws_markOp.f k x306000 x306001 x306002 x306003 1).bind fun bt320 => (if bt320.1 < 0 then (laws_FnExactOpText.j1 k x4 x5 x7 true x284000 x284001 x284002 x284003) else ((laws_eqByteS.f k x7 x4).bind fun t323 => (if t323 = true then (laws_FnExactOpText.j1 k x4 x5 x7 (x8 != x5) x284000 x284001 x284002 x284003) else (laws_FnExactOpText.j1 k x4 x5 x7 true x284000 x284001 x284002 x284003))))) else (some false))))
def laws_FnExactOpText.j1 : Nat → List Int → Bool → List Int → Bool → Int → List Int → List Int → Int → Option (Bool)
 | 0, _, _, _, _, _, _, _, _ => none
 | k + 1, x4, x5, x7, x61, x284000, x284001, x284002, x284003 => if x61 = true then (some false) else ((laws_markByteS.f k x7 1).bind fun bt324 => ((laws_heldByteS.f k bt324.2 1).bind fun t326 => (if t326 < 0 then (some false) else (if t326 = bt324.1 then ((laws_toOp.f k x284000 x284001 x284002 x284003).bind fun bt327 => ((impl_OpText.f k bt327.1 bt327.2.1 bt327.2.2.1 bt327.2.2.2).bind fun bt335 => ((laws_eqByteS.f k bt335.1 x4).bind fun t339 => (if t339 = true then (laws_FnExactOpText.j2 k bt324.2 bt324.1 (bt335.2 != x5)) else (laws_FnExactOpText.j2 k bt324.2 bt324.1 true))))) else (some false)))))
def laws_FnExactOpText.j2 : Nat → List Int → Int → Bool → Option (Bool)
 | 0, _, _, _ => none
 | k + 1, x7, x10, x87 => if x87 = true then (some false) else ((laws_heldByteS.f k x7 1).bind fun t340 => (if t340 < 0 then (some false) else (if t340 = x10 then (some true) else (some false))))
end
def laws_FnExactOpText.f (k : Nat) (a0_0 : Int) (l0_1 : List Int) (l0_2 : List Int) (a0_3 : Int) : Option (Bool) := (laws_szOp.f a0_0 l0_1 l0_2 a0_3 1048576).bind fun t284 => (if t284 < 0 then (some true) else ((laws_toOp.f k a0_0 l0_1 l0_2 a0_3).bind fun bt285 => ((spec_OpText.f k bt285.1 bt285.2.1 bt285.2.2.1 bt285.2.2.2).bind fun bt293 => ((laws_toOp.f k a0_0 l0_1 l0_2 a0_3).bind fun bt297 => ((impl_OpText.f k bt297.1 bt297.2.1 bt297.2.2.1 bt297.2.2.2).bind fun bt306 => ((laws_eqByteS.f k bt306.1 bt293.1).bind fun t310 => (if t310 = true then (laws_FnExactOpText.j0 k bt293.1 bt293.2 bt306.1 bt306.2 (bt306.2 != bt293.2) a0_0 l0_1 l0_2 a0_3 bt297.1 bt297.2.1 bt297.2.2.1 bt297.2.2.2) else (laws_FnExactOpText.j0 k bt293.1 bt293.2 bt306.1 bt306.2 true a0_0 l0_1 l0_2 a0_3 bt297.1 bt297.2.1 bt297.2.2.1 bt297.2.2.2))))))))
set_option maxHeartbeats 8000000 in
set_option maxRecDepth 100000 in
theorem laws_FnExactOpText.calls (k : Nat) (a0_0 : Int) (A0_1 : Option Addr) (c0_1 : Nat) (l0_1 : List Int) (A0_2 : Option Addr) (c0_2 : Nat) (l0_2 : List Int) (a0_3 : Int) (w : World) (hr0_1 : Kd.C (Kd.int .u8) w A0_1 l0_1.length l0_1) (hc0_1 : l0_1.length ≤ c0_1) (hr0_2 : Kd.C (Kd.int .u8) w A0_2 l0_2.length l0_2) (hc0_2 : l0_2.length ≤ c0_2) (htab : Lib.TabIs Tryd.prog w "internal/strconv.uint64pow10" .u64 Lib.pow10Tab) (h : laws_FnExactOpText.f k a0_0 l0_1 l0_2 a0_3 = some true) :
  Calls Tryd.prog 6 #[.agg #[.int .i64 a0_0, .slice A0_1 l0_1.length c0_1, .slice A0_2 l0_2.length c0_2, .int .i64 a0_3]] w fun e w' => e = .returned (.bool true) ∧ Below w.heap.size w w' := by
 have HTAB := Aside0.mk htab
 clear htab
 have hu43 := Tryd.underlying43
 have hu24 := Tryd.underlying24
 have HR0_1 := Aside0.mk hr0_1
 have HC0_1 := Aside0.mk hc0_1
 clear hr0_1 hc0_1
 have HR0_2 := Aside0.mk hr0_2
 have HC0_2 := Aside0.mk hc0_2
 clear hr0_2 hc0_2
 have HB := Aside0.mk (Below.refl w.heap.size w)
 have H : ((laws_szOp.f a0_0 l0_1 l0_2 a0_3 1048576).bind fun t284 => (if t284 < 0 then (some true) else ((laws_toOp.f k a0_0 l0_1 l0_2 a0_3).bind fun bt285 => ((spec_OpText.f k bt285.1 bt285.2.1 bt285.2.2.1 bt285.2.2.2).bind fun bt293 => ((laws_toOp.f k a0_0 l0_1 l0_2 a0_3).bind fun bt297 => ((impl_OpText.f k bt297.1 bt297.2.1 bt297.2.2.1 bt297.2.2.2).bind fun bt306 => ((laws_eqByteS.f k bt306.1 bt293.1).bind fun t310 => (if t310 = true then (laws_FnExactOpText.j0 k bt293.1 bt293.2 bt306.1 bt306.2 (bt306.2 != bt293.2) a0_0 l0_1 l0_2 a0_3 bt297.1 bt297.2.1 bt297.2.2.1 bt297.2.2.2) else (laws_FnExactOpText.j0 k bt293.1 bt293.2 bt306.1 bt306.2 true a0_0 l0_1 l0_2 a0_3 bt297.1 bt297.2.1 bt297.2.2.1 bt297.2.2.2))))))))) = some true := h
 clear h
 replace H := Option.bind_eq_some_iff.mp H
 obtain ⟨t284, A20, H⟩ := H
 replace H : (if t284 < 0 then (some true) else ((laws_toOp.f k a0_0 l0_1 l0_2 a0_3).bind fun bt285 => ((spec_OpText.f k bt285.1 bt285.2.1 bt285.2.2.1 bt285.2.2.2).bind fun bt293 => ((laws_toOp.f k a0_0 l0_1 l0_2 a0_3).bind fun bt297 => ((impl_OpText.f k bt297.1 bt297.2.1 bt297.2.2.1 bt297.2.2.2).bind fun bt306 => ((laws_eqByteS.f k bt306.1 bt293.1).bind fun t310 => (if t310 = true then (laws_FnExactOpText.j0 k bt293.1 bt293.2 bt306.1 bt306.2 (bt306.2 != bt293.2) a0_0 l0_1 l0_2 a0_3 bt297.1 bt297.2.1 bt297.2.2.1 bt297.2.2.2) else (laws_FnExactOpText.j0 k bt293.1 bt293.2 bt306.1 bt306.2 true a0_0 l0_1 l0_2 a0_3 bt297.1 bt297.2.1 bt297.2.2.1 bt297.2.2.2)))))))) = some true := H
 have A2 := Aside0.mk A20
 clear A20
 by_cases c3 : t284 < 0
 ·rw [if_pos c3] at H
  have c3b0 : decide (t284 < 0) = true := decide_eq_true c3
  clear c3
  clear H
  go_enter Tryd.func6, Tryd.ntmps6
  go_wp2_with (first | ((with_reducible refine gate_dst (N := 1) rfl ?_); refine bx_ 1 #[.int .i64 a0_0, .slice A0_1 l0_1.length c0_1, .slice A0_2 l0_2.length c0_2, .int .i64 a0_3] 43 (h := ?_); intro gb283 hg w4 hbox hb; have BK283 := Aside0.mk (hbox); have GW283 := Aside0.mk ((by rw [hg]; exact (below_size bel) : w.heap.size ≤ gb283)); have GE283 := GW283; replace HB := bst hb; clear hb hbox hg; obtain ⟨C5_0, C5_1, C5_2, C5_3, -⟩ := cells_4 BK283.out trivial; obtain ⟨F5_0, F5_1, F5_2, F5_3, -⟩ := frz_4 BK283.out) | ((with_reducible refine gate_callee (f := 25) rfl ?_); refine gl_ (some 16) Tryd.func25 #[.agg #[.int .i64 a0_0, .slice A0_1 l0_1.length c0_1, .slice A0_2 l0_2.length c0_2, .int .i64 a0_3], .int .i64 1048576] (h := ?_); (with_reducible refine (laws_szOp.calls a0_0 _ _ l0_1 _ _ l0_2 a0_3 1048576 t284 _ ?side1 ?side2 ?side3 ?side4 A2.out).mono ?_); (case side1 => exact kcb); (case side2 => exact HC0_1.out); (case side3 => exact kcb); (case side4 => exact HC0_2.out); rintro e w6 ⟨rfl, hb⟩; refine ⟨_, rfl, ?_⟩; replace BK283 := Aside0.mk (blb BK283 hb); replace HB := bst hb; (try clear hb); (try clear hb2); (try clear hk); (try clear hi)))
  go_ret
  exact ⟨rz_, bel⟩
 rw [if_neg c3] at H
 have c3b0 : decide (t284 < 0) = false := decide_eq_false c3
 clear c3
 replace H := Option.bind_eq_some_iff.mp H
 obtain ⟨⟨t285, t286, t289, t292⟩, A70, H⟩ := H
 replace H : ((spec_OpText.f k t285 t286 t289 t292).bind fun bt293 => ((laws_toOp.f k a0_0 l0_1 l0_2 a0_3).bind fun bt297 => ((impl_OpText.f k bt297.1 bt297.2.1 bt297.2.2.1 bt297.2.2.2).bind fun bt306 => ((laws_eqByteS.f k bt306.1 bt293.1).bind fun t310 => (if t310 = true then (laws_FnExactOpText.j0 k bt293.1 bt293.2 bt306.1 bt306.2 (bt306.2 != bt293.2) a0_0 l0_1 l0_2 a0_3 bt297.1 bt297.2.1 bt297.2.2.1 bt297.2.2.2) else (laws_FnExactOpText.j0 k bt293.1 bt293.2 bt306.1 bt306.2 true a0_0 l0_1 l0_2 a0_3 bt297.1 bt297.2.1 bt297.2.2.1 bt297.2.2.2)))))) = some true := H
 have A7 := Aside0.mk A70
 clear A70
 replace H := Option.bind_eq_some_iff.mp H
 obtain ⟨⟨t293, t296⟩, A80, H⟩ := H
 replace H : ((laws_toOp.f k a0_0 l0_1 l0_2 a0_3).bind fun bt297 => ((impl_OpText.f k bt297.1 bt297.2.1 bt297.2.2.1 bt297.2.2.2).bind fun bt306 => ((laws_eqByteS.f k bt306.1 t293).bind fun t310 => (if t310 = true then (laws_FnExactOpText.j0 k t293 t296 bt306.1 bt306.2 (bt306.2 != t296) a0_0 l0_1 l0_2 a0_3 bt297.1 bt297.2.1 bt297.2.2.1 bt297.2.2.2) else (laws_FnExactOpText.j0 k t293 t296 bt306.1 bt306.2 true a0_0 l0_1 l0_2 a0_3 bt297.1 bt297.2.1 bt297.2.2.1 bt297.2.2.2))))) = some true := H
 have A8 := Aside0.mk A80
 clear A80
 replace H := Option.bind_eq_some_iff.mp H
 obtain ⟨⟨t297, t298, t301, t304⟩, A90, H⟩ := H
 replace H : ((impl_OpText.f k t297 t298 t301 t304).bind fun bt306 => ((laws_eqByteS.f k bt306.1 t293).bind fun t310 => (if t310 = true then (laws_FnExactOpText.j0 k t293 t296 bt306.1 bt306.2 (bt306.2 != t296) a0_0 l0_1 l0_2 a0_3 t297 t298 t301 t304) else (laws_FnExactOpText.j0 k t293 t296 bt306.1 bt306.2 true a0_0 l0_1 l0_2 a0_3 t297 t298 t301 t304)))) = some true := H
 have A9 := Aside0.mk A90
 clear A90
 replace H := Option.bind_eq_some_iff.mp H
 obtain ⟨⟨t306, t309⟩, A100, H⟩ := H
 replace H : ((laws_eqByteS.f k t306 t293).bind fun t310 => (if t310 = true then (laws_FnExactOpText.j0 k t293 t296 t306 t309 (t309 != t296) a0_0 l0_1 l0_2 a0_3 t297 t298 t301 t304) else (laws_FnExactOpText.j0 k t293 t296 t306 t309 true a0_0 l0_1 l0_2 a0_3 t297 t298 t301 t304))) = some true := H
 have A10 := Aside0.mk A100
 clear A100
 have HC11 := Aside0.mk H
 clear H
 go_enter Tryd.func6, Tryd.ntmps6
 go_upto_region 8 with (first | ((with_reducible refine gate_dst (N := 1) rfl ?_); refine bx_ 1 #[.int .i64 a0_0, .slice A0_1 l0_1.length c0_1, .slice A0_2 l0_2.length c0_2, .int .i64 a0_3] 43 (h := ?_); intro gb283 hg w12 hbox hb; have BK283 := Aside0.mk (hbox); have GW283 := Aside0.mk ((by rw [hg]; exact (below_size bel) : w.heap.size ≤ gb283)); have GE283 := GW283; replace HB := bst hb; clear hb hbox hg; obtain ⟨C13_0, C13_1, C13_2, C13_3, -⟩ := cells_4 BK283.out trivial; obtain ⟨F13_0, F13_1, F13_2, F13_3, -⟩ := frz_4 BK283.out) | ((with_reducible refine gate_callee (f := 25) rfl ?_); refine gl_ (some 16) Tryd.func25 #[.agg #[.int .i64 a0_0, .slice A0_1 l0_1.length c0_1, .slice A0_2 l0_2.length c0_2, .int .i64 a0_3], .int .i64 1048576] (h := ?_); (with_reducible refine (laws_szOp.calls a0_0 _ _ l0_1 _ _ l0_2 a0_3 1048576 t284 _ ?side1 ?side2 ?side3 ?side4 A2.out).mono ?_); (case side1 => exact kcb); (case side2 => exact HC0_1.out); (case side3 => exact kcb); (case side4 => exact HC0_2.out); rintro e w14 ⟨rfl, hb⟩; refine ⟨_, rfl, ?_⟩; replace BK283 := Aside0.mk (blb BK283 hb); replace HB := bst hb; (try clear hb); (try clear hb2); (try clear hk); (try clear hi); obtain ⟨C15_0, C15_1, C15_2, C15_3, -⟩ := cells_4 BK283.out trivial; obtain ⟨F15_0, F15_1, F15_2, F15_3, -⟩ := frz_4 BK283.out) | ((with_reducible refine gate_callee (f := 27) rfl ?_); refine gl_ (some 21) Tryd.func27 #[.agg #[.int .i64 a0_0, .slice A0_1 l0_1.length c0_1, .slice A0_2 l0_2.length c0_2, .int .i64 a0_3]] (h := ?_); (with_reducible refine (laws_toOp.calls k a0_0 _ _ l0_1 _ _ l0_2 a0_3 t285 t286 t289 t292 _ ?side1 ?side2 ?side3 ?side4 A7.out).mono ?_); (case side1 => exact kcb); (case side2 => exact HC0_1.out); (case side3 => exact kcb); (case side4 => exact HC0_2.out); rintro e w16 ⟨v287, v290, rfl, ho0, ho1, hb⟩; refine ⟨_, rfl, ?_⟩; have HO288 := Aside0.mk (Kd.R_lower ho0 (below_size bel)); have HO291 := Aside0.mk (Kd.R_lower ho1 (below_size bel)); replace BK283 := Aside0.mk (blb BK283 hb); replace HB := bst hb; (try clear hb); (try clear hb2); (try clear hk); (try clear hi); (try clear ho0); (try clear ho1); obtain ⟨Ao17, co17, eo17⟩ := Kd.R_slice HO288.out; subst eo17; obtain ⟨Ao18, co18, eo18⟩ := Kd.R_slice HO291.out; subst eo18) | ((with_reducible refine gate_callee (f := 26) rfl ?_); refine gl_ (some 22) Tryd.func26 #[.agg #[.int .i64 t285, .slice Ao17 t286.length co17, .slice Ao18 t289.length co18, .int .i64 t292]] (h := ?_); (with_reducible refine (spec_OpText.calls k t285 _ _ t286 _ _ t289 t292 t293 t296 _ ?side1 ?side2 ?side3 ?side4 A8.out).mono ?_); (case side1 => repeat (first | exact (Kd.R_reads' HO288.out).2.2 | (with_reducible refine Kd.C_alloc ?_ _) | (with_reducible refine Kd.C_drewN ?_ _) | (with_reducible refine Kd.C_drew ?_))); (case side2 => exact (Kd.R_reads' HO288.out).2.1); (case side3 => repeat (first | exact (Kd.R_reads' HO291.out).2.2 | (with_reducible refine Kd.C_alloc ?_ _) | (with_reducible refine Kd.C_drewN ?_ _) | (with_reducible refine Kd.C_drew ?_))); (case side4 => exact (Kd.R_reads' HO291.out).2.1); rintro e w19 ⟨v294, rfl, ho0, hb⟩; refine ⟨_, rfl, ?_⟩; have HO295 := Aside0.mk (RNk_lower (RNk_new' (RNk_new' ho0 (Kd.R_lt (rkp HO288))) (Kd.R_lt (rkp HO291))) (below_size bel)); replace HO288 := Aside0.mk (Kd.R_elder' (rkp HO288) (RNk_base ho0) hb); replace HO291 := Aside0.mk (Kd.R_elder' (rkp HO291) (RNk_base ho0) hb); replace BK283 := Aside0.mk (blb BK283 hb); replace HB := bst hb; (try clear hb); (try clear hb2); (try clear hk); (try clear hi); (try clear ho0); obtain ⟨C20_0, C20_1, C20_2, C20_3, -⟩ := cells_4 BK283.out trivial; obtain ⟨F20_0, F20_1, F20_2, F20_3, -⟩ := frz_4 BK283.out) | ((with_reducible refine gate_callee (f := 27) rfl ?_); refine gl_ (some 26) Tryd.func27 #[.agg #[.int .i64 a0_0, .slice A0_1 l0_1.length c0_1, .slice A0_2 l0_2.length c0_2, .int .i64 a0_3]] (h := ?_); (with_reducible refine (laws_toOp.calls k a0_0 _ _ l0_1 _ _ l0_2 a0_3 t297 t298 t301 t304 _ ?side1 ?side2 ?side3 ?side4 A9.out).mono ?_); (case side1 => exact kcb); (case side2 => exact HC0_1.out); (case side3 => exact kcb); (case side4 => exact HC0_2.out); rintro e w21 ⟨v299, v302, rfl, ho0, ho1, hb⟩; refine ⟨_, rfl, ?_⟩; have HO300 := Aside0.mk (Kd.R_lower (Kd.R_new' (Kd.R_new' (Kd.R_new' ho0 (Kd.R_lt (rkp HO288))) (Kd.R_lt (rkp HO291))) (RNk_lt (rnp HO295))) (below_size bel)); have HO303 := Aside0.mk (Kd.R_lower (Kd.R_new' (Kd.R_new' (Kd.R_new' ho1 (Kd.R_lt (rkp HO288))) (Kd.R_lt (rkp HO291))) (RNk_lt (rnp HO295))) (below_size bel)); replace HO288 := Aside0.mk (Kd.R_mono (Kd.R_told (Kd.R_told (Kd.R_old (rkp HO288) hb) (Kd.R_base ho0)) (Kd.R_base ho1)) (fun _ h_ => h_.1)); replace HO291 := Aside0.mk (Kd.R_mono (Kd.R_told (Kd.R_told (Kd.R_old (rkp HO291) hb) (Kd.R_base ho0)) (Kd.R_base ho1)) (fun _ h_ => h_.1)); replace HO295 := Aside0.mk (RNk_mono (RNk_told (RNk_told (RNk_old (rnp HO295) hb) (Kd.R_base ho0)) (Kd.R_base ho1)) (fun _ h_ => h_.1)); replace BK283 := Aside0.mk (blb BK283 hb); replace HB := bst hb; (try clear hb); (try clear hb2); (try clear hk); (try clear hi); (try clear ho0); (try clear ho1)) | ((with_reducible refine gate_dst (N := 6) rfl ?_); refine bx_ 6 #[.int .i64 0, .slice none 0 0, .slice none 0 0, .int .i64 0] 24 (h := ?_); intro gb305 hg w22 hbox hb; have BK305 := Aside0.mk (hbox); have GW305 := Aside0.mk ((by rw [hg]; exact (below_size bel) : w.heap.size ≤ gb305)); have GE305 := GW305; have NB283_305 := Aside0.mk ((by rw [hg]; exact Nat.ne_of_lt (blt BK283) : gb283 ≠ gb305)); have NB305_283 := Aside0.mk NB283_305.out.symm; replace HO288 := Aside0.mk (rbl HO288 hb); replace HO291 := Aside0.mk (rbl HO291 hb); replace HO295 := Aside0.mk (rnl HO295 hb); replace HO300 := Aside0.mk (rbl HO300 hb); replace HO303 := Aside0.mk (rbl HO303 hb); replace BK283 := Aside0.mk (blb BK283 hb); replace HB := bst hb; clear hb hbox hg; have hnb23 := NB305_283.out; have hnc23 := NB283_305.out; obtain ⟨C24_0, C24_1, C24_2, C24_3, -⟩ := cells_4 BK305.out trivial; obtain ⟨F24_0, F24_1, F24_2, F24_3, -⟩ := frz_4 BK305.out; obtain ⟨Ao25, co25, eo25⟩ := Kd.R_slice HO300.out; subst eo25; obtain ⟨Ao26, co26, eo26⟩ := Kd.R_slice HO303.out; subst eo26) | ((with_reducible refine gate_store (t := 24) (p := 6) rfl ?_); refine store_event (t := 24) (p := 6) (v := ?vo_w27) (w1 := ((((w22.setCell ⟨gb305, 0, none⟩ (.int .i64 t297)).setCell ⟨gb305, 1, none⟩ (.slice Ao25 t298.length co25)).setCell ⟨gb305, 2, none⟩ (.slice Ao26 t301.length co26)).setCell ⟨gb305, 3, none⟩ (.int .i64 t304))) ?hg ?ho ?hn ?hr ?_; (case ho => rfl); (case hg => rfl); (case hn => rfl); (case hr => first | (go_simp; done) | (go_simp; rfl)); intro w27 hw; have n0_ : Aside0 (Kd.R (Kd.int .u8) 5 w27 w.heap.size (fun k_ => some k_ ≠ (.slice Ao18 t289.length co18 : Value).ownBlock ∧ some k_ ≠ (v294 : Value).ownBlock ∧ some k_ ≠ (.slice Ao25 t298.length co25 : Value).ownBlock ∧ some k_ ≠ (.slice Ao26 t301.length co26 : Value).ownBlock) (.slice Ao17 t286.length co17) t286) := ⟨(by rw [hw]; exact (by (with_reducible repeat (first | apply Kd.R_alloc | apply Kd.R_drewN | apply Kd.R_drew | apply RMk_alloc | apply RMk_drewN | apply RMk_drew | apply RNk_alloc | apply RNk_drewN | apply RNk_drew)); exact Kd.R_mono (Kd.R_far (p := ⟨gb305, 3, none⟩) (Kd.R_far (p := ⟨gb305, 2, none⟩) (Kd.R_far (p := ⟨gb305, 1, none⟩) (Kd.R_far (p := ⟨gb305, 0, none⟩) (Kd.R_types HO288.out BK305.out (by decide)) (fun _ hk => hk.2) (.int .i64 t297)) (fun _ hk => hk.2) (.slice Ao25 t298.length co25)) (fun _ hk => hk.2) (.slice Ao26 t301.length co26)) (fun _ hk => hk.2) (.int .i64 t304)) (fun _ hk => ⟨hk.1.1.1.1, ⟨hk.1.1.1.2, ⟨hk.1.1.2, hk.1.2⟩⟩⟩)))⟩; have n1_ : Aside0 (Kd.R (Kd.int .u8) 5 w27 w.heap.size (fun k_ => some k_ ≠ (.slice Ao17 t286.length co17 : Value).ownBlock ∧ some k_ ≠ (v294 : Value).ownBlock ∧ some k_ ≠ (.slice Ao25 t298.length co25 : Value).ownBlock ∧ some k_ ≠ (.slice Ao26 t301.length co26 : Value).ownBlock) (.slice Ao18 t289.length co18) t289) := ⟨(by rw [hw]; exact (by (with_reducible repeat (first | apply Kd.R_alloc | apply Kd.R_drewN | apply Kd.R_drew | apply RMk_alloc | apply RMk_drewN | apply RMk_drew | apply RNk_alloc | apply RNk_drewN | apply RNk_drew)); exact Kd.R_mono (Kd.R_far (p := ⟨gb305, 3, none⟩) (Kd.R_far (p := ⟨gb305, 2, none⟩) (Kd.R_far (p := ⟨gb305, 1, none⟩) (Kd.R_far (p := ⟨gb305, 0, none⟩) (Kd.R_types HO291.out BK305.out (by decide)) (fun _ hk => hk.2) (.int .i64 t297)) (fun _ hk => hk.2) (.slice Ao25 t298.length co25)) (fun _ hk => hk.2) (.slice Ao26 t301.length co26)) (fun _ hk => hk.2) (.int .i64 t304)) (fun _ hk => ⟨hk.1.1.1.1, ⟨hk.1.1.1.2, ⟨hk.1.1.2, hk.1.2⟩⟩⟩)))⟩; have n2_ : Aside0 (RNk w27 w.heap.size (fun k_ => some k_ ≠ (.slice Ao17 t286.length co17 : Value).ownBlock ∧ some k_ ≠ (.slice Ao18 t289.length co18 : Value).ownBlock ∧ some k_ ≠ (.slice Ao25 t298.length co25 : Value).ownBlock ∧ some k_ ≠ (.slice Ao26 t301.length co26 : Value).ownBlock) v294 t293) := ⟨(by rw [hw]; exact (by (with_reducible repeat (first | apply Kd.R_alloc | apply Kd.R_drewN | apply Kd.R_drew | apply RMk_alloc | apply RMk_drewN | apply RMk_drew | apply RNk_alloc | apply RNk_drewN | apply RNk_drew)); exact RNk_mono (RNk_far (p := ⟨gb305, 3, none⟩) (RNk_far (p := ⟨gb305, 2, none⟩) (RNk_far (p := ⟨gb305, 1, none⟩) (RNk_far (p := ⟨gb305, 0, none⟩) (RNk_types HO295.out BK305.out (by decide)) (fun _ hk => hk.2) (.int .i64 t297)) (fun _ hk => hk.2) (.slice Ao25 t298.length co25)) (fun _ hk => hk.2) (.slice Ao26 t301.length co26)) (fun _ hk => hk.2) (.int .i64 t304)) (fun _ hk => ⟨hk.1.1.1.1.2, ⟨hk.1.1.1.2, ⟨hk.1.1.2, hk.1.2⟩⟩⟩)))⟩; have n3_ : Aside0 (Kd.R (Kd.int .u8) 5 w27 w.heap.size (fun k_ => some k_ ≠ (.slice Ao17 t286.length co17 : Value).ownBlock ∧ some k_ ≠ (.slice Ao18 t289.length co18 : Value).ownBlock ∧ some k_ ≠ (v294 : Value).ownBlock ∧ some k_ ≠ (.slice Ao26 t301.length co26 : Value).ownBlock) (.slice Ao25 t298.length co25) t298) := ⟨(by rw [hw]; exact (by (with_reducible repeat (first | apply Kd.R_alloc | apply Kd.R_drewN | apply Kd.R_drew | apply RMk_alloc | apply RMk_drewN | apply RMk_drew | apply RNk_alloc | apply RNk_drewN | apply RNk_drew)); exact Kd.R_mono (Kd.R_far (p := ⟨gb305, 3, none⟩) (Kd.R_far (p := ⟨gb305, 2, none⟩) (Kd.R_far (p := ⟨gb305, 1, none⟩) (Kd.R_far (p := ⟨gb305, 0, none⟩) (Kd.R_types HO300.out BK305.out (by decide)) (fun _ hk => hk.2) (.int .i64 t297)) (fun _ hk => hk.2) (.slice Ao25 t298.length co25)) (fun _ hk => hk.2) (.slice Ao26 t301.length co26)) (fun _ hk => hk.2) (.int .i64 t304)) (fun _ hk => ⟨hk.1.1.1.2, ⟨hk.1.1.2, ⟨hk.1.2, hk.1.1.1.1⟩⟩⟩)))⟩; have n4_ : Aside0 (Kd.R (Kd.int .u8) 5 w27 w.heap.size (fun k_ => some k_ ≠ (.slice Ao17 t286.length co17 : Value).ownBlock ∧ some k_ ≠ (.slice Ao18 t289.length co18 : Value).ownBlock ∧ some k_ ≠ (v294 : Value).ownBlock ∧ some k_ ≠ (.slice Ao25 t298.length co25 : Value).ownBlock) (.slice Ao26 t301.length co26) t301) := ⟨(by rw [hw]; exact (by (with_reducible repeat (first | apply Kd.R_alloc | apply Kd.R_drewN | apply Kd.R_drew | apply RMk_alloc | apply RMk_drewN | apply RMk_drew | apply RNk_alloc | apply RNk_drewN | apply RNk_drew)); exact Kd.R_mono (Kd.R_far (p := ⟨gb305, 3, none⟩) (Kd.R_far (p := ⟨gb305, 2, none⟩) (Kd.R_far (p := ⟨gb305, 1, none⟩) (Kd.R_far (p := ⟨gb305, 0, none⟩) (Kd.R_types HO303.out BK305.out (by decide)) (fun _ hk => hk.2) (.int .i64 t297)) (fun _ hk => hk.2) (.slice Ao25 t298.length co25)) (fun _ hk => hk.2) (.slice Ao26 t301.length co26)) (fun _ hk => hk.2) (.int .i64 t304)) (fun _ hk => ⟨hk.1.1.1.2, ⟨hk.1.1.2, ⟨hk.1.2, hk.1.1.1.1⟩⟩⟩)))⟩; have n5_ : Aside0 (w27.heap[gb283]? = some (.cells #[.int .i64 a0_0, .slice A0_1 l0_1.length c0_1, .slice A0_2 l0_2.length c0_2, .int .i64 a0_3] 43 (0, 0))) := ⟨(by rw [hw]; exact (by (with_reducible repeat (first | refine blk_drewN ?_ _ | refine blk_drew ?_ | refine blk_alloc ?_ _)); refine blk_far ?_ NB283_305.out _; (with_reducible repeat (first | refine blk_drewN ?_ _ | refine blk_drew ?_ | refine blk_alloc ?_ _)); refine blk_far ?_ NB283_305.out _; (with_reducible repeat (first | refine blk_drewN ?_ _ | refine blk_drew ?_ | refine blk_alloc ?_ _)); refine blk_far ?_ NB283_305.out _; (with_reducible repeat (first | refine blk_drewN ?_ _ | refine blk_drew ?_ | refine blk_alloc ?_ _)); refine blk_far ?_ NB283_305.out _; (with_reducible repeat (first | refine blk_drewN ?_ _ | refine blk_drew ?_ | refine blk_alloc ?_ _)); exact BK283.out))⟩; have n6_ : Aside0 (w27.heap[gb305]? = some (.cells #[.int .i64 t297, .slice Ao25 t298.length co25, .slice Ao26 t301.length co26, .int .i64 t304] 24 (0, 0))) := ⟨(by rw [hw]; exact (by (with_reducible repeat (first | refine blk_drewN ?_ _ | refine blk_drew ?_ | refine blk_alloc ?_ _)); refine blk_put (cs := #[.int .i64 t297, .slice Ao25 t298.length co25, .slice Ao26 t301.length co26, .int .i64 0]) ?_ 3 _ rfl; (with_reducible repeat (first | refine blk_drewN ?_ _ | refine blk_drew ?_ | refine blk_alloc ?_ _)); refine blk_put (cs := #[.int .i64 t297, .slice Ao25 t298.length co25, .slice none 0 0, .int .i64 0]) ?_ 2 _ rfl; (with_reducible repeat (first | refine blk_drewN ?_ _ | refine blk_drew ?_ | refine blk_alloc ?_ _)); refine blk_put (cs := #[.int .i64 t297, .slice none 0 0, .slice none 0 0, .int .i64 0]) ?_ 1 _ rfl; (with_reducible repeat (first | refine blk_drewN ?_ _ | refine blk_drew ?_ | refine blk_alloc ?_ _)); refine blk_put (cs := #[.int .i64 0, .slice none 0 0, .slice none 0 0, .int .i64 0]) ?_ 0 _ rfl; (with_reducible repeat (first | refine blk_drewN ?_ _ | refine blk_drew ?_ | refine blk_alloc ?_ _)); exact BK305.out))⟩; have n7_ : Aside0 (Below w.heap.size w w27) := ⟨(by rw [hw]; exact bel)⟩; clear hw; clear HO288; clear HO291; clear HO295; clear HO300; clear HO303; clear BK283; clear BK305; clear HB; have HO288 := n0_; have HO291 := n1_; have HO295 := n2_; have HO300 := n3_; have HO303 := n4_; have BK283 := n5_; have BK305 := n6_; have HB := n7_; clear n0_ n1_ n2_ n3_ n4_ n5_ n6_ n7_; obtain ⟨C28_0, C28_1, C28_2, C28_3, -⟩ := cells_4 BK305.out trivial; obtain ⟨F28_0, F28_1, F28_2, F28_3, -⟩ := frz_4 BK305.out) | ((with_reducible refine gate_callee (f := 8) rfl ?_); refine gl_ (some 29) Tryd.func8 #[.agg #[.int .i64 t297, .slice Ao25 t298.length co25, .slice Ao26 t301.length co26, .int .i64 t304]] (h := ?_); (with_reducible refine (impl_OpText.calls k t297 (fun k_ => some k_ = (.slice Ao25 t298.length co25 : Value).ownBlock) _ _ t298 _ _ t301 t304 t306 t309 _ ?side1 ?side2 ?side3 (tbl_ HTAB.out bel) A10.out).mono ?_); (case side1 => exact Kd.R_V (Kd.R_tight rfl (Kd.R_types (Kd.R_types (HO300.out) BK283.out (by decide)) BK305.out (by decide)))); (case side2 => repeat (first | exact (Kd.R_reads' HO303.out).2.2 | (with_reducible refine Kd.C_alloc ?_ _) | (with_reducible refine Kd.C_drewN ?_ _) | (with_reducible refine Kd.C_drew ?_))); (case side3 => exact (Kd.R_reads' HO303.out).2.1); rintro e w29 ⟨v307, rfl, ho0, hb⟩; refine ⟨_, rfl, ?_⟩; have HO308 := Aside0.mk (RMk_lower (RMk_new' (RMk_new' (RMk_new' (RMk_new' (RMk_new' (RMk_mono (ok' := fun k_ => True) ho0 (fun _ hk_ => trivial)) (Kd.R_lt (rkp HO288))) (Kd.R_lt (rkp HO291))) (RNk_lt (rnp HO295))) (Kd.R_lt (rkp HO300))) (Kd.R_lt (rkp HO303))) (below_size bel)); replace HO288 := Aside0.mk (Kd.R_elder' (rkp HO288) (RMk_base ho0) hb); replace HO291 := Aside0.mk (Kd.R_elder' (rkp HO291) (RMk_base ho0) hb); replace HO295 := Aside0.mk (RNk_elder' (rnp HO295) (RMk_base ho0) hb); replace HO300 := Aside0.mk (Kd.R_elder' (rkp HO300) (RMk_base ho0) hb); replace HO303 := Aside0.mk (Kd.R_elder' (rkp HO303) (RMk_base ho0) hb); replace BK283 := Aside0.mk (blb BK283 hb); replace BK305 := Aside0.mk (blb BK305 hb); replace HB := bst hb; (try clear hb); (try clear hb2); (try clear hk); (try clear hi); (try clear ho0)))
 (try simp only [Act.put, List.setIfInBounds_toArray, List.set_cons_zero, List.set_cons_succ])
 go_cut [40] (fun v40 wc => ∃ (kq : Nat) (x40_10 : Bool), v40 = .bool x40_10 ∧ Aside0 (laws_FnExactOpText.j0 kq t293 t296 t306 t309 x40_10 a0_0 l0_1 l0_2 a0_3 t297 t298 t301 t304 = some true) ∧ Aside0 (kq ≤ k) ∧ Aside0 (RNk wc w.heap.size (fun k_ => some k_ ≠ (v307 : Value).ownBlock ∧ some k_ ≠ ((.slice Ao25 t298.length co25) : Value).ownBlock ∧ some k_ ≠ ((.slice Ao26 t301.length co26) : Value).ownBlock) v294 t293) ∧ Aside0 (RMk wc w.heap.size (fun k_ => some k_ ≠ (v294 : Value).ownBlock ∧ some k_ ≠ ((.slice Ao25 t298.length co25) : Value).ownBlock ∧ some k_ ≠ ((.slice Ao26 t301.length co26) : Value).ownBlock) v307 t306) ∧ Aside0 (Kd.R (Kd.int .u8) 5 wc w.heap.size (fun k_ => some k_ ≠ (v294 : Value).ownBlock ∧ some k_ ≠ (v307 : Value).ownBlock ∧ some k_ ≠ ((.slice Ao26 t301.length co26) : Value).ownBlock) (.slice Ao25 t298.length co25) t298) ∧ Aside0 (Kd.R (Kd.int .u8) 5 wc w.heap.size (fun k_ => some k_ ≠ (v294 : Value).ownBlock ∧ some k_ ≠ (v307 : Value).ownBlock ∧ some k_ ≠ ((.slice Ao25 t298.length co25) : Value).ownBlock) (.slice Ao26 t301.length co26) t301) ∧ Aside0 (wc.heap[gb283]? = some (.cells #[.int .i64 a0_0, (.slice A0_1 l0_1.length c0_1), (.slice A0_2 l0_2.length c0_2), .int .i64 a0_3] 43 (0, 0))) ∧ Aside0 (wc.heap[gb305]? = some (.cells #[.int .i64 t297, (.slice Ao25 t298.length co25), (.slice Ao26 t301.length co26), .int .i64 t304] 24 (0, 0))) ∧ Aside0 (Below w.heap.size w wc))
 case first =>
  have H := HC11.out
  clear HC11
  replace H := Option.bind_eq_some_iff.mp H
  obtain ⟨t310, A300, H⟩ := H
  replace H : (if t310 = true then (laws_FnExactOpText.j0 k t293 t296 t306 t309 (t309 != t296) a0_0 l0_1 l0_2 a0_3 t297 t298 t301 t304) else (laws_FnExactOpText.j0 k t293 t296 t306 t309 true a0_0 l0_1 l0_2 a0_3 t297 t298 t301 t304)) = some true := H
  have A30 := Aside0.mk A300
  clear A300
  by_cases c31 : t310 = true
  ·subst c31
   have H1 : (laws_FnExactOpText.j0 k t293 t296 t306 t309 (t309 != t296) a0_0 l0_1 l0_2 a0_3 t297 t298 t301 t304) = some true := by rw [if_pos rfl] at H; exact H
   clear H
   have H := H1
   clear H1
   have H' := Aside0.mk H
   clear H
   obtain ⟨Ao32, co32, eo32⟩ := RMk_slice HO308.out
   subst eo32
   obtain ⟨Ao33, co33, eo33⟩ := RNk_slice HO295.out
   subst eo33
   go_wp2_with (first | ((with_reducible refine gate_callee (f := 17) rfl ?_); refine gl_ (some 34) Tryd.func17 #[.slice Ao32 t306.length co32, .slice Ao33 t293.length co33] (h := ?_); (with_reducible refine (laws_eqByteS.calls k _ _ t306 _ _ t293 true _ ?side1 ?side2 ?side3 ?side4 A30.out).mono ?_); (case side1 => repeat (first | exact (RMk_reads' HO308.out).2.2 | (with_reducible refine Kd.C_alloc ?_ _) | (with_reducible refine Kd.C_drewN ?_ _) | (with_reducible refine Kd.C_drew ?_))); (case side2 => exact (RMk_reads' HO308.out).2.1); (case side3 => repeat (first | exact (RNk_reads' HO295.out).2.2 | (with_reducible refine Kd.C_alloc ?_ _) | (with_reducible refine Kd.C_drewN ?_ _) | (with_reducible refine Kd.C_drew ?_))); (case side4 => exact (RNk_reads' HO295.out).2.1); rintro e w' ⟨rfl, ⟨nd, rfl⟩⟩; refine ⟨_, rfl, ?_⟩))
   go_meet
   case rel => exact ⟨_, ((t309 != t296)), rs_, H', ⟨by first | omega | exact Nat.le_refl _⟩, ⟨by (with_reducible repeat (first | apply Kd.R_alloc | apply Kd.R_drewN | apply Kd.R_drew | apply RMk_alloc | apply RMk_drewN | apply RMk_drew | apply RNk_alloc | apply RNk_drewN | apply RNk_drew)); exact RNk_mono HO295.out (fun _ hk => ⟨hk.2, ⟨hk.1.2.2.1, hk.1.2.2.2⟩⟩)⟩, ⟨by (with_reducible repeat (first | apply Kd.R_alloc | apply Kd.R_drewN | apply Kd.R_drew | apply RMk_alloc | apply RMk_drewN | apply RMk_drew | apply RNk_alloc | apply RNk_drewN | apply RNk_drew)); exact RMk_mono HO308.out (fun _ hk => ⟨hk.1.1.2, ⟨hk.1.2, hk.2⟩⟩)⟩, ⟨by (with_reducible repeat (first | apply Kd.R_alloc | apply Kd.R_drewN | apply Kd.R_drew | apply RMk_alloc | apply RMk_drewN | apply RMk_drew | apply RNk_alloc | apply RNk_drewN | apply RNk_drew)); exact Kd.R_mono HO300.out (fun _ hk => ⟨hk.1.2.2.1, ⟨hk.2, hk.1.2.2.2⟩⟩)⟩, ⟨by (with_reducible repeat (first | apply Kd.R_alloc | apply Kd.R_drewN | apply Kd.R_drew | apply RMk_alloc | apply RMk_drewN | apply RMk_drew | apply RNk_alloc | apply RNk_drewN | apply RNk_drew)); exact Kd.R_mono HO303.out (fun _ hk => ⟨hk.1.2.2.1, ⟨hk.2, hk.1.2.2.2⟩⟩)⟩, ⟨bkp BK283⟩, ⟨bkp BK305⟩, ⟨bel⟩⟩
  replace c31 := Bool.eq_false_iff.mpr c31
  subst c31
  have H1 : (laws_FnExactOpText.j0 k t293 t296 t306 t309 true a0_0 l0_1 l0_2 a0_3 t297 t298 t301 t304) = some true := by rw [if_neg (show ¬ (false = true) by decide)] at H; exact H
  clear H
  have H := H1
  clear H1
  have H' := Aside0.mk H
  clear H
  obtain ⟨Ao34, co34, eo34⟩ := RMk_slice HO308.out
  subst eo34
  obtain ⟨Ao35, co35, eo35⟩ := RNk_slice HO295.out
  subst eo35
  go_wp2_with (first | ((with_reducible refine gate_callee (f := 17) rfl ?_); refine gl_ (some 34) Tryd.func17 #[.slice Ao34 t306.length co34, .slice Ao35 t293.length co35] (h := ?_); (with_reducible refine (laws_eqByteS.calls k _ _ t306 _ _ t293 false _ ?side1 ?side2 ?side3 ?side4 A30.out).mono ?_); (case side1 => repeat (first | exact (RMk_reads' HO308.out).2.2 | (with_reducible refine Kd.C_alloc ?_ _) | (with_reducible refine Kd.C_drewN ?_ _) | (with_reducible refine Kd.C_drew ?_))); (case side2 => exact (RMk_reads' HO308.out).2.1); (case side3 => repeat (first | exact (RNk_reads' HO295.out).2.2 | (with_reducible refine Kd.C_alloc ?_ _) | (with_reducible refine Kd.C_drewN ?_ _) | (with_reducible refine Kd.C_drew ?_))); (case side4 => exact (RNk_reads' HO295.out).2.1); rintro e w' ⟨rfl, ⟨nd, rfl⟩⟩; refine ⟨_, rfl, ?_⟩))
  go_meet
  case rel => exact ⟨_, (true), rs_, H', ⟨by first | omega | exact Nat.le_refl _⟩, ⟨by (with_reducible repeat (first | apply Kd.R_alloc | apply Kd.R_drewN | apply Kd.R_drew | apply RMk_alloc | apply RMk_drewN | apply RMk_drew | apply RNk_alloc | apply RNk_drewN | apply RNk_drew)); exact RNk_mono HO295.out (fun _ hk => ⟨hk.2, ⟨hk.1.2.2.1, hk.1.2.2.2⟩⟩)⟩, ⟨by (with_reducible repeat (first | apply Kd.R_alloc | apply Kd.R_drewN | apply Kd.R_drew | apply RMk_alloc | apply RMk_drewN | apply RMk_drew | apply RNk_alloc | apply RNk_drewN | apply RNk_drew)); exact RMk_mono HO308.out (fun _ hk => ⟨hk.1.1.2, ⟨hk.1.2, hk.2⟩⟩)⟩, ⟨by (with_reducible repeat (first | apply Kd.R_alloc | apply Kd.R_drewN | apply Kd.R_drew | apply RMk_alloc | apply RMk_drewN | apply RMk_drew | apply RNk_alloc | apply RNk_drewN | apply RNk_drew)); exact Kd.R_mono HO300.out (fun _ hk => ⟨hk.1.2.2.1, ⟨hk.2, hk.1.2.2.2⟩⟩)⟩, ⟨by (with_reducible repeat (first | apply Kd.R_alloc | apply Kd.R_drewN | apply Kd.R_drew | apply RMk_alloc | apply RMk_drewN | apply RMk_drew | apply RNk_alloc | apply RNk_drewN | apply RNk_drew)); exact Kd.R_mono HO303.out (fun _ hk => ⟨hk.1.2.2.1, ⟨hk.2, hk.1.2.2.2⟩⟩)⟩, ⟨bkp BK283⟩, ⟨bkp BK305⟩, ⟨bel⟩⟩
 case rest =>
  clear HC11
  try clear c1; try clear c2; try clear p2; try clear c3; try clear c3b0; try clear c6; try clear c8; try clear c17; try clear c23; try clear c25; try clear c26; try clear c27; try clear c31; try clear C13_0 C13_1 C13_2 C13_3; try clear C15_0 C15_1 C15_2 C15_3; try clear C20_0 C20_1 C20_2 C20_3; try clear C24_0 C24_1 C24_2 C24_3; try clear C28_0 C28_1 C28_2 C28_3; try clear C5_0 C5_1 C5_2 C5_3; try clear F13_0 F13_1 F13_2 F13_3; try clear F15_0 F15_1 F15_2 F15_3; try clear F20_0 F20_1 F20_2 F20_3; try clear F24_0 F24_1 F24_2 F24_3; try clear F28_0 F28_1 F28_2 F28_3; try clear F5_0 F5_1 F5_2 F5_3
  obtain ⟨kq, x40_10, rfl, HA, HJ10, HO_4, HO_7, HO_306001, HO_306002, BK283, BK305, HB⟩ := hcut
  cases kq with
  | zero => exact absurd HA.out (by simp [laws_FnExactOpText.j0])
  | succ kj10 =>
   have H := HA.out
   clear HA
   simp only [laws_FnExactOpText.j0] at H
   by_cases c36 : x40_10 = true
   ·subst c36
    have H1 : (some false) = some true := by rw [if_pos rfl] at H; exact H
    exact absurd H1 (by simp)
   replace c36 := Bool.eq_false_iff.mpr c36
   subst c36
   have H1 : ((laws_toOp.f kj10 a0_0 l0_1 l0_2 a0_3).bind fun bt311 => ((laws_eqOp.f kj10 t297 t298 t301 t304 bt311.1 bt311.2.1 bt311.2.2.1 bt311.2.2.2).bind fun t319 => (if t319 = true then ((laws_markOp.f kj10 t297 t298 t301 t304 1).bind fun bt320 => (if bt320.1 < 0 then (laws_FnExactOpText.j1 kj10 t293 t296 t306 true a0_0 l0_1 l0_2 a0_3) else ((laws_eqByteS.f kj10 t306 t293).bind fun t323 => (if t323 = true then (laws_FnExactOpText.j1 kj10 t293 t296 t306 (t309 != t296) a0_0 l0_1 l0_2 a0_3) else (laws_FnExactOpText.j1 kj10 t293 t296 t306 true a0_0 l0_1 l0_2 a0_3))))) else (some false)))) = some true := by rw [if_neg (show ¬ (false = true) by decide)] at H; exact H
   clear H
   have H := H1
   clear H1
   replace H := Option.bind_eq_some_iff.mp H
   obtain ⟨⟨t311, t312, t315, t318⟩, A370, H⟩ := H
   replace H : ((laws_eqOp.f kj10 t297 t298 t301 t304 t311 t312 t315 t318).bind fun t319 => (if t319 = true then ((laws_markOp.f kj10 t297 t298 t301 t304 1).bind fun bt320 => (if bt320.1 < 0 then (laws_FnExactOpText.j1 kj10 t293 t296 t306 true a0_0 l0_1 l0_2 a0_3) else ((laws_eqByteS.f kj10 t306 t293).bind fun t323 => (if t323 = true then (laws_FnExactOpText.j1 kj10 t293 t296 t306 (t309 != t296) a0_0 l0_1 l0_2 a0_3) else (laws_FnExactOpText.j1 kj10 t293 t296 t306 true a0_0 l0_1 l0_2 a0_3))))) else (some false))) = some true := H
   have A37 := Aside0.mk A370
   clear A370
   replace H := Option.bind_eq_some_iff.mp H
   obtain ⟨t319, A380, H⟩ := H
   replace H : (if t319 = true then ((laws_markOp.f kj10 t297 t298 t301 t304 1).bind fun bt320 => (if bt320.1 < 0 then (laws_FnExactOpText.j1 kj10 t293 t296 t306 true a0_0 l0_1 l0_2 a0_3) else ((laws_eqByteS.f kj10 t306 t293).bind fun t323 => (if t323 = true then (laws_FnExactOpText.j1 kj10 t293 t296 t306 (t309 != t296) a0_0 l0_1 l0_2 a0_3) else (laws_FnExactOpText.j1 kj10 t293 t296 t306 true a0_0 l0_1 l0_2 a0_3))))) else (some false)) = some true := H
   have A38 := Aside0.mk A380
   clear A380
   by_cases c39 : t319 = true
   ·subst c39
    have H1 : ((laws_markOp.f kj10 t297 t298 t301 t304 1).bind fun bt320 => (if bt320.1 < 0 then (laws_FnExactOpText.j1 kj10 t293 t296 t306 true a0_0 l0_1 l0_2 a0_3) else ((laws_eqByteS.f kj10 t306 t293).bind fun t323 => (if t323 = true then (laws_FnExactOpText.j1 kj10 t293 t296 t306 (t309 != t296) a0_0 l0_1 l0_2 a0_3) else (laws_FnExactOpText.j1 kj10 t293 t296 t306 true a0_0 l0_1 l0_2 a0_3))))) = some true := by rw [if_pos rfl] at H; exact H
    clear H
    have H := H1
    clear H1
    replace H := Option.bind_eq_some_iff.mp H
    obtain ⟨⟨t320, t321, t322⟩, A400, H⟩ := H
    replace H : (if t320 < 0 then (laws_FnExactOpText.j1 kj10 t293 t296 t306 true a0_0 l0_1 l0_2 a0_3) else ((laws_eqByteS.f kj10 t306 t293).bind fun t323 => (if t323 = true then (laws_FnExactOpText.j1 kj10 t293 t296 t306 (t309 != t296) a0_0 l0_1 l0_2 a0_3) else (laws_FnExactOpText.j1 kj10 t293 t296 t306 true a0_0 l0_1 l0_2 a0_3)))) = some true := H
    have A40 := Aside0.mk A400
    clear A400
    have HC41 := Aside0.mk H
    clear H
    try go_wp2
    replace HO_4 := Aside0.mk (RNk_drew HO_4.out)
    replace HO_7 := Aside0.mk (RMk_drew HO_7.out)
    replace HO_306001 := Aside0.mk (Kd.R_drew HO_306001.out)
    replace HO_306002 := Aside0.mk (Kd.R_drew HO_306002.out)
    replace BK283 := Aside0.mk (blk_drew BK283.out)
    replace BK305 := Aside0.mk (blk_drew BK305.out)
    replace HB := Aside0.mk (below_drew1 HB.out)
    refine start_ (n := 5) (S := fun w' => w'.cell? ⟨gb305, 0, none⟩ = some (.int .i64 t297) ∧ w'.cell? ⟨gb305, 1, none⟩ = some (.slice Ao25 t298.length co25) ∧ w'.cell? ⟨gb305, 2, none⟩ = some (.slice Ao26 t301.length co26) ∧ w'.cell? ⟨gb305, 3, none⟩ = some (.int .i64 t304) ∧ w'.cell? ⟨gb283, 0, none⟩ = some (.int .i64 a0_0) ∧ w'.cell? ⟨gb283, 1, none⟩ = some (.slice A0_1 l0_1.length c0_1) ∧ w'.cell? ⟨gb283, 2, none⟩ = some (.slice A0_2 l0_2.length c0_2) ∧ w'.cell? ⟨gb283, 3, none⟩ = some (.int .i64 a0_3)) (ds := []) #[false, false, false, false, false] (by kernel_rfl) rfl rfl (cells_4 BK305.out (cellz_4 BK283.out)) (fun hHeld => ?_)
    generalize wc.drew = w42 at HO_4 HO_7 HO_306001 HO_306002 BK283 BK305 HB hHeld ⊢
    refine take_ (i := 0) (N := some 41) (v := ?_) (a' := ?_) #[true, false, false, false, false] rfl rfl (by kernel_rfl) (fun _ _ _ h => h) (Or.inl ⟨by rfl, ?_⟩) hHeld ?_ ?_
    rotate_left
    ·rintro w' ⟨s0, s1, s2, s3, s4, s5, s6, s7⟩
     go_simp
     with_reducible rfl
    rotate_left
    ·simp only [Act.put, List.setIfInBounds_toArray, List.set_cons_zero, List.set_cons_succ, i64_w, i32_w]
     rfl
    refine take_ (i := 1) (N := some 42) (v := ?_) (a' := ?_) #[true, true, false, false, false] rfl rfl (by kernel_rfl) (fun _ _ _ h => h) (Or.inl ⟨by rfl, ?_⟩) hHeld ?_ ?_
    rotate_left
    ·rintro w' ⟨s0, s1, s2, s3, s4, s5, s6, s7⟩
     go_simp
     with_reducible rfl
    rotate_left
    ·simp only [Act.put, List.setIfInBounds_toArray, List.set_cons_zero, List.set_cons_succ, i64_w, i32_w]
     rfl
    refine one_ (i := 2) (N := some 43) #[true, true, true, false, false] rfl rfl (by kernel_rfl) (by decide) (fun K hK => ?_)
    refine gs_ Tryd.func27 #[.agg #[.int .i64 a0_0, .slice A0_1 l0_1.length c0_1, .slice A0_2 l0_2.length c0_2, .int .i64 a0_3]] (h := ?_)
    with_reducible refine (laws_toOp.calls kj10 a0_0 _ _ l0_1 _ _ l0_2 a0_3 t311 t312 t315 t318 _ ?side1 ?side2 ?side3 ?side4 A37.out).mono ?_
    (case side1 => exact kcb)
    (case side2 => exact HC0_1.out)
    (case side3 => exact kcb)
    (case side4 => exact HC0_2.out)
    rintro e w43 ⟨v313, v316, rfl, ho0, ho1, hb⟩
    refine ⟨_, rfl, ?_⟩
    have HO314 := Aside0.mk (Kd.R_lower (Kd.R_new' (Kd.R_new' (Kd.R_new' (Kd.R_new' ho0 (RNk_lt (rnp HO_4))) (RMk_lt (rmp HO_7))) (Kd.R_lt (rkp HO_306001))) (Kd.R_lt (rkp HO_306002))) (below_size bel))
    have HO317 := Aside0.mk (Kd.R_lower (Kd.R_new' (Kd.R_new' (Kd.R_new' (Kd.R_new' ho1 (RNk_lt (rnp HO_4))) (RMk_lt (rmp HO_7))) (Kd.R_lt (rkp HO_306001))) (Kd.R_lt (rkp HO_306002))) (below_size bel))
    replace HO_4 := Aside0.mk (RNk_mono (RNk_told (RNk_told (RNk_old (rnp HO_4) hb) (Kd.R_base ho0)) (Kd.R_base ho1)) (fun _ h_ => h_.1))
    replace HO_7 := Aside0.mk (RMk_mono (RMk_told (RMk_told (RMk_old (rmp HO_7) hb) (Kd.R_base ho0)) (Kd.R_base ho1)) (fun _ h_ => h_.1))
    replace HO_306001 := Aside0.mk (Kd.R_mono (Kd.R_told (Kd.R_told (Kd.R_old (rkp HO_306001) hb) (Kd.R_base ho0)) (Kd.R_base ho1)) (fun _ h_ => h_.1))
    replace HO_306002 := Aside0.mk (Kd.R_mono (Kd.R_told (Kd.R_told (Kd.R_old (rkp HO_306002) hb) (Kd.R_base ho0)) (Kd.R_base ho1)) (fun _ h_ => h_.1))
    replace BK283 := Aside0.mk (blb BK283 hb)
    replace BK305 := Aside0.mk (blb BK305 hb)
    replace HB := bst hb
    (try clear hb)
    (try clear hb2)
    (try clear hk)
    (try clear hi)
    (try clear ho0)
    (try clear ho1)
    obtain ⟨Ao44, co44, eo44⟩ := Kd.R_slice HO314.out
    (first | subst eo44 | (injection eo44 with f1_ f2_ f3_; have f4_ := f1_.symm; have f5_ := f3_.symm; clear f1_ f2_ f3_; subst f4_; subst f5_))
    obtain ⟨Ao45, co45, eo45⟩ := Kd.R_slice HO317.out
    (first | subst eo45 | (injection eo45 with f1_ f2_ f3_; have f4_ := f1_.symm; have f5_ := f3_.symm; clear f1_ f2_ f3_; subst f4_; subst f5_))
    refine hK.out _ _ (cells_4 BK305.out (cellz_4 BK283.out)) (fun hHeld => ?_)
    clear hK K
    refine nrm_ (some 43) (h := ?_)
    refine one_ (i := 3) (N := some 44) #[true, true, true, true, false] rfl rfl (by kernel_rfl) (by decide) (fun K hK => ?_)
    refine gs_ Tryd.func16 #[.agg #[.int .i64 t297, .slice Ao25 t298.length co25, .slice Ao26 t301.length co26, .int .i64 t304], .agg #[.int .i64 t311, .slice Ao44 t312.length co44, .slice Ao45 t315.length co45, .int .i64 t318]] (h := ?_)
    with_reducible refine (laws_eqOp.calls kj10 t297 _ _ t298 _ _ t301 t304 t311 _ _ t312 _ _ t315 t318 true _ ?side1 ?side2 ?side3 ?side4 ?side5 ?side6 ?side7 ?side8 A38.out).mono ?_
    (case side1 => repeat (first | exact (Kd.R_reads' HO_306001.out).2.2 | (with_reducible refine Kd.C_alloc ?_ _) | (with_reducible refine Kd.C_drewN ?_ _) | (with_reducible refine Kd.C_drew ?_)))
    (case side2 => exact (Kd.R_reads' HO_306001.out).2.1)
    (case side3 => repeat (first | exact (Kd.R_reads' HO_306002.out).2.2 | (with_reducible refine Kd.C_alloc ?_ _) | (with_reducible refine Kd.C_drewN ?_ _) | (with_reducible refine Kd.C_drew ?_)))
    (case side4 => exact (Kd.R_reads' HO_306002.out).2.1)
    (case side5 => repeat (first | exact (Kd.R_reads' HO314.out).2.2 | (with_reducible refine Kd.C_alloc ?_ _) | (with_reducible refine Kd.C_drewN ?_ _) | (with_reducible refine Kd.C_drew ?_)))
    (case side6 => exact (Kd.R_reads' HO314.out).2.1)
    (case side7 => repeat (first | exact (Kd.R_reads' HO317.out).2.2 | (with_reducible refine Kd.C_alloc ?_ _) | (with_reducible refine Kd.C_drewN ?_ _) | (with_reducible refine Kd.C_drew ?_)))
    (case side8 => exact (Kd.R_reads' HO317.out).2.1)
    rintro e w46 ⟨rfl, hb⟩
    refine ⟨_, rfl, ?_⟩
    replace HO_4 := Aside0.mk (rnl HO_4 hb)
    replace HO_7 := Aside0.mk (rml HO_7 hb)
    replace HO_306001 := Aside0.mk (rbl HO_306001 hb)
    replace HO_306002 := Aside0.mk (rbl HO_306002 hb)
    replace HO314 := Aside0.mk (rbl HO314 hb)
    replace HO317 := Aside0.mk (rbl HO317 hb)
    replace BK283 := Aside0.mk (blb BK283 hb)
    replace BK305 := Aside0.mk (blb BK305 hb)
    replace HB := bst hb
    (try clear hb)
    (try clear hb2)
    (try clear hk)
    (try clear hi)
    refine hK.out _ _ (cells_4 BK305.out (cellz_4 BK283.out)) (fun hHeld => ?_)
    clear hK K
    refine nrm_ (some 44) (h := ?_)
    refine pure_ (i := 4) (N := some 45) (v := ?_) (a' := ?_) #[true, true, true, true, true] rfl rfl (by kernel_rfl) (fun _ _ _ h => h) (Or.inl ⟨by rfl, ?_⟩) ?_ ?_
    rotate_left
    ·intro w'
     go_simp
     with_reducible rfl
    rotate_left
    ·simp only [Act.put, List.setIfInBounds_toArray, List.set_cons_zero, List.set_cons_succ, i64_w, i32_w]
     rfl
    refine done_ (by kernel_rfl) ?_
    have hnb47 := NB305_283.out
    have hnc47 := NB283_305.out
    obtain ⟨C48_0, C48_1, C48_2, C48_3, -⟩ := cells_4 BK305.out trivial
    obtain ⟨F48_0, F48_1, F48_2, F48_3, -⟩ := frz_4 BK305.out
    go_upto_region 14 with (first | ((with_reducible refine gate_callee (f := 19) rfl ?_); refine gl_ (some 48) Tryd.func19 #[.agg #[.int .i64 t297, .slice Ao25 t298.length co25, .slice Ao26 t301.length co26, .int .i64 t304], .int .i64 1] (h := ?_); (with_reducible refine (laws_markOp.calls kj10 t297 (fun k_ => some k_ = (.slice Ao25 t298.length co25 : Value).ownBlock) (.slice Ao25 t298.length co25) t298 (fun k_ => some k_ = (.slice Ao26 t301.length co26 : Value).ownBlock) (.slice Ao26 t301.length co26) t301 t304 1 t320 t321 t322 w _ ?side1 ?side2 ?side3 ?side4 ?side5 A40.out).mono ?_); (case side1 => repeat (first | (with_reducible first | exact HB.out | apply below_alloc | apply pw_below_drewN | apply below_drew1 | refine below_set ?_ GE283.out | refine below_set ?_ GE305.out) | exact HB.out)); (case side2 => exact Kd.R_tight rfl HO_306001.out); (case side3 => exact fun k_ e_ => (HO_306001.out.1 k_ e_.symm).1.1.2.2); (case side4 => exact Kd.R_tight rfl HO_306002.out); (case side5 => exact fun k_ e_ => (HO_306002.out.1 k_ e_.symm).1.1.2.2); rintro e w49 ⟨rfl, hy0, hy1, hb, hkp⟩; refine ⟨_, rfl, ?_⟩; replace HO_4 := Aside0.mk (RNk_mono (ok' := fun k_ => some k_ ≠ (v307 : Value).ownBlock ∧ some k_ ≠ (.slice Ao25 t298.length co25 : Value).ownBlock ∧ some k_ ≠ (.slice Ao26 t301.length co26 : Value).ownBlock ∧ some k_ ≠ (.slice Ao44 t312.length co44 : Value).ownBlock ∧ some k_ ≠ (.slice Ao45 t315.length co45 : Value).ownBlock) (RNk_keptB (HO_4.out) hkp (fun k_ hk_ hs_ => Or.elim hs_ (fun e_ => (hk_.1.1.2.1) e_) (fun e_ => (hk_.1.1.2.2) e_))) (fun k_ hk_ => ⟨hk_.1.1.1.1, hk_.1.1.1.2.1, hk_.1.1.1.2.2, hk_.1.1.2, hk_.1.2⟩)); replace HO_7 := Aside0.mk (RMk_mono (ok' := fun k_ => some k_ ≠ (v294 : Value).ownBlock ∧ some k_ ≠ (.slice Ao25 t298.length co25 : Value).ownBlock ∧ some k_ ≠ (.slice Ao26 t301.length co26 : Value).ownBlock ∧ some k_ ≠ (.slice Ao44 t312.length co44 : Value).ownBlock ∧ some k_ ≠ (.slice Ao45 t315.length co45 : Value).ownBlock) (RMk_keptB (HO_7.out) hkp (fun k_ hk_ hs_ => Or.elim hs_ (fun e_ => (hk_.1.1.2.1) e_) (fun e_ => (hk_.1.1.2.2) e_))) (fun k_ hk_ => ⟨hk_.1.1.1.1, hk_.1.1.1.2.1, hk_.1.1.1.2.2, hk_.1.1.2, hk_.1.2⟩)); replace BK283 := Aside0.mk (blk_kept (bkp BK283) hkp (fun hs_ => Or.elim hs_ (fun e_ => (fun e_ => (Kd.R_ne HO_306001.out BK283.out (by decide)) e_) e_) (fun e_ => (fun e_ => (Kd.R_ne HO_306002.out BK283.out (by decide)) e_) e_))); replace BK305 := Aside0.mk (blk_kept (bkp BK305) hkp (fun hs_ => Or.elim hs_ (fun e_ => (fun e_ => (Kd.R_ne HO_306001.out BK305.out (by decide)) e_) e_) (fun e_ => (fun e_ => (Kd.R_ne HO_306002.out BK305.out (by decide)) e_) e_))); replace HO_306001 := Aside0.mk (Kd.R_reok rfl hy0 (fun k_ e_ => HO_306001.out.1 k_ e_)); replace HO_306002 := Aside0.mk (Kd.R_reok rfl hy1 (fun k_ e_ => HO_306002.out.1 k_ e_)); replace HO314 := Aside0.mk (Kd.R_mono (ok' := fun k_ => some k_ ≠ (v294 : Value).ownBlock ∧ some k_ ≠ (v307 : Value).ownBlock ∧ some k_ ≠ (.slice Ao25 t298.length co25 : Value).ownBlock ∧ some k_ ≠ (.slice Ao26 t301.length co26 : Value).ownBlock ∧ some k_ ≠ (.slice Ao45 t315.length co45 : Value).ownBlock) (Kd.R_keptB (HO314.out) hkp (fun k_ hk_ hs_ => Or.elim hs_ (fun e_ => (hk_.1.2) e_) (fun e_ => (hk_.2) e_))) (fun k_ hk_ => ⟨hk_.1.1.1.1.2, hk_.1.1.1.2, hk_.1.1.2, hk_.1.2, hk_.1.1.1.1.1⟩)); replace HO317 := Aside0.mk (Kd.R_mono (ok' := fun k_ => some k_ ≠ (v294 : Value).ownBlock ∧ some k_ ≠ (v307 : Value).ownBlock ∧ some k_ ≠ (.slice Ao25 t298.length co25 : Value).ownBlock ∧ some k_ ≠ (.slice Ao26 t301.length co26 : Value).ownBlock ∧ some k_ ≠ (.slice Ao44 t312.length co44 : Value).ownBlock) (Kd.R_keptB (HO317.out) hkp (fun k_ hk_ hs_ => Or.elim hs_ (fun e_ => (hk_.1.2) e_) (fun e_ => (hk_.2) e_))) (fun k_ hk_ => ⟨hk_.1.1.1.1.2, hk_.1.1.1.2, hk_.1.1.2, hk_.1.2, hk_.1.1.1.1.1⟩)); replace HB := Aside0.mk (hb); (try clear hb); (try clear hkp); (try clear hy0); (try clear hy1)))
    (try simp only [Act.put, List.setIfInBounds_toArray, List.set_cons_zero, List.set_cons_succ])
    go_cut [61] (fun v61 wc => ∃ (kq : Nat) (x61_40 : Bool), v61 = .bool x61_40 ∧ Aside0 (laws_FnExactOpText.j1 kq t293 t296 t306 x61_40 a0_0 l0_1 l0_2 a0_3 = some true) ∧ Aside0 (kq ≤ kj10) ∧ Aside0 (RNk wc w.heap.size (fun k_ => some k_ ≠ (v307 : Value).ownBlock ∧ some k_ ≠ ((.slice Ao25 t298.length co25) : Value).ownBlock ∧ some k_ ≠ ((.slice Ao26 t301.length co26) : Value).ownBlock) v294 t293) ∧ Aside0 (RMk wc w.heap.size (fun k_ => some k_ ≠ (v294 : Value).ownBlock ∧ some k_ ≠ ((.slice Ao25 t298.length co25) : Value).ownBlock ∧ some k_ ≠ ((.slice Ao26 t301.length co26) : Value).ownBlock) v307 t306) ∧ Aside0 (Kd.R (Kd.int .u8) 5 wc w.heap.size (fun k_ => some k_ ≠ (v294 : Value).ownBlock ∧ some k_ ≠ (v307 : Value).ownBlock ∧ some k_ ≠ ((.slice Ao26 t301.length co26) : Value).ownBlock) (.slice Ao25 t298.length co25) t321) ∧ Aside0 (Kd.R (Kd.int .u8) 5 wc w.heap.size (fun k_ => some k_ ≠ (v294 : Value).ownBlock ∧ some k_ ≠ (v307 : Value).ownBlock ∧ some k_ ≠ ((.slice Ao25 t298.length co25) : Value).ownBlock) (.slice Ao26 t301.length co26) t322) ∧ Aside0 (wc.heap[gb283]? = some (.cells #[.int .i64 a0_0, (.slice A0_1 l0_1.length c0_1), (.slice A0_2 l0_2.length c0_2), .int .i64 a0_3] 43 (0, 0))) ∧ Aside0 (wc.heap[gb305]? = some (.cells #[.int .i64 t297, (.slice Ao25 t298.length co25), (.slice Ao26 t301.length co26), .int .i64 t304] 24 (0, 0))) ∧ Aside0 (Below w.heap.size w wc))
    case first =>
     have H := HC41.out
     clear HC41
     by_cases c50 : t320 < 0
     ·rw [if_pos c50] at H
      exact absurd H (by first | simp | (unfold laws_FnExactOpText.j0; split <;> simp) | (unfold laws_FnExactOpText.j1; split <;> simp) | (unfold laws_FnExactOpText.j2; split <;> simp))
     rw [if_neg c50] at H
     have c50b0 : decide (t320 < 0) = false := decide_eq_false c50
     clear c50
     (first | rw [c50b0] | (simp only [i64_w, i32_w]; rw [c50b0]) | skip)
     replace H := Option.bind_eq_some_iff.mp H
     obtain ⟨t323, A510, H⟩ := H
     replace H : (if t323 = true then (laws_FnExactOpText.j1 kj10 t293 t296 t306 (t309 != t296) a0_0 l0_1 l0_2 a0_3) else (laws_FnExactOpText.j1 kj10 t293 t296 t306 true a0_0 l0_1 l0_2 a0_3)) = some true := H
     have A51 := Aside0.mk A510
     clear A510
     by_cases c52 : t323 = true
     ·subst c52
      have H1 : (laws_FnExactOpText.j1 kj10 t293 t296 t306 (t309 != t296) a0_0 l0_1 l0_2 a0_3) = some true := by rw [if_pos rfl] at H; exact H
      clear H
      have H := H1
      clear H1
      have H' := Aside0.mk H
      clear H
      obtain ⟨Ao53, co53, eo53⟩ := RMk_slice HO_7.out
      subst eo53
      obtain ⟨Ao54, co54, eo54⟩ := RNk_slice HO_4.out
      subst eo54
      go_wp2_with (first | (go_at_call 17; (with_reducible refine (laws_eqByteS.calls kj10 _ _ t306 _ _ t293 true _ ?side1 ?side2 ?side3 ?side4 A51.out).mono ?_); (case side1 => repeat (first | exact (RMk_reads' HO_7.out).2.2 | (with_reducible refine Kd.C_alloc ?_ _) | (with_reducible refine Kd.C_drewN ?_ _) | (with_reducible refine Kd.C_drew ?_))); (case side2 => exact (RMk_reads' HO_7.out).2.1); (case side3 => repeat (first | exact (RNk_reads' HO_4.out).2.2 | (with_reducible refine Kd.C_alloc ?_ _) | (with_reducible refine Kd.C_drewN ?_ _) | (with_reducible refine Kd.C_drew ?_))); (case side4 => exact (RNk_reads' HO_4.out).2.1); rintro e w' ⟨rfl, ⟨nd, rfl⟩⟩))
      go_meet
      case rel => exact ⟨_, ((t309 != t296)), rs_, H', ⟨by have := HJ10.out; first | omega | exact Nat.le_refl _⟩, ⟨by (with_reducible repeat (first | apply Kd.R_alloc | apply Kd.R_drewN | apply Kd.R_drew | apply RMk_alloc | apply RMk_drewN | apply RMk_drew | apply RNk_alloc | apply RNk_drewN | apply RNk_drew)); exact RNk_mono HO_4.out (fun _ hk => ⟨hk.1, ⟨hk.2.1, hk.2.2.1⟩⟩)⟩, ⟨by (with_reducible repeat (first | apply Kd.R_alloc | apply Kd.R_drewN | apply Kd.R_drew | apply RMk_alloc | apply RMk_drewN | apply RMk_drew | apply RNk_alloc | apply RNk_drewN | apply RNk_drew)); exact RMk_mono HO_7.out (fun _ hk => ⟨hk.1, ⟨hk.2.1, hk.2.2.1⟩⟩)⟩, ⟨by (with_reducible repeat (first | apply Kd.R_alloc | apply Kd.R_drewN | apply Kd.R_drew | apply RMk_alloc | apply RMk_drewN | apply RMk_drew | apply RNk_alloc | apply RNk_drewN | apply RNk_drew)); exact Kd.R_mono HO_306001.out (fun _ hk => ⟨hk.1.1.1, ⟨hk.1.1.2.1, hk.1.1.2.2⟩⟩)⟩, ⟨by (with_reducible repeat (first | apply Kd.R_alloc | apply Kd.R_drewN | apply Kd.R_drew | apply RMk_alloc | apply RMk_drewN | apply RMk_drew | apply RNk_alloc | apply RNk_drewN | apply RNk_drew)); exact Kd.R_mono HO_306002.out (fun _ hk => ⟨hk.1.1.1, ⟨hk.1.1.2.1, hk.1.1.2.2⟩⟩)⟩, ⟨bkp BK283⟩, ⟨bkp BK305⟩, ⟨bel⟩⟩
     replace c52 := Bool.eq_false_iff.mpr c52
     subst c52
     have H1 : (laws_FnExactOpText.j1 kj10 t293 t296 t306 true a0_0 l0_1 l0_2 a0_3) = some true := by rw [if_neg (show ¬ (false = true) by decide)] at H; exact H
     clear H
     have H := H1
     clear H1
     have H' := Aside0.mk H
     clear H
     obtain ⟨Ao55, co55, eo55⟩ := RMk_slice HO_7.out
     subst eo55
     obtain ⟨Ao56, co56, eo56⟩ := RNk_slice HO_4.out
     subst eo56
     go_wp2_with (first | (go_at_call 17; (with_reducible refine (laws_eqByteS.calls kj10 _ _ t306 _ _ t293 false _ ?side1 ?side2 ?side3 ?side4 A51.out).mono ?_); (case side1 => repeat (first | exact (RMk_reads' HO_7.out).2.2 | (with_reducible refine Kd.C_alloc ?_ _) | (with_reducible refine Kd.C_drewN ?_ _) | (with_reducible refine Kd.C_drew ?_))); (case side2 => exact (RMk_reads' HO_7.out).2.1); (case side3 => repeat (first | exact (RNk_reads' HO_4.out).2.2 | (with_reducible refine Kd.C_alloc ?_ _) | (with_reducible refine Kd.C_drewN ?_ _) | (with_reducible refine Kd.C_drew ?_))); (case side4 => exact (RNk_reads' HO_4.out).2.1); rintro e w' ⟨rfl, ⟨nd, rfl⟩⟩))
     go_meet
     case rel => exact ⟨_, (true), rs_, H', ⟨by have := HJ10.out; first | omega | exact Nat.le_refl _⟩, ⟨by (with_reducible repeat (first | apply Kd.R_alloc | apply Kd.R_drewN | apply Kd.R_drew | apply RMk_alloc | apply RMk_drewN | apply RMk_drew | apply RNk_alloc | apply RNk_drewN | apply RNk_drew)); exact RNk_mono HO_4.out (fun _ hk => ⟨hk.1, ⟨hk.2.1, hk.2.2.1⟩⟩)⟩, ⟨by (with_reducible repeat (first | apply Kd.R_alloc | apply Kd.R_drewN | apply Kd.R_drew | apply RMk_alloc | apply RMk_drewN | apply RMk_drew | apply RNk_alloc | apply RNk_drewN | apply RNk_drew)); exact RMk_mono HO_7.out (fun _ hk => ⟨hk.1, ⟨hk.2.1, hk.2.2.1⟩⟩)⟩, ⟨by (with_reducible repeat (first | apply Kd.R_alloc | apply Kd.R_drewN | apply Kd.R_drew | apply RMk_alloc | apply RMk_drewN | apply RMk_drew | apply RNk_alloc | apply RNk_drewN | apply RNk_drew)); exact Kd.R_mono HO_306001.out (fun _ hk => ⟨hk.1.1.1, ⟨hk.1.1.2.1, hk.1.1.2.2⟩⟩)⟩, ⟨by (with_reducible repeat (first | apply Kd.R_alloc | apply Kd.R_drewN | apply Kd.R_drew | apply RMk_alloc | apply RMk_drewN | apply RMk_drew | apply RNk_alloc | apply RNk_drewN | apply RNk_drew)); exact Kd.R_mono HO_306002.out (fun _ hk => ⟨hk.1.1.1, ⟨hk.1.1.2.1, hk.1.1.2.2⟩⟩)⟩, ⟨bkp BK283⟩, ⟨bkp BK305⟩, ⟨bel⟩⟩
    case rest =>
     clear HC41
     try clear c1; try clear c2; try clear p2; try clear c3; try clear c3b0; try clear c4; try clear c5; try clear c6; try clear c8; try clear c16; try clear c17; try clear c19; try clear c23; try clear c25; try clear c26; try clear c27; try clear c31; try clear c36; try clear c39; try clear c47; try clear c50; try clear c50b0; try clear c52; try clear C13_0 C13_1 C13_2 C13_3; try clear C15_0 C15_1 C15_2 C15_3; try clear C20_0 C20_1 C20_2 C20_3; try clear C24_0 C24_1 C24_2 C24_3; try clear C28_0 C28_1 C28_2 C28_3; try clear C48_0 C48_1 C48_2 C48_3; try clear C5_0 C5_1 C5_2 C5_3; try clear F13_0 F13_1 F13_2 F13_3; try clear F15_0 F15_1 F15_2 F15_3; try clear F20_0 F20_1 F20_2 F20_3; try clear F24_0 F24_1 F24_2 F24_3; try clear F28_0 F28_1 F28_2 F28_3; try clear F48_0 F48_1 F48_2 F48_3; try clear F5_0 F5_1 F5_2 F5_3; try clear p2
     obtain ⟨kq, x61_40, rfl, HA, HJ40, HO_4, HO_7, HO_306001, HO_306002, BK283, BK305, HB⟩ := hcut
     have hl306001_40 := (Kd.R_reads' HO_306001.out).1
     rw [hl306001_40] at HO_306001
     (try simp only [hl306001_40])
     (try simp only [hl306001_40] at BK283)
     (try simp only [hl306001_40] at BK305)
     (try simp only [hl306001_40] at HO_4)
     (try simp only [hl306001_40] at HO_7)
     (try simp only [hl306001_40] at HO_306002)
     have hl306002_40 := (Kd.R_reads' HO_306002.out).1
     rw [hl306002_40] at HO_306002
     (try simp only [hl306002_40])
     (try simp only [hl306002_40] at BK283)
     (try simp only [hl306002_40] at BK305)
     (try simp only [hl306002_40] at HO_4)
     (try simp only [hl306002_40] at HO_7)
     (try simp only [hl306002_40] at HO_306001)
     cases kq with
     | zero => exact absurd HA.out (by simp [laws_FnExactOpText.j1])
     | succ kj40 =>
      have H := HA.out
      clear HA
      simp only [laws_FnExactOpText.j1] at H
      by_cases c57 : x61_40 = true
      ·subst c57
       have H1 : (some false) = some true := by rw [if_pos rfl] at H; exact H
       exact absurd H1 (by simp)
      replace c57 := Bool.eq_false_iff.mpr c57
      subst c57
      have H1 : ((laws_markByteS.f kj40 t306 1).bind fun bt324 => ((laws_heldByteS.f kj40 bt324.2 1).bind fun t326 => (if t326 < 0 then (some false) else (if t326 = bt324.1 then ((laws_toOp.f kj40 a0_0 l0_1 l0_2 a0_3).bind fun bt327 => ((impl_OpText.f kj40 bt327.1 bt327.2.1 bt327.2.2.1 bt327.2.2.2).bind fun bt335 => ((laws_eqByteS.f kj40 bt335.1 t293).bind fun t339 => (if t339 = true then (laws_FnExactOpText.j2 kj40 bt324.2 bt324.1 (bt335.2 != t296)) else (laws_FnExactOpText.j2 kj40 bt324.2 bt324.1 true))))) else (some false))))) = some true := by rw [if_neg (show ¬ (false = true) by decide)] at H; exact H
      clear H
      have H := H1
      clear H1
      replace H := Option.bind_eq_some_iff.mp H
      obtain ⟨⟨t324, t325⟩, A580, H⟩ := H
      replace H : ((laws_heldByteS.f kj40 t325 1).bind fun t326 => (if t326 < 0 then (some false) else (if t326 = t324 then ((laws_toOp.f kj40 a0_0 l0_1 l0_2 a0_3).bind fun bt327 => ((impl_OpText.f kj40 bt327.1 bt327.2.1 bt327.2.2.1 bt327.2.2.2).bind fun bt335 => ((laws_eqByteS.f kj40 bt335.1 t293).bind fun t339 => (if t339 = true then (laws_FnExactOpText.j2 kj40 t325 t324 (bt335.2 != t296)) else (laws_FnExactOpText.j2 kj40 t325 t324 true))))) else (some false)))) = some true := H
      have A58 := Aside0.mk A580
      clear A580
      replace H := Option.bind_eq_some_iff.mp H
      obtain ⟨t326, A590, H⟩ := H
      replace H : (if t326 < 0 then (some false) else (if t326 = t324 then ((laws_toOp.f kj40 a0_0 l0_1 l0_2 a0_3).bind fun bt327 => ((impl_OpText.f kj40 bt327.1 bt327.2.1 bt327.2.2.1 bt327.2.2.2).bind fun bt335 => ((laws_eqByteS.f kj40 bt335.1 t293).bind fun t339 => (if t339 = true then (laws_FnExactOpText.j2 kj40 t325 t324 (bt335.2 != t296)) else (laws_FnExactOpText.j2 kj40 t325 t324 true))))) else (some false))) = some true := H
      have A59 := Aside0.mk A590
      clear A590
      by_cases c60 : t326 < 0
      ·rw [if_pos c60] at H
       exact absurd H (by first | simp | (unfold laws_FnExactOpText.j0; split <;> simp) | (unfold laws_FnExactOpText.j1; split <;> simp) | (unfold laws_FnExactOpText.j2; split <;> simp))
      rw [if_neg c60] at H
      have c60b0 : decide (t326 < 0) = false := decide_eq_false c60
      clear c60
      by_cases c63 : t326 = t324
      ·rw [if_pos c63] at H
       have c63b0 : (t326 == t324) = true := beq_iff_eq.mpr c63
       have c63b1 : (t326 != t324) = false := bne_eq_false_iff_eq.mpr c63
       clear c63
       replace H := Option.bind_eq_some_iff.mp H
       obtain ⟨⟨t327, t328, t331, t334⟩, A640, H⟩ := H
       replace H : ((impl_OpText.f kj40 t327 t328 t331 t334).bind fun bt335 => ((laws_eqByteS.f kj40 bt335.1 t293).bind fun t339 => (if t339 = true then (laws_FnExactOpText.j2 kj40 t325 t324 (bt335.2 != t296)) else (laws_FnExactOpText.j2 kj40 t325 t324 true)))) = some true := H
       have A64 := Aside0.mk A640
       clear A640
       replace H := Option.bind_eq_some_iff.mp H
       obtain ⟨⟨t335, t338⟩, A650, H⟩ := H
       replace H : ((laws_eqByteS.f kj40 t335 t293).bind fun t339 => (if t339 = true then (laws_FnExactOpText.j2 kj40 t325 t324 (t338 != t296)) else (laws_FnExactOpText.j2 kj40 t325 t324 true))) = some true := H
       have A65 := Aside0.mk A650
       clear A650
       have HC66 := Aside0.mk H
       clear H
       obtain ⟨Ao67, co67, eo67⟩ := RMk_slice HO_7.out
       subst eo67
       go_upto_region 25 with (first | ((with_reducible refine gate_callee (f := 18) rfl ?_); refine gl_ (some 64) Tryd.func18 #[.slice Ao67 t306.length co67, .int .i64 1] (h := ?_); (with_reducible refine (laws_markByteS.callsM kj40 (fun k_ => some k_ = (.slice Ao67 t306.length co67 : Value).ownBlock) (.slice Ao67 t306.length co67) t306 1 t324 t325 w _ ?side1 ?side2 A58.out).mono ?_); (case side1 => repeat (first | (with_reducible first | exact HB.out | apply below_alloc | apply pw_below_drewN | apply below_drew1 | refine below_set ?_ GE283.out | refine below_set ?_ GE305.out) | exact HB.out)); (case side2 => exact RMk_tight rfl HO_7.out); rintro e w68 ⟨rfl, hy0, hb, hkp⟩; refine ⟨_, rfl, ?_⟩; replace HO_4 := Aside0.mk (RNk_mono (ok' := fun k_ => some k_ ≠ (.slice Ao67 t306.length co67 : Value).ownBlock ∧ some k_ ≠ (.slice Ao25 t321.length co25 : Value).ownBlock ∧ some k_ ≠ (.slice Ao26 t322.length co26 : Value).ownBlock) (RNk_keptB (HO_4.out) hkp (fun k_ hk_ hs_ => (hk_.1) hs_)) (fun k_ hk_ => ⟨hk_.1.1, hk_.1.2.1, hk_.1.2.2⟩)); replace HO_306001 := Aside0.mk (Kd.R_mono (ok' := fun k_ => some k_ ≠ (v294 : Value).ownBlock ∧ some k_ ≠ (.slice Ao67 t306.length co67 : Value).ownBlock ∧ some k_ ≠ (.slice Ao26 t322.length co26 : Value).ownBlock) (Kd.R_keptB (HO_306001.out) hkp (fun k_ hk_ hs_ => (hk_.2.1) hs_)) (fun k_ hk_ => ⟨hk_.1.1, hk_.1.2.1, hk_.1.2.2⟩)); replace HO_306002 := Aside0.mk (Kd.R_mono (ok' := fun k_ => some k_ ≠ (v294 : Value).ownBlock ∧ some k_ ≠ (.slice Ao67 t306.length co67 : Value).ownBlock ∧ some k_ ≠ (.slice Ao25 t321.length co25 : Value).ownBlock) (Kd.R_keptB (HO_306002.out) hkp (fun k_ hk_ hs_ => (hk_.2.1) hs_)) (fun k_ hk_ => ⟨hk_.1.1, hk_.1.2.1, hk_.1.2.2⟩)); replace BK283 := Aside0.mk (blk_kept (bkp BK283) hkp (fun hs_ => (fun e_ => (RMk_neC HO_7.out BK283.out ⟨_, rfl⟩) e_) hs_)); replace BK305 := Aside0.mk (blk_kept (bkp BK305) hkp (fun hs_ => (fun e_ => (RMk_neC HO_7.out BK305.out ⟨_, rfl⟩) e_) hs_)); replace HO_7 := Aside0.mk (RMk_reok rfl hy0 (fun k_ e_ => HO_7.out.1 k_ e_)); replace HB := Aside0.mk (hb); (try clear hb); (try clear hkp); (try clear hy0)) | ((with_reducible refine gate_callee (f := 24) rfl ?_); refine goesL_ (some 67) rfl rfl Tryd.func24 (by kernel_rfl) rfl #[.slice Ao67 t325.length co67, .int .i64 1] rfl (by (try simp only [List.map_toArray, List.map_cons, List.map_nil]); first | done | (rw [show t325.length = t306.length from (RMk_reads' HO_7.out).1.symm] <;> rfl) | rfl | (simp only [List.length_drop, List.length_take]; rfl)) ?_; (with_reducible refine (laws_heldByteS.calls kj40 _ _ t325 1 t326 _ ?side1 ?side2 A59.out).mono ?_); (case side1 => repeat (first | exact (RMk_reads' HO_7.out).2.2 | (with_reducible refine Kd.C_alloc ?_ _) | (with_reducible refine Kd.C_drewN ?_ _) | (with_reducible refine Kd.C_drew ?_))); (case side2 => rw [show t325.length = t306.length from (RMk_reads' HO_7.out).1.symm]; exact (RMk_reads' HO_7.out).2.1); rintro e w' ⟨rfl, ⟨nd, rfl⟩⟩; refine ⟨_, rfl, ?_⟩; have hnb69 := NB283_305.out; have hnc69 := NB305_283.out; obtain ⟨C70_0, C70_1, C70_2, C70_3, -⟩ := cells_4 BK283.out trivial; obtain ⟨F70_0, F70_1, F70_2, F70_3, -⟩ := frz_4 BK283.out) | ((with_reducible refine gate_callee (f := 27) rfl ?_); refine gl_ (some 75) Tryd.func27 #[.agg #[.int .i64 a0_0, .slice A0_1 l0_1.length c0_1, .slice A0_2 l0_2.length c0_2, .int .i64 a0_3]] (h := ?_); (with_reducible refine (laws_toOp.calls kj40 a0_0 _ _ l0_1 _ _ l0_2 a0_3 t327 t328 t331 t334 _ ?side1 ?side2 ?side3 ?side4 A64.out).mono ?_); (case side1 => exact kcb); (case side2 => exact HC0_1.out); (case side3 => exact kcb); (case side4 => exact HC0_2.out); rintro e w71 ⟨v329, v332, rfl, ho0, ho1, hb⟩; refine ⟨_, rfl, ?_⟩; have HO330 := Aside0.mk (Kd.R_lower (Kd.R_new' (Kd.R_new' (Kd.R_new' (Kd.R_new' ho0 (RNk_lt (rnp HO_4))) (RMk_lt (rmp HO_7))) (Kd.R_lt (rkp HO_306001))) (Kd.R_lt (rkp HO_306002))) (below_size bel)); have HO333 := Aside0.mk (Kd.R_lower (Kd.R_new' (Kd.R_new' (Kd.R_new' (Kd.R_new' ho1 (RNk_lt (rnp HO_4))) (RMk_lt (rmp HO_7))) (Kd.R_lt (rkp HO_306001))) (Kd.R_lt (rkp HO_306002))) (below_size bel)); replace HO_4 := Aside0.mk (RNk_mono (RNk_told (RNk_told (RNk_old (rnp HO_4) hb) (Kd.R_base ho0)) (Kd.R_base ho1)) (fun _ h_ => h_.1)); replace HO_7 := Aside0.mk (RMk_mono (RMk_told (RMk_told (RMk_old (rmp HO_7) hb) (Kd.R_base ho0)) (Kd.R_base ho1)) (fun _ h_ => h_.1)); replace HO_306001 := Aside0.mk (Kd.R_mono (Kd.R_told (Kd.R_told (Kd.R_old (rkp HO_306001) hb) (Kd.R_base ho0)) (Kd.R_base ho1)) (fun _ h_ => h_.1)); replace HO_306002 := Aside0.mk (Kd.R_mono (Kd.R_told (Kd.R_told (Kd.R_old (rkp HO_306002) hb) (Kd.R_base ho0)) (Kd.R_base ho1)) (fun _ h_ => h_.1)); replace BK283 := Aside0.mk (blb BK283 hb); replace BK305 := Aside0.mk (blb BK305 hb); replace HB := bst hb; (try clear hb); (try clear hb2); (try clear hk); (try clear hi); (try clear ho0); (try clear ho1); obtain ⟨Ao72, co72, eo72⟩ := Kd.R_slice HO330.out; subst eo72; obtain ⟨Ao73, co73, eo73⟩ := Kd.R_slice HO333.out; subst eo73) | ((with_reducible refine gate_callee (f := 8) rfl ?_); refine gl_ (some 76) Tryd.func8 #[.agg #[.int .i64 t327, .slice Ao72 t328.length co72, .slice Ao73 t331.length co73, .int .i64 t334]] (h := ?_); (with_reducible refine (impl_OpText.calls kj40 t327 (fun k_ => some k_ = (.slice Ao72 t328.length co72 : Value).ownBlock) _ _ t328 _ _ t331 t334 t335 t338 _ ?side1 ?side2 ?side3 (tbl_ HTAB.out bel) A65.out).mono ?_); (case side1 => exact Kd.R_V (Kd.R_tight rfl (Kd.R_types (Kd.R_types (HO330.out) BK283.out (by decide)) BK305.out (by decide)))); (case side2 => repeat (first | exact (Kd.R_reads' HO333.out).2.2 | (with_reducible refine Kd.C_alloc ?_ _) | (with_reducible refine Kd.C_drewN ?_ _) | (with_reducible refine Kd.C_drew ?_))); (case side3 => exact (Kd.R_reads' HO333.out).2.1); rintro e w74 ⟨v336, rfl, ho0, hb⟩; refine ⟨_, rfl, ?_⟩; have HO337 := Aside0.mk (RMk_lower (RMk_new' (RMk_new' (RMk_new' (RMk_new' (RMk_new' (RMk_new' (RMk_mono (ok' := fun k_ => True) ho0 (fun _ hk_ => trivial)) (RNk_lt (rnp HO_4))) (RMk_lt (rmp HO_7))) (Kd.R_lt (rkp HO_306001))) (Kd.R_lt (rkp HO_306002))) (Kd.R_lt (rkp HO330))) (Kd.R_lt (rkp HO333))) (below_size bel)); replace HO_4 := Aside0.mk (RNk_elder' (rnp HO_4) (RMk_base ho0) hb); replace HO_7 := Aside0.mk (RMk_elder' (rmp HO_7) (RMk_base ho0) hb); replace HO_306001 := Aside0.mk (Kd.R_elder' (rkp HO_306001) (RMk_base ho0) hb); replace HO_306002 := Aside0.mk (Kd.R_elder' (rkp HO_306002) (RMk_base ho0) hb); replace HO330 := Aside0.mk (Kd.R_elder' (rkp HO330) (RMk_base ho0) hb); replace HO333 := Aside0.mk (Kd.R_elder' (rkp HO333) (RMk_base ho0) hb); replace BK283 := Aside0.mk (blb BK283 hb); replace BK305 := Aside0.mk (blb BK305 hb); replace HB := bst hb; (try clear hb); (try clear hb2); (try clear hk); (try clear hi); (try clear ho0)))
       (try simp only [Act.put, List.setIfInBounds_toArray, List.set_cons_zero, List.set_cons_succ])
       go_cut [87] (fun v87 wc => ∃ (kq : Nat) (x87_65 : Bool), v87 = .bool x87_65 ∧ Aside0 (laws_FnExactOpText.j2 kq t325 t324 x87_65 = some true) ∧ Aside0 (kq ≤ kj40) ∧ Aside0 (RMk wc w.heap.size (fun k_ => some k_ ≠ ((.slice Ao25 t321.length co25) : Value).ownBlock ∧ some k_ ≠ ((.slice Ao26 t322.length co26) : Value).ownBlock) (.slice Ao67 t306.length co67) t325) ∧ Aside0 (Kd.R (Kd.int .u8) 5 wc w.heap.size (fun k_ => some k_ ≠ ((.slice Ao67 t306.length co67) : Value).ownBlock ∧ some k_ ≠ ((.slice Ao26 t322.length co26) : Value).ownBlock) (.slice Ao25 t321.length co25) t321) ∧ Aside0 (Kd.R (Kd.int .u8) 5 wc w.heap.size (fun k_ => some k_ ≠ ((.slice Ao67 t306.length co67) : Value).ownBlock ∧ some k_ ≠ ((.slice Ao25 t321.length co25) : Value).ownBlock) (.slice Ao26 t322.length co26) t322) ∧ Aside0 (wc.heap[gb283]? = some (.cells #[.int .i64 a0_0, (.slice A0_1 l0_1.length c0_1), (.slice A0_2 l0_2.length c0_2), .int .i64 a0_3] 43 (0, 0))) ∧ Aside0 (wc.heap[gb305]? = some (.cells #[.int .i64 t297, (.slice Ao25 t321.length co25), (.slice Ao26 t322.length co26), .int .i64 t304] 24 (0, 0))) ∧ Aside0 (Below w.heap.size w wc))
       case first =>
        have H := HC66.out
        clear HC66
        replace H := Option.bind_eq_some_iff.mp H
        obtain ⟨t339, A750, H⟩ := H
        replace H : (if t339 = true then (laws_FnExactOpText.j2 kj40 t325 t324 (t338 != t296)) else (laws_FnExactOpText.j2 kj40 t325 t324 true)) = some true := H
        have A75 := Aside0.mk A750
        clear A750
        by_cases c76 : t339 = true
        ·subst c76
         have H1 : (laws_FnExactOpText.j2 kj40 t325 t324 (t338 != t296)) = some true := by rw [if_pos rfl] at H; exact H
         clear H
         have H := H1
         clear H1
         have H' := Aside0.mk H
         clear H
         obtain ⟨Ao77, co77, eo77⟩ := RMk_slice HO337.out
         subst eo77
         obtain ⟨Ao78, co78, eo78⟩ := RNk_slice HO_4.out
         subst eo78
         go_wp2_with (first | ((with_reducible refine gate_callee (f := 17) rfl ?_); refine gl_ (some 81) Tryd.func17 #[.slice Ao77 t335.length co77, .slice Ao78 t293.length co78] (h := ?_); (with_reducible refine (laws_eqByteS.calls kj40 _ _ t335 _ _ t293 true _ ?side1 ?side2 ?side3 ?side4 A75.out).mono ?_); (case side1 => repeat (first | exact (RMk_reads' HO337.out).2.2 | (with_reducible refine Kd.C_alloc ?_ _) | (with_reducible refine Kd.C_drewN ?_ _) | (with_reducible refine Kd.C_drew ?_))); (case side2 => exact (RMk_reads' HO337.out).2.1); (case side3 => repeat (first | exact (RNk_reads' HO_4.out).2.2 | (with_reducible refine Kd.C_alloc ?_ _) | (with_reducible refine Kd.C_drewN ?_ _) | (with_reducible refine Kd.C_drew ?_))); (case side4 => exact (RNk_reads' HO_4.out).2.1); rintro e w' ⟨rfl, ⟨nd, rfl⟩⟩; refine ⟨_, rfl, ?_⟩))
         go_meet
         case rel => exact ⟨_, ((t338 != t296)), rs_, H', ⟨by have := HJ10.out; have := HJ40.out; first | omega | exact Nat.le_refl _⟩, ⟨by (try simp only [hl306001_40]); (try simp only [hl306002_40]); (with_reducible repeat (first | apply Kd.R_alloc | apply Kd.R_drewN | apply Kd.R_drew | apply RMk_alloc | apply RMk_drewN | apply RMk_drew | apply RNk_alloc | apply RNk_drewN | apply RNk_drew)); exact RMk_mono HO_7.out (fun _ hk => ⟨hk.1.1.1.2.1, hk.1.1.1.2.2⟩)⟩, ⟨by (try simp only [hl306001_40]); (try simp only [hl306002_40]); (with_reducible repeat (first | apply Kd.R_alloc | apply Kd.R_drewN | apply Kd.R_drew | apply RMk_alloc | apply RMk_drewN | apply RMk_drew | apply RNk_alloc | apply RNk_drewN | apply RNk_drew)); exact Kd.R_mono HO_306001.out (fun _ hk => ⟨hk.1.1.1.2.1, hk.1.1.1.2.2⟩)⟩, ⟨by (try simp only [hl306001_40]); (try simp only [hl306002_40]); (with_reducible repeat (first | apply Kd.R_alloc | apply Kd.R_drewN | apply Kd.R_drew | apply RMk_alloc | apply RMk_drewN | apply RMk_drew | apply RNk_alloc | apply RNk_drewN | apply RNk_drew)); exact Kd.R_mono HO_306002.out (fun _ hk => ⟨hk.1.1.1.2.1, hk.1.1.1.2.2⟩)⟩, ⟨by (try simp only [hl306001_40]); (try simp only [hl306002_40]); (with_reducible repeat (first | refine blk_drewN ?_ _ | refine blk_drew ?_ | refine blk_alloc ?_ _)); exact BK283.out⟩, ⟨by (try simp only [hl306001_40]); (try simp only [hl306002_40]); (with_reducible repeat (first | refine blk_drewN ?_ _ | refine blk_drew ?_ | refine blk_alloc ?_ _)); exact BK305.out⟩, ⟨bel⟩⟩
        replace c76 := Bool.eq_false_iff.mpr c76
        subst c76
        have H1 : (laws_FnExactOpText.j2 kj40 t325 t324 true) = some true := by rw [if_neg (show ¬ (false = true) by decide)] at H; exact H
        clear H
        have H := H1
        clear H1
        have H' := Aside0.mk H
        clear H
        obtain ⟨Ao79, co79, eo79⟩ := RMk_slice HO337.out
        subst eo79
        obtain ⟨Ao80, co80, eo80⟩ := RNk_slice HO_4.out
        subst eo80
        go_wp2_with (first | ((with_reducible refine gate_callee (f := 17) rfl ?_); refine gl_ (some 81) Tryd.func17 #[.slice Ao79 t335.length co79, .slice Ao80 t293.length co80] (h := ?_); (with_reducible refine (laws_eqByteS.calls kj40 _ _ t335 _ _ t293 false _ ?side1 ?side2 ?side3 ?side4 A75.out).mono ?_); (case side1 => repeat (first | exact (RMk_reads' HO337.out).2.2 | (with_reducible refine Kd.C_alloc ?_ _) | (with_reducible refine Kd.C_drewN ?_ _) | (with_reducible refine Kd.C_drew ?_))); (case side2 => exact (RMk_reads' HO337.out).2.1); (case side3 => repeat (first | exact (RNk_reads' HO_4.out).2.2 | (with_reducible refine Kd.C_alloc ?_ _) | (with_reducible refine Kd.C_drewN ?_ _) | (with_reducible refine Kd.C_drew ?_))); (case side4 => exact (RNk_reads' HO_4.out).2.1); rintro e w' ⟨rfl, ⟨nd, rfl⟩⟩; refine ⟨_, rfl, ?_⟩))
        go_meet
        case rel => exact ⟨_, (true), rs_, H', ⟨by have := HJ10.out; have := HJ40.out; first | omega | exact Nat.le_refl _⟩, ⟨by (try simp only [hl306001_40]); (try simp only [hl306002_40]); (with_reducible repeat (first | apply Kd.R_alloc | apply Kd.R_drewN | apply Kd.R_drew | apply RMk_alloc | apply RMk_drewN | apply RMk_drew | apply RNk_alloc | apply RNk_drewN | apply RNk_drew)); exact RMk_mono HO_7.out (fun _ hk => ⟨hk.1.1.1.2.1, hk.1.1.1.2.2⟩)⟩, ⟨by (try simp only [hl306001_40]); (try simp only [hl306002_40]); (with_reducible repeat (first | apply Kd.R_alloc | apply Kd.R_drewN | apply Kd.R_drew | apply RMk_alloc | apply RMk_drewN | apply RMk_drew | apply RNk_alloc | apply RNk_drewN | apply RNk_drew)); exact Kd.R_mono HO_306001.out (fun _ hk => ⟨hk.1.1.1.2.1, hk.1.1.1.2.2⟩)⟩, ⟨by (try simp only [hl306001_40]); (try simp only [hl306002_40]); (with_reducible repeat (first | apply Kd.R_alloc | apply Kd.R_drewN | apply Kd.R_drew | apply RMk_alloc | apply RMk_drewN | apply RMk_drew | apply RNk_alloc | apply RNk_drewN | apply RNk_drew)); exact Kd.R_mono HO_306002.out (fun _ hk => ⟨hk.1.1.1.2.1, hk.1.1.1.2.2⟩)⟩, ⟨by (try simp only [hl306001_40]); (try simp only [hl306002_40]); (with_reducible repeat (first | refine blk_drewN ?_ _ | refine blk_drew ?_ | refine blk_alloc ?_ _)); exact BK283.out⟩, ⟨by (try simp only [hl306001_40]); (try simp only [hl306002_40]); (with_reducible repeat (first | refine blk_drewN ?_ _ | refine blk_drew ?_ | refine blk_alloc ?_ _)); exact BK305.out⟩, ⟨bel⟩⟩
       case rest =>
        clear HC66
        try clear c1; try clear c2; try clear p2; try clear c3; try clear c3b0; try clear c4; try clear c5; try clear c6; try clear c7; try clear c8; try clear c16; try clear c17; try clear c18; try clear c19; try clear c23; try clear c24; try clear c25; try clear c26; try clear c27; try clear c31; try clear c36; try clear c39; try clear c47; try clear c50; try clear c50b0; try clear c52; try clear c57; try clear c60; try clear c60b0; try clear c63; try clear c63b0; try clear c63b1; try clear c69; try clear c76; try clear C13_0 C13_1 C13_2 C13_3; try clear C15_0 C15_1 C15_2 C15_3; try clear C20_0 C20_1 C20_2 C20_3; try clear C24_0 C24_1 C24_2 C24_3; try clear C28_0 C28_1 C28_2 C28_3; try clear C48_0 C48_1 C48_2 C48_3; try clear C5_0 C5_1 C5_2 C5_3; try clear C70_0 C70_1 C70_2 C70_3; try clear F13_0 F13_1 F13_2 F13_3; try clear F15_0 F15_1 F15_2 F15_3; try clear F20_0 F20_1 F20_2 F20_3; try clear F24_0 F24_1 F24_2 F24_3; try clear F28_0 F28_1 F28_2 F28_3; try clear F48_0 F48_1 F48_2 F48_3; try clear F5_0 F5_1 F5_2 F5_3; try clear F70_0 F70_1 F70_2 F70_3; try clear p2
        obtain ⟨kq, x87_65, rfl, HA, HJ65, HO_7, HO_306001, HO_306002, BK283, BK305, HB⟩ := hcut
        have hl7_65 := (RMk_reads' HO_7.out).1
        rw [hl7_65] at HO_7
        (try simp only [hl7_65])
        (try simp only [hl7_65] at BK283)
        (try simp only [hl7_65] at BK305)
        (try simp only [hl7_65] at HO_306001)
        (try simp only [hl7_65] at HO_306002)
        cases kq with
        | zero => exact absurd HA.out (by simp [laws_FnExactOpText.j2])
        | succ kj65 =>
         have H := HA.out
         clear HA
         simp only [laws_FnExactOpText.j2] at H
         by_cases c81 : x87_65 = true
         ·subst c81
          have H1 : (some false) = some true := by rw [if_pos rfl] at H; exact H
          exact absurd H1 (by simp)
         replace c81 := Bool.eq_false_iff.mpr c81
         subst c81
         have H1 : ((laws_heldByteS.f kj65 t325 1).bind fun t340 => (if t340 < 0 then (some false) else (if t340 = t324 then (some true) else (some false)))) = some true := by rw [if_neg (show ¬ (false = true) by decide)] at H; exact H
         clear H
         have H := H1
         clear H1
         replace H := Option.bind_eq_some_iff.mp H
         obtain ⟨t340, A820, H⟩ := H
         replace H : (if t340 < 0 then (some false) else (if t340 = t324 then (some true) else (some false))) = some true := H
         have A82 := Aside0.mk A820
         clear A820
         by_cases c83 : t340 < 0
         ·rw [if_pos c83] at H
          exact absurd H (by first | simp | (unfold laws_FnExactOpText.j0; split <;> simp) | (unfold laws_FnExactOpText.j1; split <;> simp) | (unfold laws_FnExactOpText.j2; split <;> simp))
         rw [if_neg c83] at H
         have c83b0 : decide (t340 < 0) = false := decide_eq_false c83
         clear c83
         by_cases c84 : t340 = t324
         ·rw [if_pos c84] at H
          have c84b0 : (t340 == t324) = true := beq_iff_eq.mpr c84
          have c84b1 : (t340 != t324) = false := bne_eq_false_iff_eq.mpr c84
          clear c84
          clear H
          go_wp2_with (first | ((with_reducible refine gate_callee (f := 24) rfl ?_); refine gl_ (some 90) Tryd.func24 #[.slice Ao67 t325.length co67, .int .i64 1] (h := ?_); (with_reducible refine (laws_heldByteS.calls kj65 _ _ t325 1 t340 _ ?side1 ?side2 A82.out).mono ?_); (case side1 => repeat (first | exact (RMk_reads' HO_7.out).2.2 | (with_reducible refine Kd.C_alloc ?_ _) | (with_reducible refine Kd.C_drewN ?_ _) | (with_reducible refine Kd.C_drew ?_))); (case side2 => exact (RMk_reads' HO_7.out).2.1); rintro e w' ⟨rfl, ⟨nd, rfl⟩⟩; refine ⟨_, rfl, ?_⟩))
          go_ret
          exact ⟨rz_, bel⟩
         rw [if_neg c84] at H
         exact absurd H (by first | simp | (unfold laws_FnExactOpText.j0; split <;> simp) | (unfold laws_FnExactOpText.j1; split <;> simp) | (unfold laws_FnExactOpText.j2; split <;> simp))
      rw [if_neg c63] at H
      exact absurd H (by first | simp | (unfold laws_FnExactOpText.j0; split <;> simp) | (unfold laws_FnExactOpText.j1; split <;> simp) | (unfold laws_FnExactOpText.j2; split <;> simp))
   replace c39 := Bool.eq_false_iff.mpr c39
   subst c39
   have H1 : (some false) = some true := by rw [if_neg (show ¬ (false = true) by decide)] at H; exact H
   exact absurd H1 (by simp)

/-- THE ONE PURE STATEMENT of laws_FnExactOpText. -/
def laws_FnExactOpText.Pure : Prop := ∀ (x0 : S43), okS43 x0 → ∃ k, laws_FnExactOpText.f k x0.f0 x0.f1 x0.f2 x0.f3 = some true
theorem laws_FnExactOpText.walk (P : laws_FnExactOpText.Pure) (x0 : S43) (cs0 : List Value) (w : World) (w0 : k43.K w x0 cs0) (o0 : okS43 x0) (htab : Lib.TabIs Tryd.prog w "internal/strconv.uint64pow10" .u64 Lib.pow10Tab) :
  Calls Tryd.prog 6 #[.agg ⟨cs0⟩] w fun e w' => e = .returned (.bool true) ∧ Below w.heap.size w w' := by
 obtain ⟨A0_1, c0_1, A0_2, c0_2, rfl, m0_1, g0_1, m0_2, g0_2⟩ := k43_open w0
 obtain ⟨k, h⟩ := P x0 o0
 refine (laws_FnExactOpText.calls k x0.f0 _ _ x0.f1 _ _ x0.f2 x0.f3 w g0_1 m0_1 g0_2 m0_2 htab h).mono ?_
 rintro e w' ⟨rfl, hd⟩
 exact ⟨rfl, hd⟩

end Go.Proofs.YtmnjdmmljkahgaaDoor.PE
