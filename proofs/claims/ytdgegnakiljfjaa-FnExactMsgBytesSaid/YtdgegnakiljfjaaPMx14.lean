-- Written for this claim by the session's program pp.py, out of the kit's print and the seat's translation.
import Derived.Test.YtdgegnakiljfjaaPMx0
import Derived.Test.YtdgegnakiljfjaaPMx5
import Derived.Test.YtdgegnakiljfjaaPMx6
import Derived.Test.YtdgegnakiljfjaaPMx10
import Derived.Test.YtdgegnakiljfjaaPMx11
import Derived.Test.YtdgegnakiljfjaaPMx12
import Derived.Test.YtdgegnakiljfjaaPMx13
namespace Go.Proofs.Ytdgegnakiljfjaa.PM
open Go.RowKit Go.Proofs.YtdgegnakiljfjaaW.PrintWords Go.Proofs.YtdgegnakiljfjaaW.PrintLast Go.Proofs.YtdgegnakiljfjaaW.PrintMore
attribute [local go_sem] max2_int min2_int max_two min_two max_three min_three max_four min_four   -- for this text's walks alone
set_option linter.unusedVariables false
set_option linter.unusedSimpArgs false

/-! ### laws_FnExactMsgBytes: function 6 -/
mutual
def laws_FnExactMsgBytes.j0 : Nat → List Int → Bool → List Int → Bool → Bool → Int → Int → Int → Int → Int → Int → List (S199) → Int → Bool → Int → Int → Int → Int → Int → Int → List (S147) → Int → Bool → Option (Bool)
 | 0, _, _, _, _, _, _, _, _, _, _, _, _, _, _, _, _, _, _, _, _, _, _, _ => none
 | k + 1, x4, x5, x7, x8, x40, x450000, x450001, x450002, x450003, x450004, x450005, x450006, x450007, x450008, x478000, x478001, x478002, x478003, x478004, x478005, x478006, x478007, x478008 => if x40 = true then (some false) else ((laws_toMsg.f k x450000 x450001 x450002 x450003 x450004 x450005 x450006 x450007 x450008).bind fun bt483 => ((laws_eqMsg.f k x478000 x478001 x478002 x478003 x478004 x478005 x478006 x478007 x478008 bt483.1 bt483.2.1 bt483.2.2.1 bt483.2.2.2.1 bt483.2.2.2.2.1 bt483.2.2.2.2.2.1 bt483.2.2.2.2.2.2.1 bt483.2.2.2.2.2.2.2.1 bt483.2.2.2.2.2.2.2.2).bind fun t494 => (if t494 = true then ((laws_markMsg.f x478000 x478001 x478002 x478003 x478004 x478005 x478006 x478007 x478008 1).bind fun t495 => (if t495 < 0 then (laws_FnExactMsgBytes.j1 k x4 x5 x7 true x450000 x450001 x450002 x450003 x450004 x450005 x450006 x450007 x450008) else ((laws_eqByteS.f k x7 x4).bind fun t496 => (if t496 = true then (laws_FnExactMsgBytes.j1 k x4 x5 x7 (x8 != x5) x450000 x450001 x450002 x450003 x450004 x450005 x450006 x450007 x450008) else (laws_FnExactMsgBytes.j1 k x4 x5 x7 true x450000 x450001 x450002 x450003 x450004 x450005 x450006 x450007 x450008))))) else (some false))))
def laws_FnExactMsgBytes.j1 : Nat → List Int → Bool → List Int → Bool → Int → Int → Int → Int → Int → Int → List (S199) → Int → Bool → Option (Bool)
 | 0, _, _, _, _, _, _, _, _, _, _, _, _, _ => none
 | k + 1, x4, x5, x7, x61, x450000, x450001, x450002, x450003, x450004, x450005, x450006, x450007, x450008 => if x61 = true then (some false) else ((laws_markByteS.f k x7 1).bind fun bt497 => ((laws_heldByteS.f k bt497.2 1).bind fun t499 => (if t499 < 0 then (some false) else (if t499 = bt497.1 then ((laws_toMsg.f k x450000 x450001 x450002 x450003 x450004 x450005 x450006 x450007 x450008).bind fun bt500 => ((impl_MsgBytes.f k bt500.1 bt500.2.1 bt500.2.2.1 bt500.2.2.2.1 bt500.2.2.2.2.1 bt500.2.2.2.2.2.1 bt500.2.2.2.2.2.2.1 bt500.2.2.2.2.2.2.2.1 bt500.2.2.2.2.2.2.2.2).bind fun bt511 => ((laws_eqByteS.f k bt511.1 x4).bind fun t515 => (if t515 = true then (laws_FnExactMsgBytes.j2 k bt497.2 bt497.1 (bt511.2 != x5)) else (laws_FnExactMsgBytes.j2 k bt497.2 bt497.1 true))))) else (some false)))))
def laws_FnExactMsgBytes.j2 : Nat → List Int → Int → Bool → Option (Bool)
 | 0, _, _, _ => none
 | k + 1, x7, x10, x87 => if x87 = true then (some false) else ((laws_heldByteS.f k x7 1).bind fun t516 => (if t516 < 0 then (some false) else (if t516 = x10 then (some true) else (some false))))
end
def laws_FnExactMsgBytes.f (k : Nat) (a0_0 : Int) (a0_1 : Int) (a0_2 : Int) (a0_3 : Int) (a0_4 : Int) (a0_5 : Int) (l0_6 : List (S199)) (a0_7 : Int) (a0_8 : Bool) : Option (Bool) := (laws_szMsg.f k a0_0 a0_1 a0_2 a0_3 a0_4 a0_5 l0_6 a0_7 a0_8 1048576).bind fun t450 => (if t450 < 0 then (some true) else ((laws_toMsg.f k a0_0 a0_1 a0_2 a0_3 a0_4 a0_5 l0_6 a0_7 a0_8).bind fun bt451 => ((spec_MsgBytes.f k bt451.1 bt451.2.1 bt451.2.2.1 bt451.2.2.2.1 bt451.2.2.2.2.1 bt451.2.2.2.2.2.1 bt451.2.2.2.2.2.2.1 bt451.2.2.2.2.2.2.2.1 bt451.2.2.2.2.2.2.2.2).bind fun bt462 => ((laws_toMsg.f k a0_0 a0_1 a0_2 a0_3 a0_4 a0_5 l0_6 a0_7 a0_8).bind fun bt466 => ((impl_MsgBytes.f k bt466.1 bt466.2.1 bt466.2.2.1 bt466.2.2.2.1 bt466.2.2.2.2.1 bt466.2.2.2.2.2.1 bt466.2.2.2.2.2.2.1 bt466.2.2.2.2.2.2.2.1 bt466.2.2.2.2.2.2.2.2).bind fun bt478 => ((laws_eqByteS.f k bt478.1 bt462.1).bind fun t482 => (if t482 = true then (laws_FnExactMsgBytes.j0 k bt462.1 bt462.2 bt478.1 bt478.2 (bt478.2 != bt462.2) a0_0 a0_1 a0_2 a0_3 a0_4 a0_5 l0_6 a0_7 a0_8 bt466.1 bt466.2.1 bt466.2.2.1 bt466.2.2.2.1 bt466.2.2.2.2.1 bt466.2.2.2.2.2.1 bt466.2.2.2.2.2.2.1 bt466.2.2.2.2.2.2.2.1 bt466.2.2.2.2.2.2.2.2) else (laws_FnExactMsgBytes.j0 k bt462.1 bt462.2 bt478.1 bt478.2 true a0_0 a0_1 a0_2 a0_3 a0_4 a0_5 l0_6 a0_7 a0_8 bt466.1 bt466.2.1 bt466.2.2.1 bt466.2.2.2.1 bt466.2.2.2.2.1 bt466.2.2.2.2.2.1 bt466.2.2.2.2.2.2.1 bt466.2.2.2.2.2.2.2.1 bt466.2.2.2.2.2.2.2.2))))))))
set_option maxHeartbeats 8000000 in
set_option maxRecDepth 100000 in
theorem laws_FnExactMsgBytes.calls (k : Nat) (a0_0 : Int) (a0_1 : Int) (a0_2 : Int) (a0_3 : Int) (a0_4 : Int) (a0_5 : Int) (A0_6 : Option Addr) (c0_6 : Nat) (l0_6 : List (S199)) (a0_7 : Int) (a0_8 : Bool) (w : World) (hr0_6 : Kd.C k199 w A0_6 l0_6.length l0_6) (hc0_6 : l0_6.length ≤ c0_6) (h : laws_FnExactMsgBytes.f k a0_0 a0_1 a0_2 a0_3 a0_4 a0_5 l0_6 a0_7 a0_8 = some true) :
  Calls Try.prog 6 #[.agg #[.int .i64 a0_0, .int .i64 a0_1, .int .i64 a0_2, .int .i64 a0_3, .int .i64 a0_4, .int .i64 a0_5, .slice A0_6 l0_6.length c0_6, .int .i64 a0_7, .bool a0_8]] w fun e w' => e = .returned (.bool true) ∧ Below w.heap.size w w' := by
 have hu65 := Try.underlying65
 have hu54 := Try.underlying54
 have HR0_6 := Aside0.mk hr0_6
 have HC0_6 := Aside0.mk hc0_6
 clear hr0_6 hc0_6
 have HB := Aside0.mk (Below.refl w.heap.size w)
 have H : ((laws_szMsg.f k a0_0 a0_1 a0_2 a0_3 a0_4 a0_5 l0_6 a0_7 a0_8 1048576).bind fun t450 => (if t450 < 0 then (some true) else ((laws_toMsg.f k a0_0 a0_1 a0_2 a0_3 a0_4 a0_5 l0_6 a0_7 a0_8).bind fun bt451 => ((spec_MsgBytes.f k bt451.1 bt451.2.1 bt451.2.2.1 bt451.2.2.2.1 bt451.2.2.2.2.1 bt451.2.2.2.2.2.1 bt451.2.2.2.2.2.2.1 bt451.2.2.2.2.2.2.2.1 bt451.2.2.2.2.2.2.2.2).bind fun bt462 => ((laws_toMsg.f k a0_0 a0_1 a0_2 a0_3 a0_4 a0_5 l0_6 a0_7 a0_8).bind fun bt466 => ((impl_MsgBytes.f k bt466.1 bt466.2.1 bt466.2.2.1 bt466.2.2.2.1 bt466.2.2.2.2.1 bt466.2.2.2.2.2.1 bt466.2.2.2.2.2.2.1 bt466.2.2.2.2.2.2.2.1 bt466.2.2.2.2.2.2.2.2).bind fun bt478 => ((laws_eqByteS.f k bt478.1 bt462.1).bind fun t482 => (if t482 = true then (laws_FnExactMsgBytes.j0 k bt462.1 bt462.2 bt478.1 bt478.2 (bt478.2 != bt462.2) a0_0 a0_1 a0_2 a0_3 a0_4 a0_5 l0_6 a0_7 a0_8 bt466.1 bt466.2.1 bt466.2.2.1 bt466.2.2.2.1 bt466.2.2.2.2.1 bt466.2.2.2.2.2.1 bt466.2.2.2.2.2.2.1 bt466.2.2.2.2.2.2.2.1 bt466.2.2.2.2.2.2.2.2) else (laws_FnExactMsgBytes.j0 k bt462.1 bt462.2 bt478.1 bt478.2 true a0_0 a0_1 a0_2 a0_3 a0_4 a0_5 l0_6 a0_7 a0_8 bt466.1 bt466.2.1 bt466.2.2.1 bt466.2.2.2.1 bt466.2.2.2.2.1 bt466.2.2.2.2.2.1 bt466.2.2.2.2.2.2.1 bt466.2.2.2.2.2.2.2.1 bt466.2.2.2.2.2.2.2.2))))))))) = some true := h
 clear h
 replace H := Option.bind_eq_some_iff.mp H
 obtain ⟨t450, A20, H⟩ := H
 replace H : (if t450 < 0 then (some true) else ((laws_toMsg.f k a0_0 a0_1 a0_2 a0_3 a0_4 a0_5 l0_6 a0_7 a0_8).bind fun bt451 => ((spec_MsgBytes.f k bt451.1 bt451.2.1 bt451.2.2.1 bt451.2.2.2.1 bt451.2.2.2.2.1 bt451.2.2.2.2.2.1 bt451.2.2.2.2.2.2.1 bt451.2.2.2.2.2.2.2.1 bt451.2.2.2.2.2.2.2.2).bind fun bt462 => ((laws_toMsg.f k a0_0 a0_1 a0_2 a0_3 a0_4 a0_5 l0_6 a0_7 a0_8).bind fun bt466 => ((impl_MsgBytes.f k bt466.1 bt466.2.1 bt466.2.2.1 bt466.2.2.2.1 bt466.2.2.2.2.1 bt466.2.2.2.2.2.1 bt466.2.2.2.2.2.2.1 bt466.2.2.2.2.2.2.2.1 bt466.2.2.2.2.2.2.2.2).bind fun bt478 => ((laws_eqByteS.f k bt478.1 bt462.1).bind fun t482 => (if t482 = true then (laws_FnExactMsgBytes.j0 k bt462.1 bt462.2 bt478.1 bt478.2 (bt478.2 != bt462.2) a0_0 a0_1 a0_2 a0_3 a0_4 a0_5 l0_6 a0_7 a0_8 bt466.1 bt466.2.1 bt466.2.2.1 bt466.2.2.2.1 bt466.2.2.2.2.1 bt466.2.2.2.2.2.1 bt466.2.2.2.2.2.2.1 bt466.2.2.2.2.2.2.2.1 bt466.2.2.2.2.2.2.2.2) else (laws_FnExactMsgBytes.j0 k bt462.1 bt462.2 bt478.1 bt478.2 true a0_0 a0_1 a0_2 a0_3 a0_4 a0_5 l0_6 a0_7 a0_8 bt466.1 bt466.2.1 bt466.2.2.1 bt466.2.2.2.1 bt466.2.2.2.2.1 bt466.2.2.2.2.2.1 bt466.2.2.2.2.2.2.1 bt466.2.2.2.2.2.2.2.1 bt466.2.2.2.2.2.2.2.2)))))))) = some true := H
 have A2 := Aside0.mk A20
 clear A20
 by_cases c3 : t450 < 0
 ·rw [if_pos c3] at H
  have c3b0 : decide (t450 < 0) = true := decide_eq_true c3
  clear c3
  clear H
  go_enter Try.func6, Try.ntmps6
  go_wp2_with (first | ((with_reducible refine gate_dst (N := 1) rfl ?_); refine bx_ 1 #[.int .i64 a0_0, .int .i64 a0_1, .int .i64 a0_2, .int .i64 a0_3, .int .i64 a0_4, .int .i64 a0_5, .slice A0_6 l0_6.length c0_6, .int .i64 a0_7, .bool a0_8] 65 (h := ?_); intro gb449 hg w4 hbox hb; have BK449 := Aside0.mk (hbox); have GW449 := Aside0.mk ((by rw [hg]; exact (below_size bel) : w.heap.size ≤ gb449)); have GE449 := GW449; replace HB := Aside0.mk (below_step bel hb); clear hb hbox hg; obtain ⟨hcz5_0, hcz5_1, hcz5_2, hcz5_3, hcz5_4, hcz5_5, hcz5_6, hcz5_7, hcz5_8, -⟩ := cells_9 BK449.out trivial; obtain ⟨hfz5_0, hfz5_1, hfz5_2, hfz5_3, hfz5_4, hfz5_5, hfz5_6, hfz5_7, hfz5_8, -⟩ := frz_9 BK449.out) | ((with_reducible refine gate_callee (f := 32) rfl ?_); refine gl_ (some 16) Try.func32 #[.agg #[.int .i64 a0_0, .int .i64 a0_1, .int .i64 a0_2, .int .i64 a0_3, .int .i64 a0_4, .int .i64 a0_5, .slice A0_6 l0_6.length c0_6, .int .i64 a0_7, .bool a0_8], .int .i64 1048576] (h := ?_); (with_reducible refine (laws_szMsg.calls k a0_0 a0_1 a0_2 a0_3 a0_4 a0_5 _ _ l0_6 a0_7 a0_8 1048576 t450 _ ?side1 ?side2 A2.out).mono ?_); (case side1 => exact kcb); (case side2 => exact HC0_6.out); rintro e w6 ⟨rfl, hb⟩; refine ⟨_, rfl, ?_⟩; replace BK449 := Aside0.mk (blb BK449 hb); replace HB := Aside0.mk (below_step bel hb); (try clear hb); (try clear hb2); (try clear hk); (try clear hi)))
  go_ret
  exact ⟨rz_, bel⟩
 rw [if_neg c3] at H
 have c3b0 : decide (t450 < 0) = false := decide_eq_false c3
 clear c3
 replace H := Option.bind_eq_some_iff.mp H
 obtain ⟨⟨t451, t452, t453, t454, t455, t456, t457, t460, t461⟩, A70, H⟩ := H
 replace H : ((spec_MsgBytes.f k t451 t452 t453 t454 t455 t456 t457 t460 t461).bind fun bt462 => ((laws_toMsg.f k a0_0 a0_1 a0_2 a0_3 a0_4 a0_5 l0_6 a0_7 a0_8).bind fun bt466 => ((impl_MsgBytes.f k bt466.1 bt466.2.1 bt466.2.2.1 bt466.2.2.2.1 bt466.2.2.2.2.1 bt466.2.2.2.2.2.1 bt466.2.2.2.2.2.2.1 bt466.2.2.2.2.2.2.2.1 bt466.2.2.2.2.2.2.2.2).bind fun bt478 => ((laws_eqByteS.f k bt478.1 bt462.1).bind fun t482 => (if t482 = true then (laws_FnExactMsgBytes.j0 k bt462.1 bt462.2 bt478.1 bt478.2 (bt478.2 != bt462.2) a0_0 a0_1 a0_2 a0_3 a0_4 a0_5 l0_6 a0_7 a0_8 bt466.1 bt466.2.1 bt466.2.2.1 bt466.2.2.2.1 bt466.2.2.2.2.1 bt466.2.2.2.2.2.1 bt466.2.2.2.2.2.2.1 bt466.2.2.2.2.2.2.2.1 bt466.2.2.2.2.2.2.2.2) else (laws_FnExactMsgBytes.j0 k bt462.1 bt462.2 bt478.1 bt478.2 true a0_0 a0_1 a0_2 a0_3 a0_4 a0_5 l0_6 a0_7 a0_8 bt466.1 bt466.2.1 bt466.2.2.1 bt466.2.2.2.1 bt466.2.2.2.2.1 bt466.2.2.2.2.2.1 bt466.2.2.2.2.2.2.1 bt466.2.2.2.2.2.2.2.1 bt466.2.2.2.2.2.2.2.2)))))) = some true := H
 have A7 := Aside0.mk A70
 clear A70
 replace H := Option.bind_eq_some_iff.mp H
 obtain ⟨⟨t462, t465⟩, A80, H⟩ := H
 replace H : ((laws_toMsg.f k a0_0 a0_1 a0_2 a0_3 a0_4 a0_5 l0_6 a0_7 a0_8).bind fun bt466 => ((impl_MsgBytes.f k bt466.1 bt466.2.1 bt466.2.2.1 bt466.2.2.2.1 bt466.2.2.2.2.1 bt466.2.2.2.2.2.1 bt466.2.2.2.2.2.2.1 bt466.2.2.2.2.2.2.2.1 bt466.2.2.2.2.2.2.2.2).bind fun bt478 => ((laws_eqByteS.f k bt478.1 t462).bind fun t482 => (if t482 = true then (laws_FnExactMsgBytes.j0 k t462 t465 bt478.1 bt478.2 (bt478.2 != t465) a0_0 a0_1 a0_2 a0_3 a0_4 a0_5 l0_6 a0_7 a0_8 bt466.1 bt466.2.1 bt466.2.2.1 bt466.2.2.2.1 bt466.2.2.2.2.1 bt466.2.2.2.2.2.1 bt466.2.2.2.2.2.2.1 bt466.2.2.2.2.2.2.2.1 bt466.2.2.2.2.2.2.2.2) else (laws_FnExactMsgBytes.j0 k t462 t465 bt478.1 bt478.2 true a0_0 a0_1 a0_2 a0_3 a0_4 a0_5 l0_6 a0_7 a0_8 bt466.1 bt466.2.1 bt466.2.2.1 bt466.2.2.2.1 bt466.2.2.2.2.1 bt466.2.2.2.2.2.1 bt466.2.2.2.2.2.2.1 bt466.2.2.2.2.2.2.2.1 bt466.2.2.2.2.2.2.2.2))))) = some true := H
 have A8 := Aside0.mk A80
 clear A80
 replace H := Option.bind_eq_some_iff.mp H
 obtain ⟨⟨t466, t467, t468, t469, t470, t471, t472, t475, t476⟩, A90, H⟩ := H
 replace H : ((impl_MsgBytes.f k t466 t467 t468 t469 t470 t471 t472 t475 t476).bind fun bt478 => ((laws_eqByteS.f k bt478.1 t462).bind fun t482 => (if t482 = true then (laws_FnExactMsgBytes.j0 k t462 t465 bt478.1 bt478.2 (bt478.2 != t465) a0_0 a0_1 a0_2 a0_3 a0_4 a0_5 l0_6 a0_7 a0_8 t466 t467 t468 t469 t470 t471 t472 t475 t476) else (laws_FnExactMsgBytes.j0 k t462 t465 bt478.1 bt478.2 true a0_0 a0_1 a0_2 a0_3 a0_4 a0_5 l0_6 a0_7 a0_8 t466 t467 t468 t469 t470 t471 t472 t475 t476)))) = some true := H
 have A9 := Aside0.mk A90
 clear A90
 replace H := Option.bind_eq_some_iff.mp H
 obtain ⟨⟨t478, t481⟩, A100, H⟩ := H
 replace H : ((laws_eqByteS.f k t478 t462).bind fun t482 => (if t482 = true then (laws_FnExactMsgBytes.j0 k t462 t465 t478 t481 (t481 != t465) a0_0 a0_1 a0_2 a0_3 a0_4 a0_5 l0_6 a0_7 a0_8 t466 t467 t468 t469 t470 t471 t472 t475 t476) else (laws_FnExactMsgBytes.j0 k t462 t465 t478 t481 true a0_0 a0_1 a0_2 a0_3 a0_4 a0_5 l0_6 a0_7 a0_8 t466 t467 t468 t469 t470 t471 t472 t475 t476))) = some true := H
 have A10 := Aside0.mk A100
 clear A100
 have HC11 := Aside0.mk H
 clear H
 go_enter Try.func6, Try.ntmps6
 go_upto_region 8 with (first | ((with_reducible refine gate_dst (N := 1) rfl ?_); refine bx_ 1 #[.int .i64 a0_0, .int .i64 a0_1, .int .i64 a0_2, .int .i64 a0_3, .int .i64 a0_4, .int .i64 a0_5, .slice A0_6 l0_6.length c0_6, .int .i64 a0_7, .bool a0_8] 65 (h := ?_); intro gb449 hg w12 hbox hb; have BK449 := Aside0.mk (hbox); have GW449 := Aside0.mk ((by rw [hg]; exact (below_size bel) : w.heap.size ≤ gb449)); have GE449 := GW449; replace HB := Aside0.mk (below_step bel hb); clear hb hbox hg; obtain ⟨hcz13_0, hcz13_1, hcz13_2, hcz13_3, hcz13_4, hcz13_5, hcz13_6, hcz13_7, hcz13_8, -⟩ := cells_9 BK449.out trivial; obtain ⟨hfz13_0, hfz13_1, hfz13_2, hfz13_3, hfz13_4, hfz13_5, hfz13_6, hfz13_7, hfz13_8, -⟩ := frz_9 BK449.out) | ((with_reducible refine gate_callee (f := 32) rfl ?_); refine gl_ (some 16) Try.func32 #[.agg #[.int .i64 a0_0, .int .i64 a0_1, .int .i64 a0_2, .int .i64 a0_3, .int .i64 a0_4, .int .i64 a0_5, .slice A0_6 l0_6.length c0_6, .int .i64 a0_7, .bool a0_8], .int .i64 1048576] (h := ?_); (with_reducible refine (laws_szMsg.calls k a0_0 a0_1 a0_2 a0_3 a0_4 a0_5 _ _ l0_6 a0_7 a0_8 1048576 t450 _ ?side1 ?side2 A2.out).mono ?_); (case side1 => exact kcb); (case side2 => exact HC0_6.out); rintro e w14 ⟨rfl, hb⟩; refine ⟨_, rfl, ?_⟩; replace BK449 := Aside0.mk (blb BK449 hb); replace HB := Aside0.mk (below_step bel hb); (try clear hb); (try clear hb2); (try clear hk); (try clear hi); obtain ⟨hcz15_0, hcz15_1, hcz15_2, hcz15_3, hcz15_4, hcz15_5, hcz15_6, hcz15_7, hcz15_8, -⟩ := cells_9 BK449.out trivial; obtain ⟨hfz15_0, hfz15_1, hfz15_2, hfz15_3, hfz15_4, hfz15_5, hfz15_6, hfz15_7, hfz15_8, -⟩ := frz_9 BK449.out) | ((with_reducible refine gate_callee (f := 34) rfl ?_); refine gl_ (some 21) Try.func34 #[.agg #[.int .i64 a0_0, .int .i64 a0_1, .int .i64 a0_2, .int .i64 a0_3, .int .i64 a0_4, .int .i64 a0_5, .slice A0_6 l0_6.length c0_6, .int .i64 a0_7, .bool a0_8]] (h := ?_); (with_reducible refine (laws_toMsg.calls k a0_0 a0_1 a0_2 a0_3 a0_4 a0_5 _ _ l0_6 a0_7 a0_8 t451 t452 t453 t454 t455 t456 t457 t460 t461 _ ?side1 ?side2 A7.out).mono ?_); (case side1 => exact kcb); (case side2 => exact HC0_6.out); rintro e w16 ⟨v458, rfl, ho0, hb⟩; refine ⟨_, rfl, ?_⟩; have HO459 := Aside0.mk (Kd.S_lower ho0 (below_size bel)); replace BK449 := Aside0.mk (blb BK449 hb); replace HB := Aside0.mk (below_step bel hb); (try clear hb); (try clear hb2); (try clear hk); (try clear hi); (try clear ho0); obtain ⟨Ao17, co17, eo17⟩ := Kd.S_slice HO459.out; subst eo17) | ((with_reducible refine gate_callee (f := 33) rfl ?_); refine gl_ (some 22) Try.func33 #[.agg #[.int .i64 t451, .int .i64 t452, .int .i64 t453, .int .i64 t454, .int .i64 t455, .int .i64 t456, .slice Ao17 t457.length co17, .int .i64 t460, .bool t461]] (h := ?_); (with_reducible refine (spec_MsgBytes.calls k t451 t452 t453 t454 t455 t456 _ _ t457 t460 t461 t462 t465 _ ?side1 ?side2 A8.out).mono ?_); (case side1 => repeat (first | exact (Kd.S_reads' HO459.out).2.2 | (with_reducible refine Kd.C_alloc ?_ _) | (with_reducible refine Kd.C_drewN ?_ _) | (with_reducible refine Kd.C_drew ?_))); (case side2 => exact (Kd.S_reads' HO459.out).2.1); rintro e w18 ⟨v463, rfl, ho0, hb⟩; refine ⟨_, rfl, ?_⟩; have HO464 := Aside0.mk (Kd.R_lower ho0 (below_size bel)); replace HO459 := Aside0.mk (Kd.S_elder' (by (with_reducible repeat (first | apply Kd.S_alloc | apply Kd.S_drewN | apply Kd.S_drew)); exact HO459.out) (Kd.R_base ho0) hb); replace BK449 := Aside0.mk (blb BK449 hb); replace HB := Aside0.mk (below_step bel hb); (try clear hb); (try clear hb2); (try clear hk); (try clear hi); (try clear ho0); obtain ⟨hcz19_0, hcz19_1, hcz19_2, hcz19_3, hcz19_4, hcz19_5, hcz19_6, hcz19_7, hcz19_8, -⟩ := cells_9 BK449.out trivial; obtain ⟨hfz19_0, hfz19_1, hfz19_2, hfz19_3, hfz19_4, hfz19_5, hfz19_6, hfz19_7, hfz19_8, -⟩ := frz_9 BK449.out) | ((with_reducible refine gate_callee (f := 34) rfl ?_); refine gl_ (some 26) Try.func34 #[.agg #[.int .i64 a0_0, .int .i64 a0_1, .int .i64 a0_2, .int .i64 a0_3, .int .i64 a0_4, .int .i64 a0_5, .slice A0_6 l0_6.length c0_6, .int .i64 a0_7, .bool a0_8]] (h := ?_); (with_reducible refine (laws_toMsg.calls k a0_0 a0_1 a0_2 a0_3 a0_4 a0_5 _ _ l0_6 a0_7 a0_8 t466 t467 t468 t469 t470 t471 t472 t475 t476 _ ?side1 ?side2 A9.out).mono ?_); (case side1 => exact kcb); (case side2 => exact HC0_6.out); rintro e w20 ⟨v473, rfl, ho0, hb⟩; refine ⟨_, rfl, ?_⟩; have HO474 := Aside0.mk (Kd.S_lower (Kd.S_new' (Kd.S_new' ho0 (Kd.S_lt (by (with_reducible repeat (first | apply Kd.S_alloc | apply Kd.S_drewN | apply Kd.S_drew)); exact HO459.out))) (Kd.R_lt (by (with_reducible repeat (first | apply Kd.R_alloc | apply Kd.R_drewN | apply Kd.R_drew)); exact HO464.out))) (below_size bel)); replace HO459 := Aside0.mk (Kd.S_elder' (by (with_reducible repeat (first | apply Kd.S_alloc | apply Kd.S_drewN | apply Kd.S_drew)); exact HO459.out) (Kd.S_base ho0) hb); replace HO464 := Aside0.mk (rbl HO464 hb); replace BK449 := Aside0.mk (blb BK449 hb); replace HB := Aside0.mk (below_step bel hb); (try clear hb); (try clear hb2); (try clear hk); (try clear hi); (try clear ho0)) | ((with_reducible refine gate_dst (N := 6) rfl ?_); refine bx_ 6 #[.int .i64 0, .int .i64 0, .int .i64 0, .int .i64 0, .int .i64 0, .int .i64 0, .slice none 0 0, .int .i64 0, .bool false] 54 (h := ?_); intro gb477 hg w21 hbox hb; have BK477 := Aside0.mk (hbox); have GW477 := Aside0.mk ((by rw [hg]; exact (below_size bel) : w.heap.size ≤ gb477)); have GE477 := GW477; have NB449_477 := Aside0.mk ((by rw [hg]; exact Nat.ne_of_lt (blt BK449) : gb449 ≠ gb477)); have NB477_449 := Aside0.mk NB449_477.out.symm; replace HO459 := Aside0.mk (Kd.S_below (by (with_reducible repeat (first | apply Kd.S_alloc | apply Kd.S_drewN | apply Kd.S_drew)); exact HO459.out) hb); replace HO464 := Aside0.mk (rbl HO464 hb); replace HO474 := Aside0.mk (Kd.S_below (by (with_reducible repeat (first | apply Kd.S_alloc | apply Kd.S_drewN | apply Kd.S_drew)); exact HO474.out) hb); replace BK449 := Aside0.mk (blb BK449 hb); replace HB := Aside0.mk (below_step bel hb); clear hb hbox hg; have hnb22 := NB477_449.out; have hnc22 := NB449_477.out; obtain ⟨hcz23_0, hcz23_1, hcz23_2, hcz23_3, hcz23_4, hcz23_5, hcz23_6, hcz23_7, hcz23_8, -⟩ := cells_9 BK477.out trivial; obtain ⟨hfz23_0, hfz23_1, hfz23_2, hfz23_3, hfz23_4, hfz23_5, hfz23_6, hfz23_7, hfz23_8, -⟩ := frz_9 BK477.out; obtain ⟨Ao24, co24, eo24⟩ := Kd.S_slice HO474.out; subst eo24) | ((with_reducible refine gate_callee (f := 26) rfl ?_); refine gl_ (some 29) Try.func26 #[.agg #[.int .i64 t466, .int .i64 t467, .int .i64 t468, .int .i64 t469, .int .i64 t470, .int .i64 t471, .slice Ao24 t472.length co24, .int .i64 t475, .bool t476]] (h := ?_); (with_reducible refine (impl_MsgBytes.calls k t466 t467 t468 t469 t470 t471 _ _ t472 t475 t476 t478 t481 _ ?side1 ?side2 A10.out).mono ?_); (case side1 => refine (Kd.S_reads' (e := 147) (base := w.heap.size) (ok := fun k_ => ((True ∧ some k_ ≠ (.slice Ao17 t457.length co17 : Value).ownBlock) ∧ some k_ ≠ (v463 : Value).ownBlock)) (n := t472.length) (c := co24) ?_).2.2; exact (by (with_reducible repeat (first | apply Kd.S_alloc | apply Kd.S_drewN | apply Kd.S_drew)); exact (Kd.S_mono (Kd.S_far (p := ⟨gb477, 8, none⟩) (Kd.S_far (p := ⟨gb477, 7, none⟩) (Kd.S_far (p := ⟨gb477, 6, none⟩) (Kd.S_far (p := ⟨gb477, 5, none⟩) (Kd.S_far (p := ⟨gb477, 4, none⟩) (Kd.S_far (p := ⟨gb477, 3, none⟩) (Kd.S_far (p := ⟨gb477, 2, none⟩) (Kd.S_far (p := ⟨gb477, 1, none⟩) (Kd.S_far (p := ⟨gb477, 0, none⟩) (Kd.S_types HO474.out BK477.out (by decide)) (fun _ hk => hk.2) (.int .i64 t466)) (fun _ hk => hk.2) (.int .i64 t467)) (fun _ hk => hk.2) (.int .i64 t468)) (fun _ hk => hk.2) (.int .i64 t469)) (fun _ hk => hk.2) (.int .i64 t470)) (fun _ hk => hk.2) (.int .i64 t471)) (fun _ hk => hk.2) (.slice Ao24 t472.length co24)) (fun _ hk => hk.2) (.int .i64 t475)) (fun _ hk => hk.2) (.bool t476)) (fun _ h_ => h_.1)))); (case side2 => exact (Kd.S_reads' HO474.out).2.1); rintro e w25 ⟨v479, rfl, ho0, hb⟩; refine ⟨_, rfl, ?_⟩; have HO480 := Aside0.mk (Kd.R_lower (Kd.R_new' ho0 (Kd.R_lt (by (with_reducible repeat (first | apply Kd.R_alloc | apply Kd.R_drewN | apply Kd.R_drew)); exact (Kd.R_mono (Kd.R_far (p := ⟨gb477, 8, none⟩) (Kd.R_far (p := ⟨gb477, 7, none⟩) (Kd.R_far (p := ⟨gb477, 6, none⟩) (Kd.R_far (p := ⟨gb477, 5, none⟩) (Kd.R_far (p := ⟨gb477, 4, none⟩) (Kd.R_far (p := ⟨gb477, 3, none⟩) (Kd.R_far (p := ⟨gb477, 2, none⟩) (Kd.R_far (p := ⟨gb477, 1, none⟩) (Kd.R_far (p := ⟨gb477, 0, none⟩) (Kd.R_types HO464.out BK477.out (by decide)) (fun _ hk => hk.2) (.int .i64 t466)) (fun _ hk => hk.2) (.int .i64 t467)) (fun _ hk => hk.2) (.int .i64 t468)) (fun _ hk => hk.2) (.int .i64 t469)) (fun _ hk => hk.2) (.int .i64 t470)) (fun _ hk => hk.2) (.int .i64 t471)) (fun _ hk => hk.2) (.slice Ao24 t472.length co24)) (fun _ hk => hk.2) (.int .i64 t475)) (fun _ hk => hk.2) (.bool t476)) (fun _ h_ => h_.1))))) (below_size bel)); replace HO459 := Aside0.mk (Kd.S_elder' (by (with_reducible repeat (first | apply Kd.S_alloc | apply Kd.S_drewN | apply Kd.S_drew)); exact (Kd.S_mono (Kd.S_far (p := ⟨gb477, 8, none⟩) (Kd.S_far (p := ⟨gb477, 7, none⟩) (Kd.S_far (p := ⟨gb477, 6, none⟩) (Kd.S_far (p := ⟨gb477, 5, none⟩) (Kd.S_far (p := ⟨gb477, 4, none⟩) (Kd.S_far (p := ⟨gb477, 3, none⟩) (Kd.S_far (p := ⟨gb477, 2, none⟩) (Kd.S_far (p := ⟨gb477, 1, none⟩) (Kd.S_far (p := ⟨gb477, 0, none⟩) (Kd.S_types HO459.out BK477.out (by decide)) (fun _ hk => hk.2) (.int .i64 t466)) (fun _ hk => hk.2) (.int .i64 t467)) (fun _ hk => hk.2) (.int .i64 t468)) (fun _ hk => hk.2) (.int .i64 t469)) (fun _ hk => hk.2) (.int .i64 t470)) (fun _ hk => hk.2) (.int .i64 t471)) (fun _ hk => hk.2) (.slice Ao24 t472.length co24)) (fun _ hk => hk.2) (.int .i64 t475)) (fun _ hk => hk.2) (.bool t476)) (fun _ h_ => h_.1))) (Kd.R_base ho0) hb); replace HO464 := Aside0.mk (Kd.R_elder' (by (with_reducible repeat (first | apply Kd.R_alloc | apply Kd.R_drewN | apply Kd.R_drew)); exact (Kd.R_mono (Kd.R_far (p := ⟨gb477, 8, none⟩) (Kd.R_far (p := ⟨gb477, 7, none⟩) (Kd.R_far (p := ⟨gb477, 6, none⟩) (Kd.R_far (p := ⟨gb477, 5, none⟩) (Kd.R_far (p := ⟨gb477, 4, none⟩) (Kd.R_far (p := ⟨gb477, 3, none⟩) (Kd.R_far (p := ⟨gb477, 2, none⟩) (Kd.R_far (p := ⟨gb477, 1, none⟩) (Kd.R_far (p := ⟨gb477, 0, none⟩) (Kd.R_types HO464.out BK477.out (by decide)) (fun _ hk => hk.2) (.int .i64 t466)) (fun _ hk => hk.2) (.int .i64 t467)) (fun _ hk => hk.2) (.int .i64 t468)) (fun _ hk => hk.2) (.int .i64 t469)) (fun _ hk => hk.2) (.int .i64 t470)) (fun _ hk => hk.2) (.int .i64 t471)) (fun _ hk => hk.2) (.slice Ao24 t472.length co24)) (fun _ hk => hk.2) (.int .i64 t475)) (fun _ hk => hk.2) (.bool t476)) (fun _ h_ => h_.1))) (Kd.R_base ho0) hb); replace HO474 := Aside0.mk (Kd.S_elder' (by (with_reducible repeat (first | apply Kd.S_alloc | apply Kd.S_drewN | apply Kd.S_drew)); exact (Kd.S_mono (Kd.S_far (p := ⟨gb477, 8, none⟩) (Kd.S_far (p := ⟨gb477, 7, none⟩) (Kd.S_far (p := ⟨gb477, 6, none⟩) (Kd.S_far (p := ⟨gb477, 5, none⟩) (Kd.S_far (p := ⟨gb477, 4, none⟩) (Kd.S_far (p := ⟨gb477, 3, none⟩) (Kd.S_far (p := ⟨gb477, 2, none⟩) (Kd.S_far (p := ⟨gb477, 1, none⟩) (Kd.S_far (p := ⟨gb477, 0, none⟩) (Kd.S_types HO474.out BK477.out (by decide)) (fun _ hk => hk.2) (.int .i64 t466)) (fun _ hk => hk.2) (.int .i64 t467)) (fun _ hk => hk.2) (.int .i64 t468)) (fun _ hk => hk.2) (.int .i64 t469)) (fun _ hk => hk.2) (.int .i64 t470)) (fun _ hk => hk.2) (.int .i64 t471)) (fun _ hk => hk.2) (.slice Ao24 t472.length co24)) (fun _ hk => hk.2) (.int .i64 t475)) (fun _ hk => hk.2) (.bool t476)) (fun _ h_ => h_.1))) (Kd.R_base ho0) hb); replace BK449 := Aside0.mk (blk_below (g := gb449) (o := .cells #[.int .i64 a0_0, .int .i64 a0_1, .int .i64 a0_2, .int .i64 a0_3, .int .i64 a0_4, .int .i64 a0_5, .slice A0_6 l0_6.length c0_6, .int .i64 a0_7, .bool a0_8] 65 (0, 0)) (by (with_reducible repeat (first | refine blk_drewN ?_ _ | refine blk_drew ?_ | refine blk_alloc ?_ _)); refine blk_far ?_ NB449_477.out _; (with_reducible repeat (first | refine blk_drewN ?_ _ | refine blk_drew ?_ | refine blk_alloc ?_ _)); refine blk_far ?_ NB449_477.out _; (with_reducible repeat (first | refine blk_drewN ?_ _ | refine blk_drew ?_ | refine blk_alloc ?_ _)); refine blk_far ?_ NB449_477.out _; (with_reducible repeat (first | refine blk_drewN ?_ _ | refine blk_drew ?_ | refine blk_alloc ?_ _)); refine blk_far ?_ NB449_477.out _; (with_reducible repeat (first | refine blk_drewN ?_ _ | refine blk_drew ?_ | refine blk_alloc ?_ _)); refine blk_far ?_ NB449_477.out _; (with_reducible repeat (first | refine blk_drewN ?_ _ | refine blk_drew ?_ | refine blk_alloc ?_ _)); refine blk_far ?_ NB449_477.out _; (with_reducible repeat (first | refine blk_drewN ?_ _ | refine blk_drew ?_ | refine blk_alloc ?_ _)); refine blk_far ?_ NB449_477.out _; (with_reducible repeat (first | refine blk_drewN ?_ _ | refine blk_drew ?_ | refine blk_alloc ?_ _)); refine blk_far ?_ NB449_477.out _; (with_reducible repeat (first | refine blk_drewN ?_ _ | refine blk_drew ?_ | refine blk_alloc ?_ _)); refine blk_far ?_ NB449_477.out _; (with_reducible repeat (first | refine blk_drewN ?_ _ | refine blk_drew ?_ | refine blk_alloc ?_ _)); exact BK449.out) hb); replace BK477 := Aside0.mk (blk_below (g := gb477) (o := .cells #[.int .i64 t466, .int .i64 t467, .int .i64 t468, .int .i64 t469, .int .i64 t470, .int .i64 t471, .slice Ao24 t472.length co24, .int .i64 t475, .bool t476] 54 (0, 0)) (by (with_reducible repeat (first | refine blk_drewN ?_ _ | refine blk_drew ?_ | refine blk_alloc ?_ _)); refine blk_put (cs := #[.int .i64 t466, .int .i64 t467, .int .i64 t468, .int .i64 t469, .int .i64 t470, .int .i64 t471, .slice Ao24 t472.length co24, .int .i64 t475, .bool false]) ?_ 8 _ rfl; (with_reducible repeat (first | refine blk_drewN ?_ _ | refine blk_drew ?_ | refine blk_alloc ?_ _)); refine blk_put (cs := #[.int .i64 t466, .int .i64 t467, .int .i64 t468, .int .i64 t469, .int .i64 t470, .int .i64 t471, .slice Ao24 t472.length co24, .int .i64 0, .bool false]) ?_ 7 _ rfl; (with_reducible repeat (first | refine blk_drewN ?_ _ | refine blk_drew ?_ | refine blk_alloc ?_ _)); refine blk_put (cs := #[.int .i64 t466, .int .i64 t467, .int .i64 t468, .int .i64 t469, .int .i64 t470, .int .i64 t471, .slice none 0 0, .int .i64 0, .bool false]) ?_ 6 _ rfl; (with_reducible repeat (first | refine blk_drewN ?_ _ | refine blk_drew ?_ | refine blk_alloc ?_ _)); refine blk_put (cs := #[.int .i64 t466, .int .i64 t467, .int .i64 t468, .int .i64 t469, .int .i64 t470, .int .i64 0, .slice none 0 0, .int .i64 0, .bool false]) ?_ 5 _ rfl; (with_reducible repeat (first | refine blk_drewN ?_ _ | refine blk_drew ?_ | refine blk_alloc ?_ _)); refine blk_put (cs := #[.int .i64 t466, .int .i64 t467, .int .i64 t468, .int .i64 t469, .int .i64 0, .int .i64 0, .slice none 0 0, .int .i64 0, .bool false]) ?_ 4 _ rfl; (with_reducible repeat (first | refine blk_drewN ?_ _ | refine blk_drew ?_ | refine blk_alloc ?_ _)); refine blk_put (cs := #[.int .i64 t466, .int .i64 t467, .int .i64 t468, .int .i64 0, .int .i64 0, .int .i64 0, .slice none 0 0, .int .i64 0, .bool false]) ?_ 3 _ rfl; (with_reducible repeat (first | refine blk_drewN ?_ _ | refine blk_drew ?_ | refine blk_alloc ?_ _)); refine blk_put (cs := #[.int .i64 t466, .int .i64 t467, .int .i64 0, .int .i64 0, .int .i64 0, .int .i64 0, .slice none 0 0, .int .i64 0, .bool false]) ?_ 2 _ rfl; (with_reducible repeat (first | refine blk_drewN ?_ _ | refine blk_drew ?_ | refine blk_alloc ?_ _)); refine blk_put (cs := #[.int .i64 t466, .int .i64 0, .int .i64 0, .int .i64 0, .int .i64 0, .int .i64 0, .slice none 0 0, .int .i64 0, .bool false]) ?_ 1 _ rfl; (with_reducible repeat (first | refine blk_drewN ?_ _ | refine blk_drew ?_ | refine blk_alloc ?_ _)); refine blk_put (cs := #[.int .i64 0, .int .i64 0, .int .i64 0, .int .i64 0, .int .i64 0, .int .i64 0, .slice none 0 0, .int .i64 0, .bool false]) ?_ 0 _ rfl; (with_reducible repeat (first | refine blk_drewN ?_ _ | refine blk_drew ?_ | refine blk_alloc ?_ _)); exact BK477.out) hb); replace HB := Aside0.mk (below_step bel hb); (try clear hb); (try clear hb2); (try clear hk); (try clear hi); (try clear ho0)))
 (try simp only [Act.put, List.setIfInBounds_toArray, List.set_cons_zero, List.set_cons_succ])
 go_cut [40] (fun v40 wc => ∃ (kq : Nat) (x40_10 : Bool), v40 = .bool x40_10 ∧ Aside0 (laws_FnExactMsgBytes.j0 kq t462 t465 t478 t481 x40_10 a0_0 a0_1 a0_2 a0_3 a0_4 a0_5 l0_6 a0_7 a0_8 t466 t467 t468 t469 t470 t471 t472 t475 t476 = some true) ∧ Aside0 (kq ≤ k) ∧ Aside0 (Kd.R (Kd.int .u8) 5 wc w.heap.size (fun k_ => some k_ ≠ (v479 : Value).ownBlock) v463 t462) ∧ Aside0 (Kd.R (Kd.int .u8) 5 wc w.heap.size (fun k_ => some k_ ≠ (v463 : Value).ownBlock) v479 t478) ∧ Aside0 (Kd.S k147 147 wc w.heap.size (fun k_ => some k_ ≠ (v463 : Value).ownBlock ∧ some k_ ≠ (v479 : Value).ownBlock) (.slice Ao24 t472.length co24) t472) ∧ Aside0 (wc.heap[gb449]? = some (.cells #[.int .i64 a0_0, .int .i64 a0_1, .int .i64 a0_2, .int .i64 a0_3, .int .i64 a0_4, .int .i64 a0_5, (.slice A0_6 l0_6.length c0_6), .int .i64 a0_7, .bool a0_8] 65 (0, 0))) ∧ Aside0 (wc.heap[gb477]? = some (.cells #[.int .i64 t466, .int .i64 t467, .int .i64 t468, .int .i64 t469, .int .i64 t470, .int .i64 t471, (.slice Ao24 t472.length co24), .int .i64 t475, .bool t476] 54 (0, 0))) ∧ Aside0 (Below w.heap.size w wc))
 case first =>
  have H := HC11.out
  clear HC11
  replace H := Option.bind_eq_some_iff.mp H
  obtain ⟨t482, A260, H⟩ := H
  replace H : (if t482 = true then (laws_FnExactMsgBytes.j0 k t462 t465 t478 t481 (t481 != t465) a0_0 a0_1 a0_2 a0_3 a0_4 a0_5 l0_6 a0_7 a0_8 t466 t467 t468 t469 t470 t471 t472 t475 t476) else (laws_FnExactMsgBytes.j0 k t462 t465 t478 t481 true a0_0 a0_1 a0_2 a0_3 a0_4 a0_5 l0_6 a0_7 a0_8 t466 t467 t468 t469 t470 t471 t472 t475 t476)) = some true := H
  have A26 := Aside0.mk A260
  clear A260
  by_cases c27 : t482 = true
  ·subst c27
   have H1 : (laws_FnExactMsgBytes.j0 k t462 t465 t478 t481 (t481 != t465) a0_0 a0_1 a0_2 a0_3 a0_4 a0_5 l0_6 a0_7 a0_8 t466 t467 t468 t469 t470 t471 t472 t475 t476) = some true := by rw [if_pos rfl] at H; exact H
   clear H
   have H := H1
   clear H1
   have H' := Aside0.mk H
   clear H
   obtain ⟨Ao28, co28, eo28⟩ := Kd.R_slice HO480.out
   subst eo28
   obtain ⟨Ao29, co29, eo29⟩ := Kd.R_slice HO464.out
   subst eo29
   go_wp2_with (first | ((with_reducible refine gate_callee (f := 35) rfl ?_); refine gl_ (some 34) Try.func35 #[.slice Ao28 t478.length co28, .slice Ao29 t462.length co29] (h := ?_); (with_reducible refine (laws_eqByteS.calls k _ _ t478 _ _ t462 true _ ?side1 ?side2 ?side3 ?side4 A26.out).mono ?_); (case side1 => repeat (first | exact (Kd.R_reads' HO480.out).2.2 | (with_reducible refine Kd.C_alloc ?_ _) | (with_reducible refine Kd.C_drewN ?_ _) | (with_reducible refine Kd.C_drew ?_))); (case side2 => exact (Kd.R_reads' HO480.out).2.1); (case side3 => repeat (first | exact (Kd.R_reads' HO464.out).2.2 | (with_reducible refine Kd.C_alloc ?_ _) | (with_reducible refine Kd.C_drewN ?_ _) | (with_reducible refine Kd.C_drew ?_))); (case side4 => exact (Kd.R_reads' HO464.out).2.1); rintro e w' ⟨rfl, ⟨nd, rfl⟩⟩; refine ⟨_, rfl, ?_⟩))
   go_meet
   case rel => exact ⟨_, ((t481 != t465)), rs_, H', ⟨by first | omega | exact Nat.le_refl _⟩, ⟨by (with_reducible repeat (first | apply Kd.R_alloc | apply Kd.R_drewN | apply Kd.R_drew)); exact Kd.R_mono HO464.out (fun _ hk => hk.2)⟩, ⟨by (with_reducible repeat (first | apply Kd.R_alloc | apply Kd.R_drewN | apply Kd.R_drew)); exact Kd.R_mono HO480.out (fun _ hk => hk.2)⟩, ⟨by (with_reducible repeat (first | apply Kd.S_alloc | apply Kd.S_drewN | apply Kd.S_drew)); exact Kd.S_mono HO474.out (fun _ hk => ⟨hk.1.2, hk.2⟩)⟩, ⟨by (with_reducible repeat (first | refine blk_drewN ?_ _ | refine blk_drew ?_ | refine blk_alloc ?_ _)); exact BK449.out⟩, ⟨by (with_reducible repeat (first | refine blk_drewN ?_ _ | refine blk_drew ?_ | refine blk_alloc ?_ _)); exact BK477.out⟩, ⟨bel⟩⟩
  replace c27 := Bool.eq_false_iff.mpr c27
  subst c27
  have H1 : (laws_FnExactMsgBytes.j0 k t462 t465 t478 t481 true a0_0 a0_1 a0_2 a0_3 a0_4 a0_5 l0_6 a0_7 a0_8 t466 t467 t468 t469 t470 t471 t472 t475 t476) = some true := by rw [if_neg (show ¬ (false = true) by decide)] at H; exact H
  clear H
  have H := H1
  clear H1
  have H' := Aside0.mk H
  clear H
  obtain ⟨Ao30, co30, eo30⟩ := Kd.R_slice HO480.out
  subst eo30
  obtain ⟨Ao31, co31, eo31⟩ := Kd.R_slice HO464.out
  subst eo31
  go_wp2_with (first | ((with_reducible refine gate_callee (f := 35) rfl ?_); refine gl_ (some 34) Try.func35 #[.slice Ao30 t478.length co30, .slice Ao31 t462.length co31] (h := ?_); (with_reducible refine (laws_eqByteS.calls k _ _ t478 _ _ t462 false _ ?side1 ?side2 ?side3 ?side4 A26.out).mono ?_); (case side1 => repeat (first | exact (Kd.R_reads' HO480.out).2.2 | (with_reducible refine Kd.C_alloc ?_ _) | (with_reducible refine Kd.C_drewN ?_ _) | (with_reducible refine Kd.C_drew ?_))); (case side2 => exact (Kd.R_reads' HO480.out).2.1); (case side3 => repeat (first | exact (Kd.R_reads' HO464.out).2.2 | (with_reducible refine Kd.C_alloc ?_ _) | (with_reducible refine Kd.C_drewN ?_ _) | (with_reducible refine Kd.C_drew ?_))); (case side4 => exact (Kd.R_reads' HO464.out).2.1); rintro e w' ⟨rfl, ⟨nd, rfl⟩⟩; refine ⟨_, rfl, ?_⟩))
  go_meet
  case rel => exact ⟨_, (true), rs_, H', ⟨by first | omega | exact Nat.le_refl _⟩, ⟨by (with_reducible repeat (first | apply Kd.R_alloc | apply Kd.R_drewN | apply Kd.R_drew)); exact Kd.R_mono HO464.out (fun _ hk => hk.2)⟩, ⟨by (with_reducible repeat (first | apply Kd.R_alloc | apply Kd.R_drewN | apply Kd.R_drew)); exact Kd.R_mono HO480.out (fun _ hk => hk.2)⟩, ⟨by (with_reducible repeat (first | apply Kd.S_alloc | apply Kd.S_drewN | apply Kd.S_drew)); exact Kd.S_mono HO474.out (fun _ hk => ⟨hk.1.2, hk.2⟩)⟩, ⟨by (with_reducible repeat (first | refine blk_drewN ?_ _ | refine blk_drew ?_ | refine blk_alloc ?_ _)); exact BK449.out⟩, ⟨by (with_reducible repeat (first | refine blk_drewN ?_ _ | refine blk_drew ?_ | refine blk_alloc ?_ _)); exact BK477.out⟩, ⟨bel⟩⟩
 case rest =>
  clear HC11
  try clear c2; try clear p2; try clear c3; try clear c3b0; try clear c6; try clear c22; try clear c26; try clear c27; try clear hcz13_0; try clear hcz13_1; try clear hcz13_2; try clear hcz13_3; try clear hcz13_4; try clear hcz13_5; try clear hcz13_6; try clear hcz13_7; try clear hcz13_8; try clear hcz15_0; try clear hcz15_1; try clear hcz15_2; try clear hcz15_3; try clear hcz15_4; try clear hcz15_5; try clear hcz15_6; try clear hcz15_7; try clear hcz15_8; try clear hcz19_0; try clear hcz19_1; try clear hcz19_2; try clear hcz19_3; try clear hcz19_4; try clear hcz19_5; try clear hcz19_6; try clear hcz19_7; try clear hcz19_8; try clear hcz23_0; try clear hcz23_1; try clear hcz23_2; try clear hcz23_3; try clear hcz23_4; try clear hcz23_5; try clear hcz23_6; try clear hcz23_7; try clear hcz23_8; try clear hcz5_0; try clear hcz5_1; try clear hcz5_2; try clear hcz5_3; try clear hcz5_4; try clear hcz5_5; try clear hcz5_6; try clear hcz5_7; try clear hcz5_8; try clear hfz13_0; try clear hfz13_1; try clear hfz13_2; try clear hfz13_3; try clear hfz13_4; try clear hfz13_5; try clear hfz13_6; try clear hfz13_7; try clear hfz13_8; try clear hfz15_0; try clear hfz15_1; try clear hfz15_2; try clear hfz15_3; try clear hfz15_4; try clear hfz15_5; try clear hfz15_6; try clear hfz15_7; try clear hfz15_8; try clear hfz19_0; try clear hfz19_1; try clear hfz19_2; try clear hfz19_3; try clear hfz19_4; try clear hfz19_5; try clear hfz19_6; try clear hfz19_7; try clear hfz19_8; try clear hfz23_0; try clear hfz23_1; try clear hfz23_2; try clear hfz23_3; try clear hfz23_4; try clear hfz23_5; try clear hfz23_6; try clear hfz23_7; try clear hfz23_8; try clear hfz5_0; try clear hfz5_1; try clear hfz5_2; try clear hfz5_3; try clear hfz5_4; try clear hfz5_5; try clear hfz5_6; try clear hfz5_7; try clear hfz5_8
  obtain ⟨kq, x40_10, rfl, HA, HJ10, HO_4, HO_7, HO_478006, BK449, BK477, HB⟩ := hcut
  cases kq with
  | zero => exact absurd HA.out (by simp [laws_FnExactMsgBytes.j0])
  | succ kj10 =>
   have H := HA.out
   clear HA
   simp only [laws_FnExactMsgBytes.j0] at H
   by_cases c32 : x40_10 = true
   ·subst c32
    have H1 : (some false) = some true := by rw [if_pos rfl] at H; exact H
    exact absurd H1 (by simp)
   replace c32 := Bool.eq_false_iff.mpr c32
   subst c32
   have H1 : ((laws_toMsg.f kj10 a0_0 a0_1 a0_2 a0_3 a0_4 a0_5 l0_6 a0_7 a0_8).bind fun bt483 => ((laws_eqMsg.f kj10 t466 t467 t468 t469 t470 t471 t472 t475 t476 bt483.1 bt483.2.1 bt483.2.2.1 bt483.2.2.2.1 bt483.2.2.2.2.1 bt483.2.2.2.2.2.1 bt483.2.2.2.2.2.2.1 bt483.2.2.2.2.2.2.2.1 bt483.2.2.2.2.2.2.2.2).bind fun t494 => (if t494 = true then ((laws_markMsg.f t466 t467 t468 t469 t470 t471 t472 t475 t476 1).bind fun t495 => (if t495 < 0 then (laws_FnExactMsgBytes.j1 kj10 t462 t465 t478 true a0_0 a0_1 a0_2 a0_3 a0_4 a0_5 l0_6 a0_7 a0_8) else ((laws_eqByteS.f kj10 t478 t462).bind fun t496 => (if t496 = true then (laws_FnExactMsgBytes.j1 kj10 t462 t465 t478 (t481 != t465) a0_0 a0_1 a0_2 a0_3 a0_4 a0_5 l0_6 a0_7 a0_8) else (laws_FnExactMsgBytes.j1 kj10 t462 t465 t478 true a0_0 a0_1 a0_2 a0_3 a0_4 a0_5 l0_6 a0_7 a0_8))))) else (some false)))) = some true := by rw [if_neg (show ¬ (false = true) by decide)] at H; exact H
   clear H
   have H := H1
   clear H1
   replace H := Option.bind_eq_some_iff.mp H
   obtain ⟨⟨t483, t484, t485, t486, t487, t488, t489, t492, t493⟩, A330, H⟩ := H
   replace H : ((laws_eqMsg.f kj10 t466 t467 t468 t469 t470 t471 t472 t475 t476 t483 t484 t485 t486 t487 t488 t489 t492 t493).bind fun t494 => (if t494 = true then ((laws_markMsg.f t466 t467 t468 t469 t470 t471 t472 t475 t476 1).bind fun t495 => (if t495 < 0 then (laws_FnExactMsgBytes.j1 kj10 t462 t465 t478 true a0_0 a0_1 a0_2 a0_3 a0_4 a0_5 l0_6 a0_7 a0_8) else ((laws_eqByteS.f kj10 t478 t462).bind fun t496 => (if t496 = true then (laws_FnExactMsgBytes.j1 kj10 t462 t465 t478 (t481 != t465) a0_0 a0_1 a0_2 a0_3 a0_4 a0_5 l0_6 a0_7 a0_8) else (laws_FnExactMsgBytes.j1 kj10 t462 t465 t478 true a0_0 a0_1 a0_2 a0_3 a0_4 a0_5 l0_6 a0_7 a0_8))))) else (some false))) = some true := H
   have A33 := Aside0.mk A330
   clear A330
   replace H := Option.bind_eq_some_iff.mp H
   obtain ⟨t494, A340, H⟩ := H
   replace H : (if t494 = true then ((laws_markMsg.f t466 t467 t468 t469 t470 t471 t472 t475 t476 1).bind fun t495 => (if t495 < 0 then (laws_FnExactMsgBytes.j1 kj10 t462 t465 t478 true a0_0 a0_1 a0_2 a0_3 a0_4 a0_5 l0_6 a0_7 a0_8) else ((laws_eqByteS.f kj10 t478 t462).bind fun t496 => (if t496 = true then (laws_FnExactMsgBytes.j1 kj10 t462 t465 t478 (t481 != t465) a0_0 a0_1 a0_2 a0_3 a0_4 a0_5 l0_6 a0_7 a0_8) else (laws_FnExactMsgBytes.j1 kj10 t462 t465 t478 true a0_0 a0_1 a0_2 a0_3 a0_4 a0_5 l0_6 a0_7 a0_8))))) else (some false)) = some true := H
   have A34 := Aside0.mk A340
   clear A340
   by_cases c35 : t494 = true
   ·subst c35
    have H1 : ((laws_markMsg.f t466 t467 t468 t469 t470 t471 t472 t475 t476 1).bind fun t495 => (if t495 < 0 then (laws_FnExactMsgBytes.j1 kj10 t462 t465 t478 true a0_0 a0_1 a0_2 a0_3 a0_4 a0_5 l0_6 a0_7 a0_8) else ((laws_eqByteS.f kj10 t478 t462).bind fun t496 => (if t496 = true then (laws_FnExactMsgBytes.j1 kj10 t462 t465 t478 (t481 != t465) a0_0 a0_1 a0_2 a0_3 a0_4 a0_5 l0_6 a0_7 a0_8) else (laws_FnExactMsgBytes.j1 kj10 t462 t465 t478 true a0_0 a0_1 a0_2 a0_3 a0_4 a0_5 l0_6 a0_7 a0_8))))) = some true := by rw [if_pos rfl] at H; exact H
    clear H
    have H := H1
    clear H1
    replace H := Option.bind_eq_some_iff.mp H
    obtain ⟨t495, A360, H⟩ := H
    replace H : (if t495 < 0 then (laws_FnExactMsgBytes.j1 kj10 t462 t465 t478 true a0_0 a0_1 a0_2 a0_3 a0_4 a0_5 l0_6 a0_7 a0_8) else ((laws_eqByteS.f kj10 t478 t462).bind fun t496 => (if t496 = true then (laws_FnExactMsgBytes.j1 kj10 t462 t465 t478 (t481 != t465) a0_0 a0_1 a0_2 a0_3 a0_4 a0_5 l0_6 a0_7 a0_8) else (laws_FnExactMsgBytes.j1 kj10 t462 t465 t478 true a0_0 a0_1 a0_2 a0_3 a0_4 a0_5 l0_6 a0_7 a0_8)))) = some true := H
    have A36 := Aside0.mk A360
    clear A360
    have HC37 := Aside0.mk H
    clear H
    try go_wp2
    replace HO_4 := Aside0.mk (Kd.R_drew HO_4.out)
    replace HO_7 := Aside0.mk (Kd.R_drew HO_7.out)
    replace HO_478006 := Aside0.mk (Kd.S_drew HO_478006.out)
    replace BK449 := Aside0.mk (blk_drew BK449.out)
    replace BK477 := Aside0.mk (blk_drew BK477.out)
    replace HB := Aside0.mk (below_drew1 HB.out)
    refine start_ (n := 5) (S := fun w' => w'.cell? ⟨gb477, 0, none⟩ = some (.int .i64 t466) ∧ w'.cell? ⟨gb477, 1, none⟩ = some (.int .i64 t467) ∧ w'.cell? ⟨gb477, 2, none⟩ = some (.int .i64 t468) ∧ w'.cell? ⟨gb477, 3, none⟩ = some (.int .i64 t469) ∧ w'.cell? ⟨gb477, 4, none⟩ = some (.int .i64 t470) ∧ w'.cell? ⟨gb477, 5, none⟩ = some (.int .i64 t471) ∧ w'.cell? ⟨gb477, 6, none⟩ = some (.slice Ao24 t472.length co24) ∧ w'.cell? ⟨gb477, 7, none⟩ = some (.int .i64 t475) ∧ w'.cell? ⟨gb477, 8, none⟩ = some (.bool t476) ∧ w'.cell? ⟨gb449, 0, none⟩ = some (.int .i64 a0_0) ∧ w'.cell? ⟨gb449, 1, none⟩ = some (.int .i64 a0_1) ∧ w'.cell? ⟨gb449, 2, none⟩ = some (.int .i64 a0_2) ∧ w'.cell? ⟨gb449, 3, none⟩ = some (.int .i64 a0_3) ∧ w'.cell? ⟨gb449, 4, none⟩ = some (.int .i64 a0_4) ∧ w'.cell? ⟨gb449, 5, none⟩ = some (.int .i64 a0_5) ∧ w'.cell? ⟨gb449, 6, none⟩ = some (.slice A0_6 l0_6.length c0_6) ∧ w'.cell? ⟨gb449, 7, none⟩ = some (.int .i64 a0_7) ∧ w'.cell? ⟨gb449, 8, none⟩ = some (.bool a0_8)) (ds := []) #[false, false, false, false, false] (by kernel_rfl) rfl rfl (cells_9 BK477.out (cellz_9 BK449.out)) (fun hHeld => ?_)
    generalize wc.drew = w38 at HO_4 HO_7 HO_478006 BK449 BK477 HB hHeld ⊢
    refine take_ (i := 0) (N := some 41) (v := ?_) (a' := ?_) #[true, false, false, false, false] rfl rfl (by kernel_rfl) (fun _ _ _ h => h) (Or.inl ⟨by rfl, ?_⟩) hHeld ?_ ?_
    rotate_left
    ·rintro w' ⟨s0, s1, s2, s3, s4, s5, s6, s7, s8, s9, s10, s11, s12, s13, s14, s15, s16, s17⟩
     go_simp
     with_reducible rfl
    rotate_left
    ·simp only [Act.put, List.setIfInBounds_toArray, List.set_cons_zero, List.set_cons_succ, i64_w, i32_w]
     rfl
    refine take_ (i := 1) (N := some 42) (v := ?_) (a' := ?_) #[true, true, false, false, false] rfl rfl (by kernel_rfl) (fun _ _ _ h => h) (Or.inl ⟨by rfl, ?_⟩) hHeld ?_ ?_
    rotate_left
    ·rintro w' ⟨s0, s1, s2, s3, s4, s5, s6, s7, s8, s9, s10, s11, s12, s13, s14, s15, s16, s17⟩
     go_simp
     with_reducible rfl
    rotate_left
    ·simp only [Act.put, List.setIfInBounds_toArray, List.set_cons_zero, List.set_cons_succ, i64_w, i32_w]
     rfl
    refine one_ (i := 2) (N := some 43) #[true, true, true, false, false] rfl rfl (by kernel_rfl) (by decide) (fun K hK => ?_)
    refine gs_ Try.func34 #[.agg #[.int .i64 a0_0, .int .i64 a0_1, .int .i64 a0_2, .int .i64 a0_3, .int .i64 a0_4, .int .i64 a0_5, .slice A0_6 l0_6.length c0_6, .int .i64 a0_7, .bool a0_8]] (h := ?_)
    with_reducible refine (laws_toMsg.calls kj10 a0_0 a0_1 a0_2 a0_3 a0_4 a0_5 _ _ l0_6 a0_7 a0_8 t483 t484 t485 t486 t487 t488 t489 t492 t493 _ ?side1 ?side2 A33.out).mono ?_
    (case side1 => exact kcb)
    (case side2 => exact HC0_6.out)
    rintro e w39 ⟨v490, rfl, ho0, hb⟩
    refine ⟨_, rfl, ?_⟩
    have HO491 := Aside0.mk (Kd.S_lower (Kd.S_new' (Kd.S_new' (Kd.S_new' ho0 (Kd.R_lt (by (with_reducible repeat (first | apply Kd.R_alloc | apply Kd.R_drewN | apply Kd.R_drew)); exact HO_4.out))) (Kd.R_lt (by (with_reducible repeat (first | apply Kd.R_alloc | apply Kd.R_drewN | apply Kd.R_drew)); exact HO_7.out))) (Kd.S_lt (by (with_reducible repeat (first | apply Kd.S_alloc | apply Kd.S_drewN | apply Kd.S_drew)); exact HO_478006.out))) (below_size bel))
    replace HO_4 := Aside0.mk (rbl HO_4 hb)
    replace HO_7 := Aside0.mk (rbl HO_7 hb)
    replace HO_478006 := Aside0.mk (Kd.S_elder' (by (with_reducible repeat (first | apply Kd.S_alloc | apply Kd.S_drewN | apply Kd.S_drew)); exact HO_478006.out) (Kd.S_base ho0) hb)
    replace BK449 := Aside0.mk (blb BK449 hb)
    replace BK477 := Aside0.mk (blb BK477 hb)
    replace HB := Aside0.mk (below_step bel hb)
    (try clear hb)
    (try clear hb2)
    (try clear hk)
    (try clear hi)
    (try clear ho0)
    obtain ⟨Ao40, co40, eo40⟩ := Kd.S_slice HO491.out
    (first | subst eo40 | (injection eo40 with f1_ f2_ f3_; have f4_ := f1_.symm; have f5_ := f3_.symm; clear f1_ f2_ f3_; subst f4_; subst f5_))
    refine hK.out _ _ (cells_9 BK477.out (cellz_9 BK449.out)) (fun hHeld => ?_)
    clear hK K
    refine nrm_ (some 43) (h := ?_)
    refine one_ (i := 3) (N := some 44) #[true, true, true, true, false] rfl rfl (by kernel_rfl) (by decide) (fun K hK => ?_)
    refine gs_ Try.func36 #[.agg #[.int .i64 t466, .int .i64 t467, .int .i64 t468, .int .i64 t469, .int .i64 t470, .int .i64 t471, .slice Ao24 t472.length co24, .int .i64 t475, .bool t476], .agg #[.int .i64 t483, .int .i64 t484, .int .i64 t485, .int .i64 t486, .int .i64 t487, .int .i64 t488, .slice Ao40 t489.length co40, .int .i64 t492, .bool t493]] (h := ?_)
    with_reducible refine (laws_eqMsg.calls kj10 t466 t467 t468 t469 t470 t471 _ _ t472 t475 t476 t483 t484 t485 t486 t487 t488 _ _ t489 t492 t493 true _ ?side1 ?side2 ?side3 ?side4 A34.out).mono ?_
    (case side1 => repeat (first | exact (Kd.S_reads' HO_478006.out).2.2 | (with_reducible refine Kd.C_alloc ?_ _) | (with_reducible refine Kd.C_drewN ?_ _) | (with_reducible refine Kd.C_drew ?_)))
    (case side2 => exact (Kd.S_reads' HO_478006.out).2.1)
    (case side3 => repeat (first | exact (Kd.S_reads' HO491.out).2.2 | (with_reducible refine Kd.C_alloc ?_ _) | (with_reducible refine Kd.C_drewN ?_ _) | (with_reducible refine Kd.C_drew ?_)))
    (case side4 => exact (Kd.S_reads' HO491.out).2.1)
    rintro e w41 ⟨rfl, hb⟩
    refine ⟨_, rfl, ?_⟩
    replace HO_4 := Aside0.mk (rbl HO_4 hb)
    replace HO_7 := Aside0.mk (rbl HO_7 hb)
    replace HO_478006 := Aside0.mk (Kd.S_below (by (with_reducible repeat (first | apply Kd.S_alloc | apply Kd.S_drewN | apply Kd.S_drew)); exact HO_478006.out) hb)
    replace HO491 := Aside0.mk (Kd.S_below (by (with_reducible repeat (first | apply Kd.S_alloc | apply Kd.S_drewN | apply Kd.S_drew)); exact HO491.out) hb)
    replace BK449 := Aside0.mk (blb BK449 hb)
    replace BK477 := Aside0.mk (blb BK477 hb)
    replace HB := Aside0.mk (below_step bel hb)
    (try clear hb)
    (try clear hb2)
    (try clear hk)
    (try clear hi)
    refine hK.out _ _ (cells_9 BK477.out (cellz_9 BK449.out)) (fun hHeld => ?_)
    clear hK K
    refine nrm_ (some 44) (h := ?_)
    refine pure_ (i := 4) (N := some 45) (v := ?_) (a' := ?_) #[true, true, true, true, true] rfl rfl (by kernel_rfl) (fun _ _ _ h => h) (Or.inl ⟨by rfl, ?_⟩) ?_ ?_
    rotate_left
    ·intro w'
     go_simp
     with_reducible rfl
    rotate_left
    ·simp only [Act.put, List.setIfInBounds_toArray, List.set_cons_zero, List.set_cons_succ, i64_w, i32_w]
     rfl
    refine done_ (by kernel_rfl) ?_
    have hnb42 := NB477_449.out
    have hnc42 := NB449_477.out
    obtain ⟨hcz43_0, hcz43_1, hcz43_2, hcz43_3, hcz43_4, hcz43_5, hcz43_6, hcz43_7, hcz43_8, -⟩ := cells_9 BK477.out trivial
    obtain ⟨hfz43_0, hfz43_1, hfz43_2, hfz43_3, hfz43_4, hfz43_5, hfz43_6, hfz43_7, hfz43_8, -⟩ := frz_9 BK477.out
    go_upto_region 14 with (first | ((with_reducible refine gate_callee (f := 37) rfl ?_); refine gl_ (some 48) Try.func37 #[.agg #[.int .i64 t466, .int .i64 t467, .int .i64 t468, .int .i64 t469, .int .i64 t470, .int .i64 t471, .slice Ao24 t472.length co24, .int .i64 t475, .bool t476], .int .i64 1] (h := ?_); (with_reducible refine (laws_markMsg.calls t466 t467 t468 t469 t470 t471 (fun k_ => (((((some k_ ≠ (v463 : Value).ownBlock ∧ some k_ ≠ (v479 : Value).ownBlock) ∧ some k_ ≠ (.slice Ao40 t489.length co40 : Value).ownBlock)) ∧ k_ ≠ gb449) ∧ k_ ≠ gb477) ∧ ∃ q_, q_ ∈ 147 :: (k147).E ∧ ∃ c_, w41.heap[k_]? = some (.cells c_ q_ (0, 0))) (.slice Ao24 t472.length co24) t472 t475 t476 1 t495 w _ ?side1 ?side2 A36.out).mono ?_); (case side1 => repeat (first | (with_reducible first | exact HB.out | apply below_alloc | apply pw_below_drewN | apply below_drew1 | refine below_set ?_ GE449.out | refine below_set ?_ GE477.out) | exact HB.out)); (case side2 => (with_reducible repeat (first | apply Kd.R_alloc | apply Kd.R_drewN | apply Kd.R_drew)); exact (Kd.R_mono (Kd.R_bound (Kd.R_types (Kd.R_types (Kd.S_R HO_478006.out) BK449.out (by decide)) BK477.out (by decide))) (fun _ h_ => ⟨h_.1, h_.2.2.2⟩))); rintro e w44 ⟨rfl, hb, hkp⟩; refine ⟨_, rfl, ?_⟩; have n0_ := Aside0.mk (Kd.R_mono (ok' := fun k_ => some k_ ≠ (v479 : Value).ownBlock) (Kd.R_keptB ((Kd.R_tight2 rfl HO_4.out)) hkp (fun k_ hk_ hs_ => (fun p_ => (p_.1.1.1.1.1) hk_.1) hs_)) (fun k_ hk_ => hk_.1.2)); have n1_ := Aside0.mk (Kd.R_mono (ok' := fun k_ => some k_ ≠ (v463 : Value).ownBlock) (Kd.R_keptB ((Kd.R_tight2 rfl HO_7.out)) hkp (fun k_ hk_ hs_ => (fun p_ => (p_.1.1.1.1.2) hk_.1) hs_)) (fun k_ hk_ => hk_.1.2)); have n2_ := Aside0.mk (blk_kept (by (with_reducible repeat (first | refine blk_drewN ?_ _ | refine blk_drew ?_ | refine blk_alloc ?_ _)); exact BK449.out) hkp (fun hs_ => (fun p_ => (p_.1.1.2) rfl) hs_)); have n3_ := Aside0.mk (blk_kept (by (with_reducible repeat (first | refine blk_drewN ?_ _ | refine blk_drew ?_ | refine blk_alloc ?_ _)); exact BK477.out) hkp (fun hs_ => (fun p_ => (p_.1.2) rfl) hs_)); have n4_ := Aside0.mk (hb); clear HO_4; clear HO_7; clear BK449; clear BK477; clear HB; clear HO491; clear HO_478006; have HO_4 := n0_; have HO_7 := n1_; have BK449 := n2_; have BK477 := n3_; have HB := n4_; clear n0_ n1_ n2_ n3_ n4_; (try clear hb); (try clear hkp)))
    (try simp only [Act.put, List.setIfInBounds_toArray, List.set_cons_zero, List.set_cons_succ])
    go_cut [61] (fun v61 wc => ∃ (kq : Nat) (x61_36 : Bool), v61 = .bool x61_36 ∧ Aside0 (laws_FnExactMsgBytes.j1 kq t462 t465 t478 x61_36 a0_0 a0_1 a0_2 a0_3 a0_4 a0_5 l0_6 a0_7 a0_8 = some true) ∧ Aside0 (kq ≤ kj10) ∧ Aside0 (Kd.R (Kd.int .u8) 5 wc w.heap.size (fun k_ => some k_ ≠ (v479 : Value).ownBlock) v463 t462) ∧ Aside0 (Kd.R (Kd.int .u8) 5 wc w.heap.size (fun k_ => some k_ ≠ (v463 : Value).ownBlock) v479 t478) ∧ Aside0 (wc.heap[gb449]? = some (.cells #[.int .i64 a0_0, .int .i64 a0_1, .int .i64 a0_2, .int .i64 a0_3, .int .i64 a0_4, .int .i64 a0_5, (.slice A0_6 l0_6.length c0_6), .int .i64 a0_7, .bool a0_8] 65 (0, 0))) ∧ Aside0 (Below w.heap.size w wc))
    case first =>
     have H := HC37.out
     clear HC37
     by_cases c45 : t495 < 0
     ·rw [if_pos c45] at H
      exact absurd H (by first | simp | (unfold laws_FnExactMsgBytes.j0; split <;> simp) | (unfold laws_FnExactMsgBytes.j1; split <;> simp) | (unfold laws_FnExactMsgBytes.j2; split <;> simp))
     rw [if_neg c45] at H
     have c45b0 : decide (t495 < 0) = false := decide_eq_false c45
     clear c45
     (first | rw [c45b0] | (simp only [i64_w, i32_w]; rw [c45b0]) | skip)
     replace H := Option.bind_eq_some_iff.mp H
     obtain ⟨t496, A460, H⟩ := H
     replace H : (if t496 = true then (laws_FnExactMsgBytes.j1 kj10 t462 t465 t478 (t481 != t465) a0_0 a0_1 a0_2 a0_3 a0_4 a0_5 l0_6 a0_7 a0_8) else (laws_FnExactMsgBytes.j1 kj10 t462 t465 t478 true a0_0 a0_1 a0_2 a0_3 a0_4 a0_5 l0_6 a0_7 a0_8)) = some true := H
     have A46 := Aside0.mk A460
     clear A460
     by_cases c47 : t496 = true
     ·subst c47
      have H1 : (laws_FnExactMsgBytes.j1 kj10 t462 t465 t478 (t481 != t465) a0_0 a0_1 a0_2 a0_3 a0_4 a0_5 l0_6 a0_7 a0_8) = some true := by rw [if_pos rfl] at H; exact H
      clear H
      have H := H1
      clear H1
      have H' := Aside0.mk H
      clear H
      obtain ⟨Ao48, co48, eo48⟩ := Kd.R_slice HO_7.out
      subst eo48
      obtain ⟨Ao49, co49, eo49⟩ := Kd.R_slice HO_4.out
      subst eo49
      go_wp2_with (first | (go_at_call 35; (with_reducible refine (laws_eqByteS.calls kj10 _ _ t478 _ _ t462 true _ ?side1 ?side2 ?side3 ?side4 A46.out).mono ?_); (case side1 => repeat (first | exact (Kd.R_reads' HO_7.out).2.2 | (with_reducible refine Kd.C_alloc ?_ _) | (with_reducible refine Kd.C_drewN ?_ _) | (with_reducible refine Kd.C_drew ?_))); (case side2 => exact (Kd.R_reads' HO_7.out).2.1); (case side3 => repeat (first | exact (Kd.R_reads' HO_4.out).2.2 | (with_reducible refine Kd.C_alloc ?_ _) | (with_reducible refine Kd.C_drewN ?_ _) | (with_reducible refine Kd.C_drew ?_))); (case side4 => exact (Kd.R_reads' HO_4.out).2.1); rintro e w' ⟨rfl, ⟨nd, rfl⟩⟩))
      go_meet
      case rel => exact ⟨_, ((t481 != t465)), rs_, H', ⟨by have := HJ10.out; first | omega | exact Nat.le_refl _⟩, ⟨by (with_reducible repeat (first | apply Kd.R_alloc | apply Kd.R_drewN | apply Kd.R_drew)); exact HO_4.out⟩, ⟨by (with_reducible repeat (first | apply Kd.R_alloc | apply Kd.R_drewN | apply Kd.R_drew)); exact HO_7.out⟩, ⟨by (with_reducible repeat (first | refine blk_drewN ?_ _ | refine blk_drew ?_ | refine blk_alloc ?_ _)); exact BK449.out⟩, ⟨bel⟩⟩
     replace c47 := Bool.eq_false_iff.mpr c47
     subst c47
     have H1 : (laws_FnExactMsgBytes.j1 kj10 t462 t465 t478 true a0_0 a0_1 a0_2 a0_3 a0_4 a0_5 l0_6 a0_7 a0_8) = some true := by rw [if_neg (show ¬ (false = true) by decide)] at H; exact H
     clear H
     have H := H1
     clear H1
     have H' := Aside0.mk H
     clear H
     obtain ⟨Ao50, co50, eo50⟩ := Kd.R_slice HO_7.out
     subst eo50
     obtain ⟨Ao51, co51, eo51⟩ := Kd.R_slice HO_4.out
     subst eo51
     go_wp2_with (first | (go_at_call 35; (with_reducible refine (laws_eqByteS.calls kj10 _ _ t478 _ _ t462 false _ ?side1 ?side2 ?side3 ?side4 A46.out).mono ?_); (case side1 => repeat (first | exact (Kd.R_reads' HO_7.out).2.2 | (with_reducible refine Kd.C_alloc ?_ _) | (with_reducible refine Kd.C_drewN ?_ _) | (with_reducible refine Kd.C_drew ?_))); (case side2 => exact (Kd.R_reads' HO_7.out).2.1); (case side3 => repeat (first | exact (Kd.R_reads' HO_4.out).2.2 | (with_reducible refine Kd.C_alloc ?_ _) | (with_reducible refine Kd.C_drewN ?_ _) | (with_reducible refine Kd.C_drew ?_))); (case side4 => exact (Kd.R_reads' HO_4.out).2.1); rintro e w' ⟨rfl, ⟨nd, rfl⟩⟩))
     go_meet
     case rel => exact ⟨_, (true), rs_, H', ⟨by have := HJ10.out; first | omega | exact Nat.le_refl _⟩, ⟨by (with_reducible repeat (first | apply Kd.R_alloc | apply Kd.R_drewN | apply Kd.R_drew)); exact HO_4.out⟩, ⟨by (with_reducible repeat (first | apply Kd.R_alloc | apply Kd.R_drewN | apply Kd.R_drew)); exact HO_7.out⟩, ⟨by (with_reducible repeat (first | refine blk_drewN ?_ _ | refine blk_drew ?_ | refine blk_alloc ?_ _)); exact BK449.out⟩, ⟨bel⟩⟩
    case rest =>
     clear HC37
     try clear c2; try clear p2; try clear c3; try clear c3b0; try clear c4; try clear c6; try clear c22; try clear c26; try clear c27; try clear c32; try clear c33; try clear c34; try clear c35; try clear c36; try clear c37; try clear c42; try clear c45; try clear c45b0; try clear c47; try clear hcz13_0; try clear hcz13_1; try clear hcz13_2; try clear hcz13_3; try clear hcz13_4; try clear hcz13_5; try clear hcz13_6; try clear hcz13_7; try clear hcz13_8; try clear hcz15_0; try clear hcz15_1; try clear hcz15_2; try clear hcz15_3; try clear hcz15_4; try clear hcz15_5; try clear hcz15_6; try clear hcz15_7; try clear hcz15_8; try clear hcz19_0; try clear hcz19_1; try clear hcz19_2; try clear hcz19_3; try clear hcz19_4; try clear hcz19_5; try clear hcz19_6; try clear hcz19_7; try clear hcz19_8; try clear hcz23_0; try clear hcz23_1; try clear hcz23_2; try clear hcz23_3; try clear hcz23_4; try clear hcz23_5; try clear hcz23_6; try clear hcz23_7; try clear hcz23_8; try clear hcz43_0; try clear hcz43_1; try clear hcz43_2; try clear hcz43_3; try clear hcz43_4; try clear hcz43_5; try clear hcz43_6; try clear hcz43_7; try clear hcz43_8; try clear hcz5_0; try clear hcz5_1; try clear hcz5_2; try clear hcz5_3; try clear hcz5_4; try clear hcz5_5; try clear hcz5_6; try clear hcz5_7; try clear hcz5_8; try clear hfz13_0; try clear hfz13_1; try clear hfz13_2; try clear hfz13_3; try clear hfz13_4; try clear hfz13_5; try clear hfz13_6; try clear hfz13_7; try clear hfz13_8; try clear hfz15_0; try clear hfz15_1; try clear hfz15_2; try clear hfz15_3; try clear hfz15_4; try clear hfz15_5; try clear hfz15_6; try clear hfz15_7; try clear hfz15_8; try clear hfz19_0; try clear hfz19_1; try clear hfz19_2; try clear hfz19_3; try clear hfz19_4; try clear hfz19_5; try clear hfz19_6; try clear hfz19_7; try clear hfz19_8; try clear hfz23_0; try clear hfz23_1; try clear hfz23_2; try clear hfz23_3; try clear hfz23_4; try clear hfz23_5; try clear hfz23_6; try clear hfz23_7; try clear hfz23_8; try clear hfz43_0; try clear hfz43_1; try clear hfz43_2; try clear hfz43_3; try clear hfz43_4; try clear hfz43_5; try clear hfz43_6; try clear hfz43_7; try clear hfz43_8; try clear hfz5_0; try clear hfz5_1; try clear hfz5_2; try clear hfz5_3; try clear hfz5_4; try clear hfz5_5; try clear hfz5_6; try clear hfz5_7; try clear hfz5_8; try clear p2
     obtain ⟨kq, x61_36, rfl, HA, HJ36, HO_4, HO_7, BK449, HB⟩ := hcut
     cases kq with
     | zero => exact absurd HA.out (by simp [laws_FnExactMsgBytes.j1])
     | succ kj36 =>
      have H := HA.out
      clear HA
      simp only [laws_FnExactMsgBytes.j1] at H
      by_cases c52 : x61_36 = true
      ·subst c52
       have H1 : (some false) = some true := by rw [if_pos rfl] at H; exact H
       exact absurd H1 (by simp)
      replace c52 := Bool.eq_false_iff.mpr c52
      subst c52
      have H1 : ((laws_markByteS.f kj36 t478 1).bind fun bt497 => ((laws_heldByteS.f kj36 bt497.2 1).bind fun t499 => (if t499 < 0 then (some false) else (if t499 = bt497.1 then ((laws_toMsg.f kj36 a0_0 a0_1 a0_2 a0_3 a0_4 a0_5 l0_6 a0_7 a0_8).bind fun bt500 => ((impl_MsgBytes.f kj36 bt500.1 bt500.2.1 bt500.2.2.1 bt500.2.2.2.1 bt500.2.2.2.2.1 bt500.2.2.2.2.2.1 bt500.2.2.2.2.2.2.1 bt500.2.2.2.2.2.2.2.1 bt500.2.2.2.2.2.2.2.2).bind fun bt511 => ((laws_eqByteS.f kj36 bt511.1 t462).bind fun t515 => (if t515 = true then (laws_FnExactMsgBytes.j2 kj36 bt497.2 bt497.1 (bt511.2 != t465)) else (laws_FnExactMsgBytes.j2 kj36 bt497.2 bt497.1 true))))) else (some false))))) = some true := by rw [if_neg (show ¬ (false = true) by decide)] at H; exact H
      clear H
      have H := H1
      clear H1
      replace H := Option.bind_eq_some_iff.mp H
      obtain ⟨⟨t497, t498⟩, A530, H⟩ := H
      replace H : ((laws_heldByteS.f kj36 t498 1).bind fun t499 => (if t499 < 0 then (some false) else (if t499 = t497 then ((laws_toMsg.f kj36 a0_0 a0_1 a0_2 a0_3 a0_4 a0_5 l0_6 a0_7 a0_8).bind fun bt500 => ((impl_MsgBytes.f kj36 bt500.1 bt500.2.1 bt500.2.2.1 bt500.2.2.2.1 bt500.2.2.2.2.1 bt500.2.2.2.2.2.1 bt500.2.2.2.2.2.2.1 bt500.2.2.2.2.2.2.2.1 bt500.2.2.2.2.2.2.2.2).bind fun bt511 => ((laws_eqByteS.f kj36 bt511.1 t462).bind fun t515 => (if t515 = true then (laws_FnExactMsgBytes.j2 kj36 t498 t497 (bt511.2 != t465)) else (laws_FnExactMsgBytes.j2 kj36 t498 t497 true))))) else (some false)))) = some true := H
      have A53 := Aside0.mk A530
      clear A530
      replace H := Option.bind_eq_some_iff.mp H
      obtain ⟨t499, A540, H⟩ := H
      replace H : (if t499 < 0 then (some false) else (if t499 = t497 then ((laws_toMsg.f kj36 a0_0 a0_1 a0_2 a0_3 a0_4 a0_5 l0_6 a0_7 a0_8).bind fun bt500 => ((impl_MsgBytes.f kj36 bt500.1 bt500.2.1 bt500.2.2.1 bt500.2.2.2.1 bt500.2.2.2.2.1 bt500.2.2.2.2.2.1 bt500.2.2.2.2.2.2.1 bt500.2.2.2.2.2.2.2.1 bt500.2.2.2.2.2.2.2.2).bind fun bt511 => ((laws_eqByteS.f kj36 bt511.1 t462).bind fun t515 => (if t515 = true then (laws_FnExactMsgBytes.j2 kj36 t498 t497 (bt511.2 != t465)) else (laws_FnExactMsgBytes.j2 kj36 t498 t497 true))))) else (some false))) = some true := H
      have A54 := Aside0.mk A540
      clear A540
      by_cases c55 : t499 < 0
      ·rw [if_pos c55] at H
       exact absurd H (by first | simp | (unfold laws_FnExactMsgBytes.j0; split <;> simp) | (unfold laws_FnExactMsgBytes.j1; split <;> simp) | (unfold laws_FnExactMsgBytes.j2; split <;> simp))
      rw [if_neg c55] at H
      have c55b0 : decide (t499 < 0) = false := decide_eq_false c55
      clear c55
      by_cases c58 : t499 = t497
      ·rw [if_pos c58] at H
       have c58b0 : (t499 == t497) = true := beq_iff_eq.mpr c58
       have c58b1 : (t499 != t497) = false := bne_eq_false_iff_eq.mpr c58
       clear c58
       replace H := Option.bind_eq_some_iff.mp H
       obtain ⟨⟨t500, t501, t502, t503, t504, t505, t506, t509, t510⟩, A590, H⟩ := H
       replace H : ((impl_MsgBytes.f kj36 t500 t501 t502 t503 t504 t505 t506 t509 t510).bind fun bt511 => ((laws_eqByteS.f kj36 bt511.1 t462).bind fun t515 => (if t515 = true then (laws_FnExactMsgBytes.j2 kj36 t498 t497 (bt511.2 != t465)) else (laws_FnExactMsgBytes.j2 kj36 t498 t497 true)))) = some true := H
       have A59 := Aside0.mk A590
       clear A590
       replace H := Option.bind_eq_some_iff.mp H
       obtain ⟨⟨t511, t514⟩, A600, H⟩ := H
       replace H : ((laws_eqByteS.f kj36 t511 t462).bind fun t515 => (if t515 = true then (laws_FnExactMsgBytes.j2 kj36 t498 t497 (t514 != t465)) else (laws_FnExactMsgBytes.j2 kj36 t498 t497 true))) = some true := H
       have A60 := Aside0.mk A600
       clear A600
       have HC61 := Aside0.mk H
       clear H
       obtain ⟨Ao62, co62, eo62⟩ := Kd.R_slice HO_7.out
       subst eo62
       go_upto_region 25 with (first | ((with_reducible refine gate_callee (f := 38) rfl ?_); refine gl_ (some 64) Try.func38 #[.slice Ao62 t478.length co62, .int .i64 1] (h := ?_); (with_reducible refine (laws_markByteS.calls kj36 (fun k_ => some k_ = (.slice Ao62 t478.length co62 : Value).ownBlock) (.slice Ao62 t478.length co62) t478 1 t497 t498 w _ ?side1 ?side2 A53.out).mono ?_); (case side1 => repeat (first | (with_reducible first | exact HB.out | apply below_alloc | apply pw_below_drewN | apply below_drew1 | refine below_set ?_ GE449.out) | exact HB.out)); (case side2 => exact Kd.R_tight rfl HO_7.out); rintro e w63 ⟨rfl, hy0, hb, hkp⟩; refine ⟨_, rfl, ?_⟩; replace HO_4 := Aside0.mk (Kd.R_mono (ok' := fun k_ => some k_ ≠ (.slice Ao62 t478.length co62 : Value).ownBlock) (Kd.R_keptB (HO_4.out) hkp (fun k_ hk_ hs_ => (hk_) hs_)) (fun k_ hk_ => hk_.1)); replace BK449 := Aside0.mk (blk_kept (by (with_reducible repeat (first | refine blk_drewN ?_ _ | refine blk_drew ?_ | refine blk_alloc ?_ _)); exact BK449.out) hkp (fun hs_ => (fun e_ => (Kd.R_ne HO_7.out BK449.out (by decide)) e_) hs_)); replace HO_7 := Aside0.mk (Kd.R_reok rfl hy0 (fun k_ e_ => HO_7.out.1 k_ e_)); replace HB := Aside0.mk (hb); (try clear hb); (try clear hkp); (try clear hy0)) | ((with_reducible refine gate_callee (f := 39) rfl ?_); refine goesL_ (some 67) rfl rfl Try.func39 (by kernel_rfl) rfl #[.slice Ao62 t498.length co62, .int .i64 1] rfl (by (try simp only [List.map_toArray, List.map_cons, List.map_nil]); first | done | (rw [show t498.length = t478.length from (Kd.R_reads' HO_7.out).1.symm] <;> rfl) | rfl | (simp only [List.length_drop, List.length_take]; rfl)) ?_; (with_reducible refine (laws_heldByteS.calls kj36 _ _ t498 1 t499 _ ?side1 ?side2 A54.out).mono ?_); (case side1 => repeat (first | exact (Kd.R_reads' HO_7.out).2.2 | (with_reducible refine Kd.C_alloc ?_ _) | (with_reducible refine Kd.C_drewN ?_ _) | (with_reducible refine Kd.C_drew ?_))); (case side2 => rw [show t498.length = t478.length from (Kd.R_reads' HO_7.out).1.symm]; exact (Kd.R_reads' HO_7.out).2.1); rintro e w' ⟨rfl, ⟨nd, rfl⟩⟩; refine ⟨_, rfl, ?_⟩; obtain ⟨hcz64_0, hcz64_1, hcz64_2, hcz64_3, hcz64_4, hcz64_5, hcz64_6, hcz64_7, hcz64_8, -⟩ := cells_9 BK449.out trivial; obtain ⟨hfz64_0, hfz64_1, hfz64_2, hfz64_3, hfz64_4, hfz64_5, hfz64_6, hfz64_7, hfz64_8, -⟩ := frz_9 BK449.out) | ((with_reducible refine gate_callee (f := 34) rfl ?_); refine gl_ (some 75) Try.func34 #[.agg #[.int .i64 a0_0, .int .i64 a0_1, .int .i64 a0_2, .int .i64 a0_3, .int .i64 a0_4, .int .i64 a0_5, .slice A0_6 l0_6.length c0_6, .int .i64 a0_7, .bool a0_8]] (h := ?_); (with_reducible refine (laws_toMsg.calls kj36 a0_0 a0_1 a0_2 a0_3 a0_4 a0_5 _ _ l0_6 a0_7 a0_8 t500 t501 t502 t503 t504 t505 t506 t509 t510 _ ?side1 ?side2 A59.out).mono ?_); (case side1 => exact kcb); (case side2 => exact HC0_6.out); rintro e w65 ⟨v507, rfl, ho0, hb⟩; refine ⟨_, rfl, ?_⟩; have HO508 := Aside0.mk (Kd.S_lower (Kd.S_new' (Kd.S_new' ho0 (Kd.R_lt (by (with_reducible repeat (first | apply Kd.R_alloc | apply Kd.R_drewN | apply Kd.R_drew)); exact HO_4.out))) (Kd.R_lt (by (with_reducible repeat (first | apply Kd.R_alloc | apply Kd.R_drewN | apply Kd.R_drew)); exact HO_7.out))) (below_size bel)); replace HO_4 := Aside0.mk (rbl HO_4 hb); replace HO_7 := Aside0.mk (rbl HO_7 hb); replace BK449 := Aside0.mk (blb BK449 hb); replace HB := Aside0.mk (below_step bel hb); (try clear hb); (try clear hb2); (try clear hk); (try clear hi); (try clear ho0); obtain ⟨Ao66, co66, eo66⟩ := Kd.S_slice HO508.out; subst eo66) | ((with_reducible refine gate_callee (f := 26) rfl ?_); refine gl_ (some 76) Try.func26 #[.agg #[.int .i64 t500, .int .i64 t501, .int .i64 t502, .int .i64 t503, .int .i64 t504, .int .i64 t505, .slice Ao66 t506.length co66, .int .i64 t509, .bool t510]] (h := ?_); (with_reducible refine (impl_MsgBytes.calls kj36 t500 t501 t502 t503 t504 t505 _ _ t506 t509 t510 t511 t514 _ ?side1 ?side2 A60.out).mono ?_); (case side1 => repeat (first | exact (Kd.S_reads' HO508.out).2.2 | (with_reducible refine Kd.C_alloc ?_ _) | (with_reducible refine Kd.C_drewN ?_ _) | (with_reducible refine Kd.C_drew ?_))); (case side2 => exact (Kd.S_reads' HO508.out).2.1); rintro e w67 ⟨v512, rfl, ho0, hb⟩; refine ⟨_, rfl, ?_⟩; have HO513 := Aside0.mk (Kd.R_lower (Kd.R_new' (Kd.R_new' ho0 (Kd.R_lt (by (with_reducible repeat (first | apply Kd.R_alloc | apply Kd.R_drewN | apply Kd.R_drew)); exact HO_4.out))) (Kd.R_lt (by (with_reducible repeat (first | apply Kd.R_alloc | apply Kd.R_drewN | apply Kd.R_drew)); exact HO_7.out))) (below_size bel)); replace HO_4 := Aside0.mk (Kd.R_elder' (by (with_reducible repeat (first | apply Kd.R_alloc | apply Kd.R_drewN | apply Kd.R_drew)); exact HO_4.out) (Kd.R_base ho0) hb); replace HO_7 := Aside0.mk (Kd.R_elder' (by (with_reducible repeat (first | apply Kd.R_alloc | apply Kd.R_drewN | apply Kd.R_drew)); exact HO_7.out) (Kd.R_base ho0) hb); replace HO508 := Aside0.mk (Kd.S_elder' (by (with_reducible repeat (first | apply Kd.S_alloc | apply Kd.S_drewN | apply Kd.S_drew)); exact HO508.out) (Kd.R_base ho0) hb); replace BK449 := Aside0.mk (blb BK449 hb); replace HB := Aside0.mk (below_step bel hb); (try clear hb); (try clear hb2); (try clear hk); (try clear hi); (try clear ho0)))
       (try simp only [Act.put, List.setIfInBounds_toArray, List.set_cons_zero, List.set_cons_succ])
       go_cut [87] (fun v87 wc => ∃ (kq : Nat) (x87_60 : Bool), v87 = .bool x87_60 ∧ Aside0 (laws_FnExactMsgBytes.j2 kq t498 t497 x87_60 = some true) ∧ Aside0 (kq ≤ kj36) ∧ Aside0 (Kd.R (Kd.int .u8) 5 wc w.heap.size (fun _ => True) (.slice Ao62 t478.length co62) t498) ∧ Aside0 (wc.heap[gb449]? = some (.cells #[.int .i64 a0_0, .int .i64 a0_1, .int .i64 a0_2, .int .i64 a0_3, .int .i64 a0_4, .int .i64 a0_5, (.slice A0_6 l0_6.length c0_6), .int .i64 a0_7, .bool a0_8] 65 (0, 0))) ∧ Aside0 (Below w.heap.size w wc))
       case first =>
        have H := HC61.out
        clear HC61
        replace H := Option.bind_eq_some_iff.mp H
        obtain ⟨t515, A680, H⟩ := H
        replace H : (if t515 = true then (laws_FnExactMsgBytes.j2 kj36 t498 t497 (t514 != t465)) else (laws_FnExactMsgBytes.j2 kj36 t498 t497 true)) = some true := H
        have A68 := Aside0.mk A680
        clear A680
        by_cases c69 : t515 = true
        ·subst c69
         have H1 : (laws_FnExactMsgBytes.j2 kj36 t498 t497 (t514 != t465)) = some true := by rw [if_pos rfl] at H; exact H
         clear H
         have H := H1
         clear H1
         have H' := Aside0.mk H
         clear H
         obtain ⟨Ao70, co70, eo70⟩ := Kd.R_slice HO513.out
         subst eo70
         obtain ⟨Ao71, co71, eo71⟩ := Kd.R_slice HO_4.out
         subst eo71
         go_wp2_with (first | ((with_reducible refine gate_callee (f := 35) rfl ?_); refine gl_ (some 81) Try.func35 #[.slice Ao70 t511.length co70, .slice Ao71 t462.length co71] (h := ?_); (with_reducible refine (laws_eqByteS.calls kj36 _ _ t511 _ _ t462 true _ ?side1 ?side2 ?side3 ?side4 A68.out).mono ?_); (case side1 => repeat (first | exact (Kd.R_reads' HO513.out).2.2 | (with_reducible refine Kd.C_alloc ?_ _) | (with_reducible refine Kd.C_drewN ?_ _) | (with_reducible refine Kd.C_drew ?_))); (case side2 => exact (Kd.R_reads' HO513.out).2.1); (case side3 => repeat (first | exact (Kd.R_reads' HO_4.out).2.2 | (with_reducible refine Kd.C_alloc ?_ _) | (with_reducible refine Kd.C_drewN ?_ _) | (with_reducible refine Kd.C_drew ?_))); (case side4 => exact (Kd.R_reads' HO_4.out).2.1); rintro e w' ⟨rfl, ⟨nd, rfl⟩⟩; refine ⟨_, rfl, ?_⟩))
         go_meet
         case rel => exact ⟨_, ((t514 != t465)), rs_, H', ⟨by have := HJ10.out; have := HJ36.out; first | omega | exact Nat.le_refl _⟩, ⟨by (with_reducible repeat (first | apply Kd.R_alloc | apply Kd.R_drewN | apply Kd.R_drew)); exact Kd.R_mono HO_7.out (fun _ hk => trivial)⟩, ⟨by (with_reducible repeat (first | refine blk_drewN ?_ _ | refine blk_drew ?_ | refine blk_alloc ?_ _)); exact BK449.out⟩, ⟨bel⟩⟩
        replace c69 := Bool.eq_false_iff.mpr c69
        subst c69
        have H1 : (laws_FnExactMsgBytes.j2 kj36 t498 t497 true) = some true := by rw [if_neg (show ¬ (false = true) by decide)] at H; exact H
        clear H
        have H := H1
        clear H1
        have H' := Aside0.mk H
        clear H
        obtain ⟨Ao72, co72, eo72⟩ := Kd.R_slice HO513.out
        subst eo72
        obtain ⟨Ao73, co73, eo73⟩ := Kd.R_slice HO_4.out
        subst eo73
        go_wp2_with (first | ((with_reducible refine gate_callee (f := 35) rfl ?_); refine gl_ (some 81) Try.func35 #[.slice Ao72 t511.length co72, .slice Ao73 t462.length co73] (h := ?_); (with_reducible refine (laws_eqByteS.calls kj36 _ _ t511 _ _ t462 false _ ?side1 ?side2 ?side3 ?side4 A68.out).mono ?_); (case side1 => repeat (first | exact (Kd.R_reads' HO513.out).2.2 | (with_reducible refine Kd.C_alloc ?_ _) | (with_reducible refine Kd.C_drewN ?_ _) | (with_reducible refine Kd.C_drew ?_))); (case side2 => exact (Kd.R_reads' HO513.out).2.1); (case side3 => repeat (first | exact (Kd.R_reads' HO_4.out).2.2 | (with_reducible refine Kd.C_alloc ?_ _) | (with_reducible refine Kd.C_drewN ?_ _) | (with_reducible refine Kd.C_drew ?_))); (case side4 => exact (Kd.R_reads' HO_4.out).2.1); rintro e w' ⟨rfl, ⟨nd, rfl⟩⟩; refine ⟨_, rfl, ?_⟩))
        go_meet
        case rel => exact ⟨_, (true), rs_, H', ⟨by have := HJ10.out; have := HJ36.out; first | omega | exact Nat.le_refl _⟩, ⟨by (with_reducible repeat (first | apply Kd.R_alloc | apply Kd.R_drewN | apply Kd.R_drew)); exact Kd.R_mono HO_7.out (fun _ hk => trivial)⟩, ⟨by (with_reducible repeat (first | refine blk_drewN ?_ _ | refine blk_drew ?_ | refine blk_alloc ?_ _)); exact BK449.out⟩, ⟨bel⟩⟩
       case rest =>
        clear HC61
        try clear c2; try clear p2; try clear c3; try clear c3b0; try clear c4; try clear c5; try clear c6; try clear c22; try clear c26; try clear c27; try clear c32; try clear c33; try clear c34; try clear c35; try clear c36; try clear c37; try clear c38; try clear c39; try clear c42; try clear c45; try clear c45b0; try clear c47; try clear c52; try clear c55; try clear c55b0; try clear c58; try clear c58b0; try clear c58b1; try clear c69; try clear hcz13_0; try clear hcz13_1; try clear hcz13_2; try clear hcz13_3; try clear hcz13_4; try clear hcz13_5; try clear hcz13_6; try clear hcz13_7; try clear hcz13_8; try clear hcz15_0; try clear hcz15_1; try clear hcz15_2; try clear hcz15_3; try clear hcz15_4; try clear hcz15_5; try clear hcz15_6; try clear hcz15_7; try clear hcz15_8; try clear hcz19_0; try clear hcz19_1; try clear hcz19_2; try clear hcz19_3; try clear hcz19_4; try clear hcz19_5; try clear hcz19_6; try clear hcz19_7; try clear hcz19_8; try clear hcz23_0; try clear hcz23_1; try clear hcz23_2; try clear hcz23_3; try clear hcz23_4; try clear hcz23_5; try clear hcz23_6; try clear hcz23_7; try clear hcz23_8; try clear hcz43_0; try clear hcz43_1; try clear hcz43_2; try clear hcz43_3; try clear hcz43_4; try clear hcz43_5; try clear hcz43_6; try clear hcz43_7; try clear hcz43_8; try clear hcz5_0; try clear hcz5_1; try clear hcz5_2; try clear hcz5_3; try clear hcz5_4; try clear hcz5_5; try clear hcz5_6; try clear hcz5_7; try clear hcz5_8; try clear hcz64_0; try clear hcz64_1; try clear hcz64_2; try clear hcz64_3; try clear hcz64_4; try clear hcz64_5; try clear hcz64_6; try clear hcz64_7; try clear hcz64_8; try clear hfz13_0; try clear hfz13_1; try clear hfz13_2; try clear hfz13_3; try clear hfz13_4; try clear hfz13_5; try clear hfz13_6; try clear hfz13_7; try clear hfz13_8; try clear hfz15_0; try clear hfz15_1; try clear hfz15_2; try clear hfz15_3; try clear hfz15_4; try clear hfz15_5; try clear hfz15_6; try clear hfz15_7; try clear hfz15_8; try clear hfz19_0; try clear hfz19_1; try clear hfz19_2; try clear hfz19_3; try clear hfz19_4; try clear hfz19_5; try clear hfz19_6; try clear hfz19_7; try clear hfz19_8; try clear hfz23_0; try clear hfz23_1; try clear hfz23_2; try clear hfz23_3; try clear hfz23_4; try clear hfz23_5; try clear hfz23_6; try clear hfz23_7; try clear hfz23_8; try clear hfz43_0; try clear hfz43_1; try clear hfz43_2; try clear hfz43_3; try clear hfz43_4; try clear hfz43_5; try clear hfz43_6; try clear hfz43_7; try clear hfz43_8; try clear hfz5_0; try clear hfz5_1; try clear hfz5_2; try clear hfz5_3; try clear hfz5_4; try clear hfz5_5; try clear hfz5_6; try clear hfz5_7; try clear hfz5_8; try clear hfz64_0; try clear hfz64_1; try clear hfz64_2; try clear hfz64_3; try clear hfz64_4; try clear hfz64_5; try clear hfz64_6; try clear hfz64_7; try clear hfz64_8; try clear p2
        obtain ⟨kq, x87_60, rfl, HA, HJ60, HO_7, BK449, HB⟩ := hcut
        have hl7_60 := (Kd.R_reads' HO_7.out).1
        rw [hl7_60] at HO_7
        (try simp only [hl7_60])
        (try simp only [hl7_60] at BK449)
        cases kq with
        | zero => exact absurd HA.out (by simp [laws_FnExactMsgBytes.j2])
        | succ kj60 =>
         have H := HA.out
         clear HA
         simp only [laws_FnExactMsgBytes.j2] at H
         by_cases c74 : x87_60 = true
         ·subst c74
          have H1 : (some false) = some true := by rw [if_pos rfl] at H; exact H
          exact absurd H1 (by simp)
         replace c74 := Bool.eq_false_iff.mpr c74
         subst c74
         have H1 : ((laws_heldByteS.f kj60 t498 1).bind fun t516 => (if t516 < 0 then (some false) else (if t516 = t497 then (some true) else (some false)))) = some true := by rw [if_neg (show ¬ (false = true) by decide)] at H; exact H
         clear H
         have H := H1
         clear H1
         replace H := Option.bind_eq_some_iff.mp H
         obtain ⟨t516, A750, H⟩ := H
         replace H : (if t516 < 0 then (some false) else (if t516 = t497 then (some true) else (some false))) = some true := H
         have A75 := Aside0.mk A750
         clear A750
         by_cases c76 : t516 < 0
         ·rw [if_pos c76] at H
          exact absurd H (by first | simp | (unfold laws_FnExactMsgBytes.j0; split <;> simp) | (unfold laws_FnExactMsgBytes.j1; split <;> simp) | (unfold laws_FnExactMsgBytes.j2; split <;> simp))
         rw [if_neg c76] at H
         have c76b0 : decide (t516 < 0) = false := decide_eq_false c76
         clear c76
         by_cases c77 : t516 = t497
         ·rw [if_pos c77] at H
          have c77b0 : (t516 == t497) = true := beq_iff_eq.mpr c77
          have c77b1 : (t516 != t497) = false := bne_eq_false_iff_eq.mpr c77
          clear c77
          clear H
          go_wp2_with (first | ((with_reducible refine gate_callee (f := 39) rfl ?_); refine gl_ (some 90) Try.func39 #[.slice Ao62 t498.length co62, .int .i64 1] (h := ?_); (with_reducible refine (laws_heldByteS.calls kj60 _ _ t498 1 t516 _ ?side1 ?side2 A75.out).mono ?_); (case side1 => repeat (first | exact (Kd.R_reads' HO_7.out).2.2 | (with_reducible refine Kd.C_alloc ?_ _) | (with_reducible refine Kd.C_drewN ?_ _) | (with_reducible refine Kd.C_drew ?_))); (case side2 => exact (Kd.R_reads' HO_7.out).2.1); rintro e w' ⟨rfl, ⟨nd, rfl⟩⟩; refine ⟨_, rfl, ?_⟩))
          go_ret
          exact ⟨rz_, bel⟩
         rw [if_neg c77] at H
         exact absurd H (by first | simp | (unfold laws_FnExactMsgBytes.j0; split <;> simp) | (unfold laws_FnExactMsgBytes.j1; split <;> simp) | (unfold laws_FnExactMsgBytes.j2; split <;> simp))
      rw [if_neg c58] at H
      exact absurd H (by first | simp | (unfold laws_FnExactMsgBytes.j0; split <;> simp) | (unfold laws_FnExactMsgBytes.j1; split <;> simp) | (unfold laws_FnExactMsgBytes.j2; split <;> simp))
   replace c35 := Bool.eq_false_iff.mpr c35
   subst c35
   have H1 : (some false) = some true := by rw [if_neg (show ¬ (false = true) by decide)] at H; exact H
   exact absurd H1 (by simp)

/-- THE ONE PURE STATEMENT of laws_FnExactMsgBytes. -/
def laws_FnExactMsgBytes.Pure : Prop := ∀ (x0 : S65), okS65 x0 → ∃ k, laws_FnExactMsgBytes.f k x0.f0 x0.f1 x0.f2 x0.f3 x0.f4 x0.f5 x0.f6 x0.f7 x0.f8 = some true
theorem laws_FnExactMsgBytes.walk (P : laws_FnExactMsgBytes.Pure) (x0 : S65) (cs0 : List Value) (w : World) (w0 : k65.K w x0 cs0) (o0 : okS65 x0) :
  Calls Try.prog 6 #[.agg ⟨cs0⟩] w fun e w' => e = .returned (.bool true) ∧ Below w.heap.size w w' := by
 obtain ⟨A0_6, c0_6, rfl, m0_6, g0_6⟩ := k65_open w0
 obtain ⟨k, h⟩ := P x0 o0
 refine (laws_FnExactMsgBytes.calls k x0.f0 x0.f1 x0.f2 x0.f3 x0.f4 x0.f5 _ _ x0.f6 x0.f7 x0.f8 w g0_6 m0_6 h).mono ?_
 rintro e w' ⟨rfl, hd⟩
 exact ⟨rfl, hd⟩

end Go.Proofs.Ytdgegnakiljfjaa.PM
