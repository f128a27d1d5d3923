-- Written for this claim by the session's program pp.py, out of the kit's print and the seat's translation.
import Derived.Test.YtdgegnakiljfjaaPMx0
import Derived.Test.YtdgegnakiljfjaaPMx1
import Derived.Test.YtdgegnakiljfjaaPMx2
namespace Go.Proofs.Ytdgegnakiljfjaa.PM
open Go.RowKit Go.Proofs.YtdgegnakiljfjaaW.PrintWords Go.Proofs.YtdgegnakiljfjaaW.PrintLast Go.Proofs.YtdgegnakiljfjaaW.PrintMore
attribute [local go_sem] max2_int min2_int max_two min_two max_three min_three max_four min_four   -- for this text's walks alone
set_option linter.unusedVariables false
set_option linter.unusedSimpArgs false

/-! ### impl_CmdOk: function 172 -/
def impl_CmdOk.f (k : Nat) (a0_0 : Int) (a0_1 : Int) (a0_2 : Int) (l0_3 : List Int) (l0_4 : List Int) (a0_5 : Int) : Option (Bool) := (impl_noOp.f).bind fun bt130 => ((impl_Cmd_same.f a0_0 a0_1 a0_2 l0_3 l0_4 a0_5 bt130.1 bt130.2.1 bt130.2.2.1 bt130.2.2.2.1 bt130.2.2.2.2.1 bt130.2.2.2.2.2).bind fun t140 => (if t140 = true then (some true) else ((impl_within.f a0_0 0 3).bind fun t141 => (if t141 = true then ((impl_within.f a0_1 1 1000000).bind fun t142 => (if t142 = true then ((impl_OpOk.f k a0_2 l0_3 l0_4 a0_5).bind fun t143 => (some t143)) else (some false))) else (some false)))))
def impl_CmdOk.T1 : Bool × List (List Nat × List Nat) := (true, [([], []), ([], []), ([0, 1, 1], [0, 1]), ([2, 2], [2]), ([3], [3]), ([4, 3], [3, 4]), ([5, 3, 3], [3, 5]), ([6, 6, 3], [3, 6]), ([7], [7]), ([8, 7], [7, 8]), ([9, 7, 7], [7, 9]), ([7, 10, 3], [3, 7, 10]), ([11, 10, 3], [3, 11]), ([12], [12]), ([13, 12], [12, 13]), ([14, 12, 12], [12, 14]), ([12, 15, 3], [3, 12, 15]), ([3, 16], [3, 16]), ([17, 15, 0, 1, 2, 3, 4, 5, 6, 7, 8, 9, 10, 11, 12, 13, 14, 15, 16, 17], [17])])
def impl_CmdOk.B1 : List Nat := [0, 0, 3, 7, 15, 31, 63, 127, 255, 511, 1023, 2047, 4095, 8191, 16383, 32767, 65535, 131071, 262143]
theorem impl_CmdOk.tab1 : rtab .any (opsOf Try.f172 1) = impl_CmdOk.T1 := by kernel_rfl
theorem impl_CmdOk.bits1 : waitsOk impl_CmdOk.T1.2 impl_CmdOk.B1 = true := by kernel_rfl
set_option maxHeartbeats 8000000 in
set_option maxRecDepth 100000 in
theorem impl_CmdOk.calls (k : Nat) (a0_0 : Int) (a0_1 : Int) (a0_2 : Int) (A0_3 : Option Addr) (c0_3 : Nat) (l0_3 : List Int) (A0_4 : Option Addr) (c0_4 : Nat) (l0_4 : List Int) (a0_5 : Int) (r : Bool) (w : World) (hr0_3 : Kd.C (Kd.int .u8) w A0_3 l0_3.length l0_3) (hc0_3 : l0_3.length ≤ c0_3) (hr0_4 : Kd.C (Kd.int .u8) w A0_4 l0_4.length l0_4) (hc0_4 : l0_4.length ≤ c0_4) (h : impl_CmdOk.f k a0_0 a0_1 a0_2 l0_3 l0_4 a0_5 = some r) :
  Calls Try.prog 172 #[.agg #[.int .i64 a0_0, .int .i64 a0_1, .int .i64 a0_2, .slice A0_3 l0_3.length c0_3, .slice A0_4 l0_4.length c0_4, .int .i64 a0_5]] w fun e w' => e = .returned (.bool r) ∧ Below w.heap.size w w' := by
 have hu145 := Try.underlying145
 have hu143 := Try.underlying143
 have HR0_3 := Aside0.mk hr0_3
 have HC0_3 := Aside0.mk hc0_3
 clear hr0_3 hc0_3
 have HR0_4 := Aside0.mk hr0_4
 have HC0_4 := Aside0.mk hc0_4
 clear hr0_4 hc0_4
 have HB := Aside0.mk (Below.refl w.heap.size w)
 have H : ((impl_noOp.f).bind fun bt130 => ((impl_Cmd_same.f a0_0 a0_1 a0_2 l0_3 l0_4 a0_5 bt130.1 bt130.2.1 bt130.2.2.1 bt130.2.2.2.1 bt130.2.2.2.2.1 bt130.2.2.2.2.2).bind fun t140 => (if t140 = true then (some true) else ((impl_within.f a0_0 0 3).bind fun t141 => (if t141 = true then ((impl_within.f a0_1 1 1000000).bind fun t142 => (if t142 = true then ((impl_OpOk.f k a0_2 l0_3 l0_4 a0_5).bind fun t143 => (some t143)) else (some false))) else (some false)))))) = some r := h
 clear h
 replace H := Option.bind_eq_some_iff.mp H
 obtain ⟨⟨t130, t131, t132, t133, t136, t139⟩, A20, H⟩ := H
 replace H : ((impl_Cmd_same.f a0_0 a0_1 a0_2 l0_3 l0_4 a0_5 t130 t131 t132 t133 t136 t139).bind fun t140 => (if t140 = true then (some true) else ((impl_within.f a0_0 0 3).bind fun t141 => (if t141 = true then ((impl_within.f a0_1 1 1000000).bind fun t142 => (if t142 = true then ((impl_OpOk.f k a0_2 l0_3 l0_4 a0_5).bind fun t143 => (some t143)) else (some false))) else (some false))))) = some r := H
 have A2 := Aside0.mk A20
 clear A20
 replace H := Option.bind_eq_some_iff.mp H
 obtain ⟨t140, A30, H⟩ := H
 replace H : (if t140 = true then (some true) else ((impl_within.f a0_0 0 3).bind fun t141 => (if t141 = true then ((impl_within.f a0_1 1 1000000).bind fun t142 => (if t142 = true then ((impl_OpOk.f k a0_2 l0_3 l0_4 a0_5).bind fun t143 => (some t143)) else (some false))) else (some false)))) = some r := H
 have A3 := Aside0.mk A30
 clear A30
 by_cases c4 : t140 = true
 ·subst c4
  have H1 : (some true) = some r := by rw [if_pos rfl] at H; exact H
  clear H
  have H := H1
  clear H1
  obtain rfl := Option.some.inj H
  go_enter Try.func172, Try.ntmps172
  try go_wp2_with (first | ((with_reducible refine gate_dst (N := 1) rfl ?_); refine bx_ 1 #[.int .i64 a0_0, .int .i64 a0_1, .int .i64 a0_2, .slice A0_3 l0_3.length c0_3, .slice A0_4 l0_4.length c0_4, .int .i64 a0_5] 145 (h := ?_); intro gb129 hg w5 hbox hb; have BK129 := Aside0.mk (hbox); have GW129 := Aside0.mk ((by rw [hg]; exact (below_size bel) : w.heap.size ≤ gb129)); have GE129 := GW129; replace HB := Aside0.mk (below_step bel hb); clear hb hbox hg))
  replace BK129 := Aside0.mk (blk_drew BK129.out)
  replace HB := Aside0.mk (below_drew1 HB.out)
  refine start_ (n := 19) (S := fun w' => w'.cell? ⟨gb129, 0, none⟩ = some (.int .i64 a0_0) ∧ w'.cell? ⟨gb129, 1, none⟩ = some (.int .i64 a0_1) ∧ w'.cell? ⟨gb129, 2, none⟩ = some (.int .i64 a0_2) ∧ w'.cell? ⟨gb129, 3, none⟩ = some (.slice A0_3 l0_3.length c0_3) ∧ w'.cell? ⟨gb129, 4, none⟩ = some (.slice A0_4 l0_4.length c0_4) ∧ w'.cell? ⟨gb129, 5, none⟩ = some (.int .i64 a0_5)) (ds := []) (tf 0 19) (by kernel_rfl) rfl rfl (cellz_6 BK129.out) (fun hHeld => ?_); refine with_tabW impl_CmdOk.tab1 impl_CmdOk.bits1 (fun HT_ HW_ => ?_)
  generalize w5.drew = w6 at BK129 HB hHeld ⊢
  refine tvn_ HT_ HW_ hHeld (h := ?_)
  refine one_ (i := 1) (N := some 4) (tf 2 17) rfl rfl (one_of HT_.out (by kernel_rfl)) (by decide) (fun K hK => ?_)
  refine gs_ Try.func192 #[] (h := ?_)
  with_reducible refine (impl_noOp.calls  t130 t131 t132 t133 t136 t139 _ A2.out).mono ?_
  rintro e w7 ⟨v134, v137, rfl, ho0, ho1, hb⟩
  refine ⟨_, rfl, ?_⟩
  have HO135 := Aside0.mk (Kd.R_lower ho0 (below_size bel))
  have HO138 := Aside0.mk (Kd.R_lower ho1 (below_size bel))
  replace BK129 := Aside0.mk (blb BK129 hb)
  replace HB := Aside0.mk (below_step bel hb)
  (try clear hb)
  (try clear hb2)
  (try clear hk)
  (try clear hi)
  (try clear ho0)
  (try clear ho1)
  obtain ⟨Ao8, co8, eo8⟩ := Kd.R_slice HO135.out
  (first | subst eo8 | (injection eo8 with f1_ f2_ f3_; have f4_ := f1_.symm; have f5_ := f3_.symm; clear f1_ f2_ f3_; subst f4_; subst f5_))
  obtain ⟨Ao9, co9, eo9⟩ := Kd.R_slice HO138.out
  (first | subst eo9 | (injection eo9 with f1_ f2_ f3_; have f4_ := f1_.symm; have f5_ := f3_.symm; clear f1_ f2_ f3_; subst f4_; subst f5_))
  refine hK.out _ _ (cellz_6 BK129.out) (fun hHeld => ?_)
  clear hK K
  refine nrm_ (some 4) (h := ?_)
  refine one_ (i := 2) (N := some 5) (tf 3 16) rfl rfl (one_of HT_.out (by kernel_rfl)) (by decide) (fun K hK => ?_)
  refine gs_ Try.func191 #[.agg #[.int .i64 a0_0, .int .i64 a0_1, .int .i64 a0_2, .slice A0_3 l0_3.length c0_3, .slice A0_4 l0_4.length c0_4, .int .i64 a0_5], .agg #[.int .i64 t130, .int .i64 t131, .int .i64 t132, .slice Ao8 t133.length co8, .slice Ao9 t136.length co9, .int .i64 t139]] (h := ?_)
  with_reducible refine (impl_Cmd_same.calls a0_0 a0_1 a0_2 _ _ l0_3 _ _ l0_4 a0_5 t130 t131 t132 _ _ t133 _ _ t136 t139 true _ ?side1 ?side2 ?side3 ?side4 ?side5 ?side6 ?side7 ?side8 A3.out).mono ?_
  (case side1 => exact kcb)
  (case side2 => exact HC0_3.out)
  (case side3 => exact kcb)
  (case side4 => exact HC0_4.out)
  (case side5 => repeat (first | exact (Kd.R_reads' HO135.out).2.2 | (with_reducible refine Kd.C_alloc ?_ _) | (with_reducible refine Kd.C_drewN ?_ _) | (with_reducible refine Kd.C_drew ?_)))
  (case side6 => exact (Kd.R_reads' HO135.out).2.1)
  (case side7 => repeat (first | exact (Kd.R_reads' HO138.out).2.2 | (with_reducible refine Kd.C_alloc ?_ _) | (with_reducible refine Kd.C_drewN ?_ _) | (with_reducible refine Kd.C_drew ?_)))
  (case side8 => exact (Kd.R_reads' HO138.out).2.1)
  rintro e w10 ⟨rfl, hb⟩
  refine ⟨_, rfl, ?_⟩
  replace HO135 := Aside0.mk (rbl HO135 hb)
  replace HO138 := Aside0.mk (rbl HO138 hb)
  replace BK129 := Aside0.mk (blb BK129 hb)
  replace HB := Aside0.mk (below_step bel hb)
  (try clear hb)
  (try clear hb2)
  (try clear hk)
  (try clear hi)
  refine hK.out _ _ (cellz_6 BK129.out) (fun hHeld => ?_)
  clear hK K
  refine nrm_ (some 5) (h := ?_)
  refine pvn_ HT_ (h := ?_)
  refine puns_ HT_ 13 [some _, some _, some _, some _, some _, some _, some _, some _, some _, some _, some _, some _, some _] (h := ?_)
  iterate 2 (refine pvn_ HT_ (h := ?_))
  refine done_ (done_of HT_.out (by kernel_rfl)) ?_
  try go_wp2
  go_ret
  exact ⟨rz_, bel⟩
 replace c4 := Bool.eq_false_iff.mpr c4
 subst c4
 have H1 : ((impl_within.f a0_0 0 3).bind fun t141 => (if t141 = true then ((impl_within.f a0_1 1 1000000).bind fun t142 => (if t142 = true then ((impl_OpOk.f k a0_2 l0_3 l0_4 a0_5).bind fun t143 => (some t143)) else (some false))) else (some false))) = some r := by rw [if_neg (show ¬ (false = true) by decide)] at H; exact H
 clear H
 have H := H1
 clear H1
 replace H := Option.bind_eq_some_iff.mp H
 obtain ⟨t141, A110, H⟩ := H
 replace H : (if t141 = true then ((impl_within.f a0_1 1 1000000).bind fun t142 => (if t142 = true then ((impl_OpOk.f k a0_2 l0_3 l0_4 a0_5).bind fun t143 => (some t143)) else (some false))) else (some false)) = some r := H
 have A11 := Aside0.mk A110
 clear A110
 by_cases c12 : t141 = true
 ·subst c12
  have H1 : ((impl_within.f a0_1 1 1000000).bind fun t142 => (if t142 = true then ((impl_OpOk.f k a0_2 l0_3 l0_4 a0_5).bind fun t143 => (some t143)) else (some false))) = some r := by rw [if_pos rfl] at H; exact H
  clear H
  have H := H1
  clear H1
  replace H := Option.bind_eq_some_iff.mp H
  obtain ⟨t142, A130, H⟩ := H
  replace H : (if t142 = true then ((impl_OpOk.f k a0_2 l0_3 l0_4 a0_5).bind fun t143 => (some t143)) else (some false)) = some r := H
  have A13 := Aside0.mk A130
  clear A130
  by_cases c14 : t142 = true
  ·subst c14
   have H1 : ((impl_OpOk.f k a0_2 l0_3 l0_4 a0_5).bind fun t143 => (some t143)) = some r := by rw [if_pos rfl] at H; exact H
   clear H
   have H := H1
   clear H1
   replace H := Option.bind_eq_some_iff.mp H
   obtain ⟨t143, A150, H⟩ := H
   replace H : (some t143) = some r := H
   have A15 := Aside0.mk A150
   clear A150
   obtain rfl := Option.some.inj H
   go_enter Try.func172, Try.ntmps172
   try go_wp2_with (first | ((with_reducible refine gate_dst (N := 1) rfl ?_); refine bx_ 1 #[.int .i64 a0_0, .int .i64 a0_1, .int .i64 a0_2, .slice A0_3 l0_3.length c0_3, .slice A0_4 l0_4.length c0_4, .int .i64 a0_5] 145 (h := ?_); intro gb129 hg w16 hbox hb; have BK129 := Aside0.mk (hbox); have GW129 := Aside0.mk ((by rw [hg]; exact (below_size bel) : w.heap.size ≤ gb129)); have GE129 := GW129; replace HB := Aside0.mk (below_step bel hb); clear hb hbox hg))
   replace BK129 := Aside0.mk (blk_drew BK129.out)
   replace HB := Aside0.mk (below_drew1 HB.out)
   refine start_ (n := 19) (S := fun w' => w'.cell? ⟨gb129, 0, none⟩ = some (.int .i64 a0_0) ∧ w'.cell? ⟨gb129, 1, none⟩ = some (.int .i64 a0_1) ∧ w'.cell? ⟨gb129, 2, none⟩ = some (.int .i64 a0_2) ∧ w'.cell? ⟨gb129, 3, none⟩ = some (.slice A0_3 l0_3.length c0_3) ∧ w'.cell? ⟨gb129, 4, none⟩ = some (.slice A0_4 l0_4.length c0_4) ∧ w'.cell? ⟨gb129, 5, none⟩ = some (.int .i64 a0_5)) (ds := []) (tf 0 19) (by kernel_rfl) rfl rfl (cellz_6 BK129.out) (fun hHeld => ?_); refine with_tabW impl_CmdOk.tab1 impl_CmdOk.bits1 (fun HT_ HW_ => ?_)
   generalize w16.drew = w17 at BK129 HB hHeld ⊢
   refine tvn_ HT_ HW_ hHeld (h := ?_)
   refine one_ (i := 1) (N := some 4) (tf 2 17) rfl rfl (one_of HT_.out (by kernel_rfl)) (by decide) (fun K hK => ?_)
   refine gs_ Try.func192 #[] (h := ?_)
   with_reducible refine (impl_noOp.calls  t130 t131 t132 t133 t136 t139 _ A2.out).mono ?_
   rintro e w18 ⟨v134, v137, rfl, ho0, ho1, hb⟩
   refine ⟨_, rfl, ?_⟩
   have HO135 := Aside0.mk (Kd.R_lower ho0 (below_size bel))
   have HO138 := Aside0.mk (Kd.R_lower ho1 (below_size bel))
   replace BK129 := Aside0.mk (blb BK129 hb)
   replace HB := Aside0.mk (below_step bel hb)
   (try clear hb)
   (try clear hb2)
   (try clear hk)
   (try clear hi)
   (try clear ho0)
   (try clear ho1)
   obtain ⟨Ao19, co19, eo19⟩ := Kd.R_slice HO135.out
   (first | subst eo19 | (injection eo19 with f1_ f2_ f3_; have f4_ := f1_.symm; have f5_ := f3_.symm; clear f1_ f2_ f3_; subst f4_; subst f5_))
   obtain ⟨Ao20, co20, eo20⟩ := Kd.R_slice HO138.out
   (first | subst eo20 | (injection eo20 with f1_ f2_ f3_; have f4_ := f1_.symm; have f5_ := f3_.symm; clear f1_ f2_ f3_; subst f4_; subst f5_))
   refine hK.out _ _ (cellz_6 BK129.out) (fun hHeld => ?_)
   clear hK K
   refine nrm_ (some 4) (h := ?_)
   refine one_ (i := 2) (N := some 5) (tf 3 16) rfl rfl (one_of HT_.out (by kernel_rfl)) (by decide) (fun K hK => ?_)
   refine gs_ Try.func191 #[.agg #[.int .i64 a0_0, .int .i64 a0_1, .int .i64 a0_2, .slice A0_3 l0_3.length c0_3, .slice A0_4 l0_4.length c0_4, .int .i64 a0_5], .agg #[.int .i64 t130, .int .i64 t131, .int .i64 t132, .slice Ao19 t133.length co19, .slice Ao20 t136.length co20, .int .i64 t139]] (h := ?_)
   with_reducible refine (impl_Cmd_same.calls a0_0 a0_1 a0_2 _ _ l0_3 _ _ l0_4 a0_5 t130 t131 t132 _ _ t133 _ _ t136 t139 false _ ?side1 ?side2 ?side3 ?side4 ?side5 ?side6 ?side7 ?side8 A3.out).mono ?_
   (case side1 => exact kcb)
   (case side2 => exact HC0_3.out)
   (case side3 => exact kcb)
   (case side4 => exact HC0_4.out)
   (case side5 => repeat (first | exact (Kd.R_reads' HO135.out).2.2 | (with_reducible refine Kd.C_alloc ?_ _) | (with_reducible refine Kd.C_drewN ?_ _) | (with_reducible refine Kd.C_drew ?_)))
   (case side6 => exact (Kd.R_reads' HO135.out).2.1)
   (case side7 => repeat (first | exact (Kd.R_reads' HO138.out).2.2 | (with_reducible refine Kd.C_alloc ?_ _) | (with_reducible refine Kd.C_drewN ?_ _) | (with_reducible refine Kd.C_drew ?_)))
   (case side8 => exact (Kd.R_reads' HO138.out).2.1)
   rintro e w21 ⟨rfl, hb⟩
   refine ⟨_, rfl, ?_⟩
   replace HO135 := Aside0.mk (rbl HO135 hb)
   replace HO138 := Aside0.mk (rbl HO138 hb)
   replace BK129 := Aside0.mk (blb BK129 hb)
   replace HB := Aside0.mk (below_step bel hb)
   (try clear hb)
   (try clear hb2)
   (try clear hk)
   (try clear hi)
   refine hK.out _ _ (cellz_6 BK129.out) (fun hHeld => ?_)
   clear hK K
   refine nrm_ (some 5) (h := ?_)
   iterate 2 (refine pvn_ HT_ (h := ?_))
   refine tvn_ HT_ HW_ hHeld (h := ?_)
   refine one_ (i := 6) (N := some 9) (tf 7 12) rfl rfl (one_of HT_.out (by kernel_rfl)) (by decide) (fun K hK => ?_)
   refine gs_ Try.func81 #[.int .i64 a0_0, .int .i64 0, .int .i64 3] (h := ?_)
   with_reducible refine (impl_within.calls a0_0 0 3 true _ A11.out).mono ?_
   rintro e w' ⟨rfl, ⟨nd, rfl⟩⟩
   refine ⟨_, rfl, ?_⟩
   refine hK.out _ _ (cellz_6 BK129.out) (fun hHeld => ?_)
   clear hK K
   refine nrm_ (some 9) (h := ?_)
   iterate 2 (refine pvn_ HT_ (h := ?_))
   refine tvn_ HT_ HW_ hHeld (h := ?_)
   refine one_ (i := 10) (N := some 13) (tf 11 8) rfl rfl (one_of HT_.out (by kernel_rfl)) (by decide) (fun K hK => ?_)
   refine gs_ Try.func81 #[.int .i64 a0_1, .int .i64 1, .int .i64 1000000] (h := ?_)
   with_reducible refine (impl_within.calls a0_1 1 1000000 true _ A13.out).mono ?_
   rintro e w' ⟨rfl, ⟨nd, rfl⟩⟩
   refine ⟨_, rfl, ?_⟩
   refine hK.out _ _ (cellz_6 BK129.out) (fun hHeld => ?_)
   clear hK K
   refine nrm_ (some 13) (h := ?_)
   iterate 3 (refine pvn_ HT_ (h := ?_))
   refine tvn_ HT_ HW_ hHeld (h := ?_)
   refine one_ (i := 15) (N := some 18) (tf 16 3) rfl rfl (one_of HT_.out (by kernel_rfl)) (by decide) (fun K hK => ?_)
   refine gs_ Try.func193 #[.agg #[.int .i64 a0_2, .slice A0_3 l0_3.length c0_3, .slice A0_4 l0_4.length c0_4, .int .i64 a0_5]] (h := ?_)
   with_reducible refine (impl_OpOk.calls k a0_2 _ _ l0_3 _ _ l0_4 a0_5 t143 _ ?side1 ?side2 ?side3 ?side4 A15.out).mono ?_
   (case side1 => exact kcb)
   (case side2 => exact HC0_3.out)
   (case side3 => exact kcb)
   (case side4 => exact HC0_4.out)
   rintro e w22 ⟨rfl, hb⟩
   refine ⟨_, rfl, ?_⟩
   replace HO135 := Aside0.mk (rbl HO135 hb)
   replace HO138 := Aside0.mk (rbl HO138 hb)
   replace BK129 := Aside0.mk (blb BK129 hb)
   replace HB := Aside0.mk (below_step bel hb)
   (try clear hb)
   (try clear hb2)
   (try clear hk)
   (try clear hi)
   refine hK.out _ _ (cellz_6 BK129.out) (fun hHeld => ?_)
   clear hK K
   refine nrm_ (some 18) (h := ?_)
   iterate 3 (refine pvn_ HT_ (h := ?_))
   refine done_ (done_of HT_.out (by kernel_rfl)) ?_
   try go_wp2
   go_ret
   exact ⟨rz_, bel⟩
  replace c14 := Bool.eq_false_iff.mpr c14
  subst c14
  have H1 : (some false) = some r := by rw [if_neg (show ¬ (false = true) by decide)] at H; exact H
  clear H
  have H := H1
  clear H1
  obtain rfl := Option.some.inj H
  go_enter Try.func172, Try.ntmps172
  try go_wp2_with (first | ((with_reducible refine gate_dst (N := 1) rfl ?_); refine bx_ 1 #[.int .i64 a0_0, .int .i64 a0_1, .int .i64 a0_2, .slice A0_3 l0_3.length c0_3, .slice A0_4 l0_4.length c0_4, .int .i64 a0_5] 145 (h := ?_); intro gb129 hg w23 hbox hb; have BK129 := Aside0.mk (hbox); have GW129 := Aside0.mk ((by rw [hg]; exact (below_size bel) : w.heap.size ≤ gb129)); have GE129 := GW129; replace HB := Aside0.mk (below_step bel hb); clear hb hbox hg))
  replace BK129 := Aside0.mk (blk_drew BK129.out)
  replace HB := Aside0.mk (below_drew1 HB.out)
  refine start_ (n := 19) (S := fun w' => w'.cell? ⟨gb129, 0, none⟩ = some (.int .i64 a0_0) ∧ w'.cell? ⟨gb129, 1, none⟩ = some (.int .i64 a0_1) ∧ w'.cell? ⟨gb129, 2, none⟩ = some (.int .i64 a0_2) ∧ w'.cell? ⟨gb129, 3, none⟩ = some (.slice A0_3 l0_3.length c0_3) ∧ w'.cell? ⟨gb129, 4, none⟩ = some (.slice A0_4 l0_4.length c0_4) ∧ w'.cell? ⟨gb129, 5, none⟩ = some (.int .i64 a0_5)) (ds := []) (tf 0 19) (by kernel_rfl) rfl rfl (cellz_6 BK129.out) (fun hHeld => ?_); refine with_tabW impl_CmdOk.tab1 impl_CmdOk.bits1 (fun HT_ HW_ => ?_)
  generalize w23.drew = w24 at BK129 HB hHeld ⊢
  refine tvn_ HT_ HW_ hHeld (h := ?_)
  refine one_ (i := 1) (N := some 4) (tf 2 17) rfl rfl (one_of HT_.out (by kernel_rfl)) (by decide) (fun K hK => ?_)
  refine gs_ Try.func192 #[] (h := ?_)
  with_reducible refine (impl_noOp.calls  t130 t131 t132 t133 t136 t139 _ A2.out).mono ?_
  rintro e w25 ⟨v134, v137, rfl, ho0, ho1, hb⟩
  refine ⟨_, rfl, ?_⟩
  have HO135 := Aside0.mk (Kd.R_lower ho0 (below_size bel))
  have HO138 := Aside0.mk (Kd.R_lower ho1 (below_size bel))
  replace BK129 := Aside0.mk (blb BK129 hb)
  replace HB := Aside0.mk (below_step bel hb)
  (try clear hb)
  (try clear hb2)
  (try clear hk)
  (try clear hi)
  (try clear ho0)
  (try clear ho1)
  obtain ⟨Ao26, co26, eo26⟩ := Kd.R_slice HO135.out
  (first | subst eo26 | (injection eo26 with f1_ f2_ f3_; have f4_ := f1_.symm; have f5_ := f3_.symm; clear f1_ f2_ f3_; subst f4_; subst f5_))
  obtain ⟨Ao27, co27, eo27⟩ := Kd.R_slice HO138.out
  (first | subst eo27 | (injection eo27 with f1_ f2_ f3_; have f4_ := f1_.symm; have f5_ := f3_.symm; clear f1_ f2_ f3_; subst f4_; subst f5_))
  refine hK.out _ _ (cellz_6 BK129.out) (fun hHeld => ?_)
  clear hK K
  refine nrm_ (some 4) (h := ?_)
  refine one_ (i := 2) (N := some 5) (tf 3 16) rfl rfl (one_of HT_.out (by kernel_rfl)) (by decide) (fun K hK => ?_)
  refine gs_ Try.func191 #[.agg #[.int .i64 a0_0, .int .i64 a0_1, .int .i64 a0_2, .slice A0_3 l0_3.length c0_3, .slice A0_4 l0_4.length c0_4, .int .i64 a0_5], .agg #[.int .i64 t130, .int .i64 t131, .int .i64 t132, .slice Ao26 t133.length co26, .slice Ao27 t136.length co27, .int .i64 t139]] (h := ?_)
  with_reducible refine (impl_Cmd_same.calls a0_0 a0_1 a0_2 _ _ l0_3 _ _ l0_4 a0_5 t130 t131 t132 _ _ t133 _ _ t136 t139 false _ ?side1 ?side2 ?side3 ?side4 ?side5 ?side6 ?side7 ?side8 A3.out).mono ?_
  (case side1 => exact kcb)
  (case side2 => exact HC0_3.out)
  (case side3 => exact kcb)
  (case side4 => exact HC0_4.out)
  (case side5 => repeat (first | exact (Kd.R_reads' HO135.out).2.2 | (with_reducible refine Kd.C_alloc ?_ _) | (with_reducible refine Kd.C_drewN ?_ _) | (with_reducible refine Kd.C_drew ?_)))
  (case side6 => exact (Kd.R_reads' HO135.out).2.1)
  (case side7 => repeat (first | exact (Kd.R_reads' HO138.out).2.2 | (with_reducible refine Kd.C_alloc ?_ _) | (with_reducible refine Kd.C_drewN ?_ _) | (with_reducible refine Kd.C_drew ?_)))
  (case side8 => exact (Kd.R_reads' HO138.out).2.1)
  rintro e w28 ⟨rfl, hb⟩
  refine ⟨_, rfl, ?_⟩
  replace HO135 := Aside0.mk (rbl HO135 hb)
  replace HO138 := Aside0.mk (rbl HO138 hb)
  replace BK129 := Aside0.mk (blb BK129 hb)
  replace HB := Aside0.mk (below_step bel hb)
  (try clear hb)
  (try clear hb2)
  (try clear hk)
  (try clear hi)
  refine hK.out _ _ (cellz_6 BK129.out) (fun hHeld => ?_)
  clear hK K
  refine nrm_ (some 5) (h := ?_)
  iterate 2 (refine pvn_ HT_ (h := ?_))
  refine tvn_ HT_ HW_ hHeld (h := ?_)
  refine one_ (i := 6) (N := some 9) (tf 7 12) rfl rfl (one_of HT_.out (by kernel_rfl)) (by decide) (fun K hK => ?_)
  refine gs_ Try.func81 #[.int .i64 a0_0, .int .i64 0, .int .i64 3] (h := ?_)
  with_reducible refine (impl_within.calls a0_0 0 3 true _ A11.out).mono ?_
  rintro e w' ⟨rfl, ⟨nd, rfl⟩⟩
  refine ⟨_, rfl, ?_⟩
  refine hK.out _ _ (cellz_6 BK129.out) (fun hHeld => ?_)
  clear hK K
  refine nrm_ (some 9) (h := ?_)
  iterate 2 (refine pvn_ HT_ (h := ?_))
  refine tvn_ HT_ HW_ hHeld (h := ?_)
  refine one_ (i := 10) (N := some 13) (tf 11 8) rfl rfl (one_of HT_.out (by kernel_rfl)) (by decide) (fun K hK => ?_)
  refine gs_ Try.func81 #[.int .i64 a0_1, .int .i64 1, .int .i64 1000000] (h := ?_)
  with_reducible refine (impl_within.calls a0_1 1 1000000 false _ A13.out).mono ?_
  rintro e w' ⟨rfl, ⟨nd, rfl⟩⟩
  refine ⟨_, rfl, ?_⟩
  refine hK.out _ _ (cellz_6 BK129.out) (fun hHeld => ?_)
  clear hK K
  refine nrm_ (some 13) (h := ?_)
  iterate 2 (refine pvn_ HT_ (h := ?_))
  refine puns_ HT_ 3 [some _, some _, some _] (h := ?_)
  iterate 3 (refine pvn_ HT_ (h := ?_))
  refine done_ (done_of HT_.out (by kernel_rfl)) ?_
  try go_wp2
  go_ret
  exact ⟨rz_, bel⟩
 replace c12 := Bool.eq_false_iff.mpr c12
 subst c12
 have H1 : (some false) = some r := by rw [if_neg (show ¬ (false = true) by decide)] at H; exact H
 clear H
 have H := H1
 clear H1
 obtain rfl := Option.some.inj H
 go_enter Try.func172, Try.ntmps172
 try go_wp2_with (first | ((with_reducible refine gate_dst (N := 1) rfl ?_); refine bx_ 1 #[.int .i64 a0_0, .int .i64 a0_1, .int .i64 a0_2, .slice A0_3 l0_3.length c0_3, .slice A0_4 l0_4.length c0_4, .int .i64 a0_5] 145 (h := ?_); intro gb129 hg w29 hbox hb; have BK129 := Aside0.mk (hbox); have GW129 := Aside0.mk ((by rw [hg]; exact (below_size bel) : w.heap.size ≤ gb129)); have GE129 := GW129; replace HB := Aside0.mk (below_step bel hb); clear hb hbox hg))
 replace BK129 := Aside0.mk (blk_drew BK129.out)
 replace HB := Aside0.mk (below_drew1 HB.out)
 refine start_ (n := 19) (S := fun w' => w'.cell? ⟨gb129, 0, none⟩ = some (.int .i64 a0_0) ∧ w'.cell? ⟨gb129, 1, none⟩ = some (.int .i64 a0_1) ∧ w'.cell? ⟨gb129, 2, none⟩ = some (.int .i64 a0_2) ∧ w'.cell? ⟨gb129, 3, none⟩ = some (.slice A0_3 l0_3.length c0_3) ∧ w'.cell? ⟨gb129, 4, none⟩ = some (.slice A0_4 l0_4.length c0_4) ∧ w'.cell? ⟨gb129, 5, none⟩ = some (.int .i64 a0_5)) (ds := []) (tf 0 19) (by kernel_rfl) rfl rfl (cellz_6 BK129.out) (fun hHeld => ?_); refine with_tabW impl_CmdOk.tab1 impl_CmdOk.bits1 (fun HT_ HW_ => ?_)
 generalize w29.drew = w30 at BK129 HB hHeld ⊢
 refine tvn_ HT_ HW_ hHeld (h := ?_)
 refine one_ (i := 1) (N := some 4) (tf 2 17) rfl rfl (one_of HT_.out (by kernel_rfl)) (by decide) (fun K hK => ?_)
 refine gs_ Try.func192 #[] (h := ?_)
 with_reducible refine (impl_noOp.calls  t130 t131 t132 t133 t136 t139 _ A2.out).mono ?_
 rintro e w31 ⟨v134, v137, rfl, ho0, ho1, hb⟩
 refine ⟨_, rfl, ?_⟩
 have HO135 := Aside0.mk (Kd.R_lower ho0 (below_size bel))
 have HO138 := Aside0.mk (Kd.R_lower ho1 (below_size bel))
 replace BK129 := Aside0.mk (blb BK129 hb)
 replace HB := Aside0.mk (below_step bel hb)
 (try clear hb)
 (try clear hb2)
 (try clear hk)
 (try clear hi)
 (try clear ho0)
 (try clear ho1)
 obtain ⟨Ao32, co32, eo32⟩ := Kd.R_slice HO135.out
 (first | subst eo32 | (injection eo32 with f1_ f2_ f3_; have f4_ := f1_.symm; have f5_ := f3_.symm; clear f1_ f2_ f3_; subst f4_; subst f5_))
 obtain ⟨Ao33, co33, eo33⟩ := Kd.R_slice HO138.out
 (first | subst eo33 | (injection eo33 with f1_ f2_ f3_; have f4_ := f1_.symm; have f5_ := f3_.symm; clear f1_ f2_ f3_; subst f4_; subst f5_))
 refine hK.out _ _ (cellz_6 BK129.out) (fun hHeld => ?_)
 clear hK K
 refine nrm_ (some 4) (h := ?_)
 refine one_ (i := 2) (N := some 5) (tf 3 16) rfl rfl (one_of HT_.out (by kernel_rfl)) (by decide) (fun K hK => ?_)
 refine gs_ Try.func191 #[.agg #[.int .i64 a0_0, .int .i64 a0_1, .int .i64 a0_2, .slice A0_3 l0_3.length c0_3, .slice A0_4 l0_4.length c0_4, .int .i64 a0_5], .agg #[.int .i64 t130, .int .i64 t131, .int .i64 t132, .slice Ao32 t133.length co32, .slice Ao33 t136.length co33, .int .i64 t139]] (h := ?_)
 with_reducible refine (impl_Cmd_same.calls a0_0 a0_1 a0_2 _ _ l0_3 _ _ l0_4 a0_5 t130 t131 t132 _ _ t133 _ _ t136 t139 false _ ?side1 ?side2 ?side3 ?side4 ?side5 ?side6 ?side7 ?side8 A3.out).mono ?_
 (case side1 => exact kcb)
 (case side2 => exact HC0_3.out)
 (case side3 => exact kcb)
 (case side4 => exact HC0_4.out)
 (case side5 => repeat (first | exact (Kd.R_reads' HO135.out).2.2 | (with_reducible refine Kd.C_alloc ?_ _) | (with_reducible refine Kd.C_drewN ?_ _) | (with_reducible refine Kd.C_drew ?_)))
 (case side6 => exact (Kd.R_reads' HO135.out).2.1)
 (case side7 => repeat (first | exact (Kd.R_reads' HO138.out).2.2 | (with_reducible refine Kd.C_alloc ?_ _) | (with_reducible refine Kd.C_drewN ?_ _) | (with_reducible refine Kd.C_drew ?_)))
 (case side8 => exact (Kd.R_reads' HO138.out).2.1)
 rintro e w34 ⟨rfl, hb⟩
 refine ⟨_, rfl, ?_⟩
 replace HO135 := Aside0.mk (rbl HO135 hb)
 replace HO138 := Aside0.mk (rbl HO138 hb)
 replace BK129 := Aside0.mk (blb BK129 hb)
 replace HB := Aside0.mk (below_step bel hb)
 (try clear hb)
 (try clear hb2)
 (try clear hk)
 (try clear hi)
 refine hK.out _ _ (cellz_6 BK129.out) (fun hHeld => ?_)
 clear hK K
 refine nrm_ (some 5) (h := ?_)
 iterate 2 (refine pvn_ HT_ (h := ?_))
 refine tvn_ HT_ HW_ hHeld (h := ?_)
 refine one_ (i := 6) (N := some 9) (tf 7 12) rfl rfl (one_of HT_.out (by kernel_rfl)) (by decide) (fun K hK => ?_)
 refine gs_ Try.func81 #[.int .i64 a0_0, .int .i64 0, .int .i64 3] (h := ?_)
 with_reducible refine (impl_within.calls a0_0 0 3 false _ A11.out).mono ?_
 rintro e w' ⟨rfl, ⟨nd, rfl⟩⟩
 refine ⟨_, rfl, ?_⟩
 refine hK.out _ _ (cellz_6 BK129.out) (fun hHeld => ?_)
 clear hK K
 refine nrm_ (some 9) (h := ?_)
 refine pvn_ HT_ (h := ?_)
 refine puns_ HT_ 3 [some _, some _, some _] (h := ?_)
 iterate 2 (refine pvn_ HT_ (h := ?_))
 refine puns_ HT_ 3 [some _, some _, some _] (h := ?_)
 iterate 3 (refine pvn_ HT_ (h := ?_))
 refine done_ (done_of HT_.out (by kernel_rfl)) ?_
 try go_wp2
 go_ret
 exact ⟨rz_, bel⟩

/-! ### impl_ItemOk: function 112 -/
def impl_ItemOk.f (k : Nat) (a0_0 : Int) (a0_1 : Int) (a0_2 : Int) (a0_3 : Int) (l0_4 : List Int) (l0_5 : List Int) (a0_6 : Int) : Option (Bool) := (impl_isTerm.f a0_0).bind fun t145 => (if t145 = true then ((impl_CmdOk.f k a0_1 a0_2 a0_3 l0_4 l0_5 a0_6).bind fun t146 => (some t146)) else (some false))
set_option maxHeartbeats 8000000 in
set_option maxRecDepth 100000 in
theorem impl_ItemOk.calls (k : Nat) (a0_0 : Int) (a0_1 : Int) (a0_2 : Int) (a0_3 : Int) (A0_4 : Option Addr) (c0_4 : Nat) (l0_4 : List Int) (A0_5 : Option Addr) (c0_5 : Nat) (l0_5 : List Int) (a0_6 : Int) (r : Bool) (w : World) (hr0_4 : Kd.C (Kd.int .u8) w A0_4 l0_4.length l0_4) (hc0_4 : l0_4.length ≤ c0_4) (hr0_5 : Kd.C (Kd.int .u8) w A0_5 l0_5.length l0_5) (hc0_5 : l0_5.length ≤ c0_5) (h : impl_ItemOk.f k a0_0 a0_1 a0_2 a0_3 l0_4 l0_5 a0_6 = some r) :
  Calls Try.prog 112 #[.agg #[.int .i64 a0_0, .int .i64 a0_1, .int .i64 a0_2, .int .i64 a0_3, .slice A0_4 l0_4.length c0_4, .slice A0_5 l0_5.length c0_5, .int .i64 a0_6]] w fun e w' => e = .returned (.bool r) ∧ Below w.heap.size w w' := by
 have hu147 := Try.underlying147
 have hu145 := Try.underlying145
 have HR0_4 := Aside0.mk hr0_4
 have HC0_4 := Aside0.mk hc0_4
 clear hr0_4 hc0_4
 have HR0_5 := Aside0.mk hr0_5
 have HC0_5 := Aside0.mk hc0_5
 clear hr0_5 hc0_5
 have HB := Aside0.mk (Below.refl w.heap.size w)
 have H : ((impl_isTerm.f a0_0).bind fun t145 => (if t145 = true then ((impl_CmdOk.f k a0_1 a0_2 a0_3 l0_4 l0_5 a0_6).bind fun t146 => (some t146)) else (some false))) = some r := h
 clear h
 replace H := Option.bind_eq_some_iff.mp H
 obtain ⟨t145, A20, H⟩ := H
 replace H : (if t145 = true then ((impl_CmdOk.f k a0_1 a0_2 a0_3 l0_4 l0_5 a0_6).bind fun t146 => (some t146)) else (some false)) = some r := H
 have A2 := Aside0.mk A20
 clear A20
 by_cases c3 : t145 = true
 ·subst c3
  have H1 : ((impl_CmdOk.f k a0_1 a0_2 a0_3 l0_4 l0_5 a0_6).bind fun t146 => (some t146)) = some r := by rw [if_pos rfl] at H; exact H
  clear H
  have H := H1
  clear H1
  replace H := Option.bind_eq_some_iff.mp H
  obtain ⟨t146, A40, H⟩ := H
  replace H : (some t146) = some r := H
  have A4 := Aside0.mk A40
  clear A40
  obtain rfl := Option.some.inj H
  go_enter Try.func112, Try.ntmps112
  go_wp2_with (first | ((with_reducible refine gate_dst (N := 1) rfl ?_); refine bx_ 1 #[.int .i64 a0_0, .int .i64 a0_1, .int .i64 a0_2, .int .i64 a0_3, .slice A0_4 l0_4.length c0_4, .slice A0_5 l0_5.length c0_5, .int .i64 a0_6] 147 (h := ?_); intro gb144 hg w5 hbox hb; have BK144 := Aside0.mk (hbox); have GW144 := Aside0.mk ((by rw [hg]; exact (below_size bel) : w.heap.size ≤ gb144)); have GE144 := GW144; replace HB := Aside0.mk (below_step bel hb); clear hb hbox hg; obtain ⟨hcz6_0, hcz6_1, hcz6_2, hcz6_3, hcz6_4, hcz6_5, hcz6_6, -⟩ := cells_7 BK144.out trivial; obtain ⟨hfz6_0, hfz6_1, hfz6_2, hfz6_3, hfz6_4, hfz6_5, hfz6_6, -⟩ := frz_7 BK144.out) | ((with_reducible refine gate_callee (f := 111) rfl ?_); refine gl_ (some 5) Try.func111 #[.int .i64 a0_0] (h := ?_); (with_reducible refine (impl_isTerm.calls a0_0 true _ A2.out).mono ?_); rintro e w' ⟨rfl, ⟨nd, rfl⟩⟩; refine ⟨_, rfl, ?_⟩) | (go_at_call 172; (with_reducible refine (impl_CmdOk.calls k a0_1 a0_2 a0_3 _ _ l0_4 _ _ l0_5 a0_6 t146 _ ?side1 ?side2 ?side3 ?side4 A4.out).mono ?_); (case side1 => exact kcb); (case side2 => exact HC0_4.out); (case side3 => exact kcb); (case side4 => exact HC0_5.out); rintro e w7 ⟨rfl, hb⟩; replace BK144 := Aside0.mk (blb BK144 hb); replace HB := Aside0.mk (below_step bel hb); (try clear hb); (try clear hb2); (try clear hk); (try clear hi)))
  go_ret
  exact ⟨rz_, bel⟩
 replace c3 := Bool.eq_false_iff.mpr c3
 subst c3
 have H1 : (some false) = some r := by rw [if_neg (show ¬ (false = true) by decide)] at H; exact H
 clear H
 have H := H1
 clear H1
 obtain rfl := Option.some.inj H
 go_enter Try.func112, Try.ntmps112
 go_wp2_with (first | ((with_reducible refine gate_dst (N := 1) rfl ?_); refine bx_ 1 #[.int .i64 a0_0, .int .i64 a0_1, .int .i64 a0_2, .int .i64 a0_3, .slice A0_4 l0_4.length c0_4, .slice A0_5 l0_5.length c0_5, .int .i64 a0_6] 147 (h := ?_); intro gb144 hg w8 hbox hb; have BK144 := Aside0.mk (hbox); have GW144 := Aside0.mk ((by rw [hg]; exact (below_size bel) : w.heap.size ≤ gb144)); have GE144 := GW144; replace HB := Aside0.mk (below_step bel hb); clear hb hbox hg; obtain ⟨hcz9_0, hcz9_1, hcz9_2, hcz9_3, hcz9_4, hcz9_5, hcz9_6, -⟩ := cells_7 BK144.out trivial; obtain ⟨hfz9_0, hfz9_1, hfz9_2, hfz9_3, hfz9_4, hfz9_5, hfz9_6, -⟩ := frz_7 BK144.out) | ((with_reducible refine gate_callee (f := 111) rfl ?_); refine gl_ (some 5) Try.func111 #[.int .i64 a0_0] (h := ?_); (with_reducible refine (impl_isTerm.calls a0_0 false _ A2.out).mono ?_); rintro e w' ⟨rfl, ⟨nd, rfl⟩⟩; refine ⟨_, rfl, ?_⟩))
 go_ret
 exact ⟨rz_, bel⟩

end Go.Proofs.Ytdgegnakiljfjaa.PM
