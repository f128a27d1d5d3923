-- Written for this claim by the session's program pp.py, out of the kit's print and the seat's translation.
import Derived.Test.YtdgegnakiljfjaaPWx0
import Derived.Test.YtdgegnakiljfjaaPWx6
import Derived.Test.YtdgegnakiljfjaaPWx7
namespace Go.Proofs.Ytdgegnakiljfjaa.PW
open Go.RowKit Go.Proofs.YtdgegnakiljfjaaW.PrintWords Go.Proofs.YtdgegnakiljfjaaW.PrintLast Go.Proofs.YtdgegnakiljfjaaW.PrintMore
attribute [local go_sem] max2_int min2_int max_two min_two max_three min_three max_four min_four   -- for this text's walks alone
set_option linter.unusedVariables false
set_option linter.unusedSimpArgs false

/-! ### impl_CmdOk: function 172 -/
def impl_CmdOk.f (k : Nat) (a0_0 : Int) (a0_1 : Int) (a0_2 : Int) (l0_3 : List Int) (l0_4 : List Int) (a0_5 : Int) : Option (Bool) := (impl_noOp.f).bind fun bt254 => ((impl_Cmd_same.f a0_0 a0_1 a0_2 l0_3 l0_4 a0_5 bt254.1 bt254.2.1 bt254.2.2.1 bt254.2.2.2.1 bt254.2.2.2.2.1 bt254.2.2.2.2.2).bind fun t264 => (if t264 = true then (some true) else ((impl_within.f a0_0 0 3).bind fun t265 => (if t265 = true then ((impl_within.f a0_1 1 1000000).bind fun t266 => (if t266 = true then ((impl_OpOk.f k a0_2 l0_3 l0_4 a0_5).bind fun t267 => (some t267)) else (some false))) else (some false)))))
def impl_CmdOk.T1 : Bool × List (List Nat × List Nat) := (true, [([], []), ([], []), ([0, 1, 1], [0, 1]), ([2, 2], [2]), ([3], [3]), ([4, 3], [3, 4]), ([5, 3, 3], [3, 5]), ([6, 6, 3], [3, 6]), ([7], [7]), ([8, 7], [7, 8]), ([9, 7, 7], [7, 9]), ([7, 10, 3], [3, 7, 10]), ([11, 10, 3], [3, 11]), ([12], [12]), ([13, 12], [12, 13]), ([14, 12, 12], [12, 14]), ([12, 15, 3], [3, 12, 15]), ([3, 16], [3, 16]), ([17, 15, 0, 1, 2, 3, 4, 5, 6, 7, 8, 9, 10, 11, 12, 13, 14, 15, 16, 17], [17])])
def impl_CmdOk.B1 : List Nat := [0, 0, 3, 7, 15, 31, 63, 127, 255, 511, 1023, 2047, 4095, 8191, 16383, 32767, 65535, 131071, 262143]
theorem impl_CmdOk.tab1 : rtab .any (opsOf Try.f172 1) = impl_CmdOk.T1 := by kernel_rfl
theorem impl_CmdOk.bits1 : waitsOk impl_CmdOk.T1.2 impl_CmdOk.B1 = true := by kernel_rfl
set_option maxHeartbeats 8000000 in
set_option maxRecDepth 100000 in
theorem impl_CmdOk.calls (k : Nat) (a0_0 : Int) (a0_1 : Int) (a0_2 : Int) (A0_3 : Option Addr) (c0_3 : Nat) (l0_3 : List Int) (A0_4 : Option Addr) (c0_4 : Nat) (l0_4 : List Int) (a0_5 : Int) (r : Bool) (w : World) (hr0_3 : Kd.C (Kd.int .u8) w A0_3 l0_3.length l0_3) (hc0_3 : l0_3.length ≤ c0_3) (hr0_4 : Kd.C (Kd.int .u8) w A0_4 l0_4.length l0_4) (hc0_4 : l0_4.length ≤ c0_4) (h : impl_CmdOk.f k a0_0 a0_1 a0_2 l0_3 l0_4 a0_5 = some r) :
  Calls Try.prog 172 #[.agg #[.int .i64 a0_0, .int .i64 a0_1, .int .i64 a0_2, .slice A0_3 l0_3.length c0_3, .slice A0_4 l0_4.length c0_4, .int .i64 a0_5]] w fun e w' => e = .returned (.bool r) ∧ Below w.heap.size w w' := by
 have hu145 := Try.underlying145
 have hu143 := Try.underlying143
 have HR0_3 := Aside0.mk hr0_3
 have HC0_3 := Aside0.mk hc0_3
 clear hr0_3 hc0_3
 have HR0_4 := Aside0.mk hr0_4
 have HC0_4 := Aside0.mk hc0_4
 clear hr0_4 hc0_4
 have HB := Aside0.mk (Below.refl w.heap.size w)
 have H : ((impl_noOp.f).bind fun bt254 => ((impl_Cmd_same.f a0_0 a0_1 a0_2 l0_3 l0_4 a0_5 bt254.1 bt254.2.1 bt254.2.2.1 bt254.2.2.2.1 bt254.2.2.2.2.1 bt254.2.2.2.2.2).bind fun t264 => (if t264 = true then (some true) else ((impl_within.f a0_0 0 3).bind fun t265 => (if t265 = true then ((impl_within.f a0_1 1 1000000).bind fun t266 => (if t266 = true then ((impl_OpOk.f k a0_2 l0_3 l0_4 a0_5).bind fun t267 => (some t267)) else (some false))) else (some false)))))) = some r := h
 clear h
 replace H := Option.bind_eq_some_iff.mp H
 obtain ⟨⟨t254, t255, t256, t257, t260, t263⟩, A20, H⟩ := H
 replace H : ((impl_Cmd_same.f a0_0 a0_1 a0_2 l0_3 l0_4 a0_5 t254 t255 t256 t257 t260 t263).bind fun t264 => (if t264 = true then (some true) else ((impl_within.f a0_0 0 3).bind fun t265 => (if t265 = true then ((impl_within.f a0_1 1 1000000).bind fun t266 => (if t266 = true then ((impl_OpOk.f k a0_2 l0_3 l0_4 a0_5).bind fun t267 => (some t267)) else (some false))) else (some false))))) = some r := H
 have A2 := Aside0.mk A20
 clear A20
 replace H := Option.bind_eq_some_iff.mp H
 obtain ⟨t264, A30, H⟩ := H
 replace H : (if t264 = true then (some true) else ((impl_within.f a0_0 0 3).bind fun t265 => (if t265 = true then ((impl_within.f a0_1 1 1000000).bind fun t266 => (if t266 = true then ((impl_OpOk.f k a0_2 l0_3 l0_4 a0_5).bind fun t267 => (some t267)) else (some false))) else (some false)))) = some r := H
 have A3 := Aside0.mk A30
 clear A30
 by_cases c4 : t264 = true
 ·subst c4
  have H1 : (some true) = some r := by rw [if_pos rfl] at H; exact H
  clear H
  have H := H1
  clear H1
  obtain rfl := Option.some.inj H
  go_enter Try.func172, Try.ntmps172
  try go_wp2_with (first | ((with_reducible refine gate_dst (N := 1) rfl ?_); refine bx_ 1 #[.int .i64 a0_0, .int .i64 a0_1, .int .i64 a0_2, .slice A0_3 l0_3.length c0_3, .slice A0_4 l0_4.length c0_4, .int .i64 a0_5] 145 (h := ?_); intro gb253 hg w5 hbox hb; have BK253 := Aside0.mk (hbox); have GW253 := Aside0.mk ((by rw [hg]; exact (below_size bel) : w.heap.size ≤ gb253)); have GE253 := Aside0.mk ((by rw [hg]; exact (below_size bel) : w.heap.size ≤ gb253)); replace HB := Aside0.mk (below_step bel hb); clear hb hbox hg))
  replace BK253 := Aside0.mk (blk_drew BK253.out)
  replace HB := Aside0.mk (below_drew1 HB.out)
  refine start_ (n := 19) (S := fun w' => w'.cell? ⟨gb253, 0, none⟩ = some (.int .i64 a0_0) ∧ w'.cell? ⟨gb253, 1, none⟩ = some (.int .i64 a0_1) ∧ w'.cell? ⟨gb253, 2, none⟩ = some (.int .i64 a0_2) ∧ w'.cell? ⟨gb253, 3, none⟩ = some (.slice A0_3 l0_3.length c0_3) ∧ w'.cell? ⟨gb253, 4, none⟩ = some (.slice A0_4 l0_4.length c0_4) ∧ w'.cell? ⟨gb253, 5, none⟩ = some (.int .i64 a0_5)) (ds := []) (tf 0 19) (by kernel_rfl) rfl rfl (cellz_6 BK253.out) (fun hHeld => ?_); refine with_tabW impl_CmdOk.tab1 impl_CmdOk.bits1 (fun HT_ HW_ => ?_)
  generalize w5.drew = w6 at BK253 HB hHeld ⊢
  refine tv_ HT_ HW_ hHeld 0 (some 3) (tf 1 18) (h := ?_)
  refine one_ (i := 1) (N := some 4) (tf 2 17) rfl rfl (one_of HT_.out (by kernel_rfl)) (by decide) (fun K hK => ?_)
  refine gs_ Try.func192 #[] (h := ?_)
  with_reducible refine (impl_noOp.calls  t254 t255 t256 t257 t260 t263 _ A2.out).mono ?_
  rintro e w7 ⟨v258, v261, rfl, ho0, ho1, hb⟩
  refine ⟨_, rfl, ?_⟩
  have HO259 := Aside0.mk (Kd.R_lower ho0 (below_size bel))
  have HO262 := Aside0.mk (Kd.R_lower ho1 (below_size bel))
  replace BK253 := Aside0.mk (blb BK253 hb)
  replace HB := Aside0.mk (below_step bel hb)
  (try clear hb)
  (try clear hb2)
  (try clear hk)
  (try clear hi)
  (try clear ho0)
  (try clear ho1)
  obtain ⟨Ao8, co8, eo8⟩ := Kd.R_slice HO259.out
  (first | subst eo8 | (injection eo8 with f1_ f2_ f3_; have f4_ := f1_.symm; have f5_ := f3_.symm; clear f1_ f2_ f3_; subst f4_; subst f5_))
  obtain ⟨Ao9, co9, eo9⟩ := Kd.R_slice HO262.out
  (first | subst eo9 | (injection eo9 with f1_ f2_ f3_; have f4_ := f1_.symm; have f5_ := f3_.symm; clear f1_ f2_ f3_; subst f4_; subst f5_))
  refine hK.out _ _ (cellz_6 BK253.out) (fun hHeld => ?_)
  clear hK K
  refine norm_ (a' := ?_) ?_ ?_
  rotate_left
  ·show Act.put _ (some 4) _ = _
   simp only [Act.put, List.setIfInBounds_toArray, List.set_cons_zero, List.set_cons_succ, i64_w, i32_w]
   rfl
  refine one_ (i := 2) (N := some 5) (tf 3 16) rfl rfl (one_of HT_.out (by kernel_rfl)) (by decide) (fun K hK => ?_)
  refine gs_ Try.func191 #[.agg #[.int .i64 a0_0, .int .i64 a0_1, .int .i64 a0_2, .slice A0_3 l0_3.length c0_3, .slice A0_4 l0_4.length c0_4, .int .i64 a0_5], .agg #[.int .i64 t254, .int .i64 t255, .int .i64 t256, .slice Ao8 t257.length co8, .slice Ao9 t260.length co9, .int .i64 t263]] (h := ?_)
  with_reducible refine (impl_Cmd_same.calls a0_0 a0_1 a0_2 _ _ l0_3 _ _ l0_4 a0_5 t254 t255 t256 _ _ t257 _ _ t260 t263 true _ ?side1 ?side2 ?side3 ?side4 ?side5 ?side6 ?side7 ?side8 A3.out).mono ?_
  (case side1 => exact kcb)
  (case side2 => exact HC0_3.out)
  (case side3 => exact kcb)
  (case side4 => exact HC0_4.out)
  (case side5 => repeat (first | exact (Kd.R_reads' HO259.out).2.2 | (with_reducible refine Kd.C_alloc ?_ _) | (with_reducible refine Kd.C_drewN ?_ _) | (with_reducible refine Kd.C_drew ?_)))
  (case side6 => exact (Kd.R_reads' HO259.out).2.1)
  (case side7 => repeat (first | exact (Kd.R_reads' HO262.out).2.2 | (with_reducible refine Kd.C_alloc ?_ _) | (with_reducible refine Kd.C_drewN ?_ _) | (with_reducible refine Kd.C_drew ?_)))
  (case side8 => exact (Kd.R_reads' HO262.out).2.1)
  rintro e w10 ⟨rfl, hb⟩
  refine ⟨_, rfl, ?_⟩
  replace HO259 := Aside0.mk (rbl HO259 hb)
  replace HO262 := Aside0.mk (rbl HO262 hb)
  replace BK253 := Aside0.mk (blb BK253 hb)
  replace HB := Aside0.mk (below_step bel hb)
  (try clear hb)
  (try clear hb2)
  (try clear hk)
  (try clear hi)
  refine hK.out _ _ (cellz_6 BK253.out) (fun hHeld => ?_)
  clear hK K
  refine norm_ (a' := ?_) ?_ ?_
  rotate_left
  ·show Act.put _ (some 5) _ = _
   simp only [Act.put, List.setIfInBounds_toArray, List.set_cons_zero, List.set_cons_succ, i64_w, i32_w]
   rfl
  refine pv_ HT_ 3 (some 6) (tf 4 15) (h := ?_)
  refine pu_ HT_ 4 (some 7) (tf 5 14) (h := ?_)
  refine pu_ HT_ 5 (some 8) (tf 6 13) (h := ?_)
  refine pu_ HT_ 6 (some 9) (tf 7 12) (h := ?_)
  refine pu_ HT_ 7 (some 10) (tf 8 11) (h := ?_)
  refine pu_ HT_ 8 (some 11) (tf 9 10) (h := ?_)
  refine pu_ HT_ 9 (some 12) (tf 10 9) (h := ?_)
  refine pu_ HT_ 10 (some 13) (tf 11 8) (h := ?_)
  refine pu_ HT_ 11 (some 14) (tf 12 7) (h := ?_)
  refine pu_ HT_ 12 (some 15) (tf 13 6) (h := ?_)
  refine pu_ HT_ 13 (some 16) (tf 14 5) (h := ?_)
  refine pu_ HT_ 14 (some 17) (tf 15 4) (h := ?_)
  refine pu_ HT_ 15 (some 18) (tf 16 3) (h := ?_)
  refine pu_ HT_ 16 (some 19) (tf 17 2) (h := ?_)
  refine pv_ HT_ 17 (some 20) (tf 18 1) (h := ?_)
  refine pv_ HT_ 18 (some 2) (tf 19 0) (h := ?_)
  refine done_ (done_of HT_.out (by kernel_rfl)) ?_
  try go_wp2
  go_ret
  exact ⟨by first | rfl | (simp [errW_none, errW_some] <;> rfl) | (simp [*, errW_none, errW_some] <;> rfl), by repeat (first | (with_reducible first | exact HB.out | apply below_alloc | apply pw_below_drewN | apply below_drew1 | refine below_set ?_ GE253.out) | exact HB.out)⟩
 ·replace c4 := Bool.eq_false_iff.mpr c4
  subst c4
  have H1 : ((impl_within.f a0_0 0 3).bind fun t265 => (if t265 = true then ((impl_within.f a0_1 1 1000000).bind fun t266 => (if t266 = true then ((impl_OpOk.f k a0_2 l0_3 l0_4 a0_5).bind fun t267 => (some t267)) else (some false))) else (some false))) = some r := by rw [if_neg (show ¬ (false = true) by decide)] at H; exact H
  clear H
  have H := H1
  clear H1
  replace H := Option.bind_eq_some_iff.mp H
  obtain ⟨t265, A110, H⟩ := H
  replace H : (if t265 = true then ((impl_within.f a0_1 1 1000000).bind fun t266 => (if t266 = true then ((impl_OpOk.f k a0_2 l0_3 l0_4 a0_5).bind fun t267 => (some t267)) else (some false))) else (some false)) = some r := H
  have A11 := Aside0.mk A110
  clear A110
  by_cases c12 : t265 = true
  ·subst c12
   have H1 : ((impl_within.f a0_1 1 1000000).bind fun t266 => (if t266 = true then ((impl_OpOk.f k a0_2 l0_3 l0_4 a0_5).bind fun t267 => (some t267)) else (some false))) = some r := by rw [if_pos rfl] at H; exact H
   clear H
   have H := H1
   clear H1
   replace H := Option.bind_eq_some_iff.mp H
   obtain ⟨t266, A130, H⟩ := H
   replace H : (if t266 = true then ((impl_OpOk.f k a0_2 l0_3 l0_4 a0_5).bind fun t267 => (some t267)) else (some false)) = some r := H
   have A13 := Aside0.mk A130
   clear A130
   by_cases c14 : t266 = true
   ·subst c14
    have H1 : ((impl_OpOk.f k a0_2 l0_3 l0_4 a0_5).bind fun t267 => (some t267)) = some r := by rw [if_pos rfl] at H; exact H
    clear H
    have H := H1
    clear H1
    replace H := Option.bind_eq_some_iff.mp H
    obtain ⟨t267, A150, H⟩ := H
    replace H : (some t267) = some r := H
    have A15 := Aside0.mk A150
    clear A150
    obtain rfl := Option.some.inj H
    go_enter Try.func172, Try.ntmps172
    try go_wp2_with (first | ((with_reducible refine gate_dst (N := 1) rfl ?_); refine bx_ 1 #[.int .i64 a0_0, .int .i64 a0_1, .int .i64 a0_2, .slice A0_3 l0_3.length c0_3, .slice A0_4 l0_4.length c0_4, .int .i64 a0_5] 145 (h := ?_); intro gb253 hg w16 hbox hb; have BK253 := Aside0.mk (hbox); have GW253 := Aside0.mk ((by rw [hg]; exact (below_size bel) : w.heap.size ≤ gb253)); have GE253 := Aside0.mk ((by rw [hg]; exact (below_size bel) : w.heap.size ≤ gb253)); replace HB := Aside0.mk (below_step bel hb); clear hb hbox hg))
    replace BK253 := Aside0.mk (blk_drew BK253.out)
    replace HB := Aside0.mk (below_drew1 HB.out)
    refine start_ (n := 19) (S := fun w' => w'.cell? ⟨gb253, 0, none⟩ = some (.int .i64 a0_0) ∧ w'.cell? ⟨gb253, 1, none⟩ = some (.int .i64 a0_1) ∧ w'.cell? ⟨gb253, 2, none⟩ = some (.int .i64 a0_2) ∧ w'.cell? ⟨gb253, 3, none⟩ = some (.slice A0_3 l0_3.length c0_3) ∧ w'.cell? ⟨gb253, 4, none⟩ = some (.slice A0_4 l0_4.length c0_4) ∧ w'.cell? ⟨gb253, 5, none⟩ = some (.int .i64 a0_5)) (ds := []) (tf 0 19) (by kernel_rfl) rfl rfl (cellz_6 BK253.out) (fun hHeld => ?_); refine with_tabW impl_CmdOk.tab1 impl_CmdOk.bits1 (fun HT_ HW_ => ?_)
    generalize w16.drew = w17 at BK253 HB hHeld ⊢
    refine tv_ HT_ HW_ hHeld 0 (some 3) (tf 1 18) (h := ?_)
    refine one_ (i := 1) (N := some 4) (tf 2 17) rfl rfl (one_of HT_.out (by kernel_rfl)) (by decide) (fun K hK => ?_)
    refine gs_ Try.func192 #[] (h := ?_)
    with_reducible refine (impl_noOp.calls  t254 t255 t256 t257 t260 t263 _ A2.out).mono ?_
    rintro e w18 ⟨v258, v261, rfl, ho0, ho1, hb⟩
    refine ⟨_, rfl, ?_⟩
    have HO259 := Aside0.mk (Kd.R_lower ho0 (below_size bel))
    have HO262 := Aside0.mk (Kd.R_lower ho1 (below_size bel))
    replace BK253 := Aside0.mk (blb BK253 hb)
    replace HB := Aside0.mk (below_step bel hb)
    (try clear hb)
    (try clear hb2)
    (try clear hk)
    (try clear hi)
    (try clear ho0)
    (try clear ho1)
    obtain ⟨Ao19, co19, eo19⟩ := Kd.R_slice HO259.out
    (first | subst eo19 | (injection eo19 with f1_ f2_ f3_; have f4_ := f1_.symm; have f5_ := f3_.symm; clear f1_ f2_ f3_; subst f4_; subst f5_))
    obtain ⟨Ao20, co20, eo20⟩ := Kd.R_slice HO262.out
    (first | subst eo20 | (injection eo20 with f1_ f2_ f3_; have f4_ := f1_.symm; have f5_ := f3_.symm; clear f1_ f2_ f3_; subst f4_; subst f5_))
    refine hK.out _ _ (cellz_6 BK253.out) (fun hHeld => ?_)
    clear hK K
    refine norm_ (a' := ?_) ?_ ?_
    rotate_left
    ·show Act.put _ (some 4) _ = _
     simp only [Act.put, List.setIfInBounds_toArray, List.set_cons_zero, List.set_cons_succ, i64_w, i32_w]
     rfl
    refine one_ (i := 2) (N := some 5) (tf 3 16) rfl rfl (one_of HT_.out (by kernel_rfl)) (by decide) (fun K hK => ?_)
    refine gs_ Try.func191 #[.agg #[.int .i64 a0_0, .int .i64 a0_1, .int .i64 a0_2, .slice A0_3 l0_3.length c0_3, .slice A0_4 l0_4.length c0_4, .int .i64 a0_5], .agg #[.int .i64 t254, .int .i64 t255, .int .i64 t256, .slice Ao19 t257.length co19, .slice Ao20 t260.length co20, .int .i64 t263]] (h := ?_)
    with_reducible refine (impl_Cmd_same.calls a0_0 a0_1 a0_2 _ _ l0_3 _ _ l0_4 a0_5 t254 t255 t256 _ _ t257 _ _ t260 t263 false _ ?side1 ?side2 ?side3 ?side4 ?side5 ?side6 ?side7 ?side8 A3.out).mono ?_
    (case side1 => exact kcb)
    (case side2 => exact HC0_3.out)
    (case side3 => exact kcb)
    (case side4 => exact HC0_4.out)
    (case side5 => repeat (first | exact (Kd.R_reads' HO259.out).2.2 | (with_reducible refine Kd.C_alloc ?_ _) | (with_reducible refine Kd.C_drewN ?_ _) | (with_reducible refine Kd.C_drew ?_)))
    (case side6 => exact (Kd.R_reads' HO259.out).2.1)
    (case side7 => repeat (first | exact (Kd.R_reads' HO262.out).2.2 | (with_reducible refine Kd.C_alloc ?_ _) | (with_reducible refine Kd.C_drewN ?_ _) | (with_reducible refine Kd.C_drew ?_)))
    (case side8 => exact (Kd.R_reads' HO262.out).2.1)
    rintro e w21 ⟨rfl, hb⟩
    refine ⟨_, rfl, ?_⟩
    replace HO259 := Aside0.mk (rbl HO259 hb)
    replace HO262 := Aside0.mk (rbl HO262 hb)
    replace BK253 := Aside0.mk (blb BK253 hb)
    replace HB := Aside0.mk (below_step bel hb)
    (try clear hb)
    (try clear hb2)
    (try clear hk)
    (try clear hi)
    refine hK.out _ _ (cellz_6 BK253.out) (fun hHeld => ?_)
    clear hK K
    refine norm_ (a' := ?_) ?_ ?_
    rotate_left
    ·show Act.put _ (some 5) _ = _
     simp only [Act.put, List.setIfInBounds_toArray, List.set_cons_zero, List.set_cons_succ, i64_w, i32_w]
     rfl
    refine pv_ HT_ 3 (some 6) (tf 4 15) (h := ?_)
    refine pv_ HT_ 4 (some 7) (tf 5 14) (h := ?_)
    refine tv_ HT_ HW_ hHeld 5 (some 8) (tf 6 13) (h := ?_)
    refine one_ (i := 6) (N := some 9) (tf 7 12) rfl rfl (one_of HT_.out (by kernel_rfl)) (by decide) (fun K hK => ?_)
    refine gs_ Try.func81 #[.int .i64 a0_0, .int .i64 0, .int .i64 3] (h := ?_)
    with_reducible refine (impl_within.calls a0_0 0 3 true _ A11.out).mono ?_
    rintro e w' ⟨rfl, ⟨nd, rfl⟩⟩
    refine ⟨_, rfl, ?_⟩
    refine hK.out _ _ (cellz_6 BK253.out) (fun hHeld => ?_)
    clear hK K
    refine norm_ (a' := ?_) ?_ ?_
    rotate_left
    ·show Act.put _ (some 9) _ = _
     simp only [Act.put, List.setIfInBounds_toArray, List.set_cons_zero, List.set_cons_succ, i64_w, i32_w]
     rfl
    refine pv_ HT_ 7 (some 10) (tf 8 11) (h := ?_)
    refine pv_ HT_ 8 (some 11) (tf 9 10) (h := ?_)
    refine tv_ HT_ HW_ hHeld 9 (some 12) (tf 10 9) (h := ?_)
    refine one_ (i := 10) (N := some 13) (tf 11 8) rfl rfl (one_of HT_.out (by kernel_rfl)) (by decide) (fun K hK => ?_)
    refine gs_ Try.func81 #[.int .i64 a0_1, .int .i64 1, .int .i64 1000000] (h := ?_)
    with_reducible refine (impl_within.calls a0_1 1 1000000 true _ A13.out).mono ?_
    rintro e w' ⟨rfl, ⟨nd, rfl⟩⟩
    refine ⟨_, rfl, ?_⟩
    refine hK.out _ _ (cellz_6 BK253.out) (fun hHeld => ?_)
    clear hK K
    refine norm_ (a' := ?_) ?_ ?_
    rotate_left
    ·show Act.put _ (some 13) _ = _
     simp only [Act.put, List.setIfInBounds_toArray, List.set_cons_zero, List.set_cons_succ, i64_w, i32_w]
     rfl
    refine pv_ HT_ 11 (some 14) (tf 12 7) (h := ?_)
    refine pv_ HT_ 12 (some 15) (tf 13 6) (h := ?_)
    refine pv_ HT_ 13 (some 16) (tf 14 5) (h := ?_)
    refine tv_ HT_ HW_ hHeld 14 (some 17) (tf 15 4) (h := ?_)
    refine one_ (i := 15) (N := some 18) (tf 16 3) rfl rfl (one_of HT_.out (by kernel_rfl)) (by decide) (fun K hK => ?_)
    refine gs_ Try.func193 #[.agg #[.int .i64 a0_2, .slice A0_3 l0_3.length c0_3, .slice A0_4 l0_4.length c0_4, .int .i64 a0_5]] (h := ?_)
    with_reducible refine (impl_OpOk.calls k a0_2 _ _ l0_3 _ _ l0_4 a0_5 t267 _ ?side1 ?side2 ?side3 ?side4 A15.out).mono ?_
    (case side1 => exact kcb)
    (case side2 => exact HC0_3.out)
    (case side3 => exact kcb)
    (case side4 => exact HC0_4.out)
    rintro e w22 ⟨rfl, hb⟩
    refine ⟨_, rfl, ?_⟩
    replace HO259 := Aside0.mk (rbl HO259 hb)
    replace HO262 := Aside0.mk (rbl HO262 hb)
    replace BK253 := Aside0.mk (blb BK253 hb)
    replace HB := Aside0.mk (below_step bel hb)
    (try clear hb)
    (try clear hb2)
    (try clear hk)
    (try clear hi)
    refine hK.out _ _ (cellz_6 BK253.out) (fun hHeld => ?_)
    clear hK K
    refine norm_ (a' := ?_) ?_ ?_
    rotate_left
    ·show Act.put _ (some 18) _ = _
     simp only [Act.put, List.setIfInBounds_toArray, List.set_cons_zero, List.set_cons_succ, i64_w, i32_w]
     rfl
    refine pv_ HT_ 16 (some 19) (tf 17 2) (h := ?_)
    refine pv_ HT_ 17 (some 20) (tf 18 1) (h := ?_)
    refine pv_ HT_ 18 (some 2) (tf 19 0) (h := ?_)
    refine done_ (done_of HT_.out (by kernel_rfl)) ?_
    try go_wp2
    go_ret
    exact ⟨by first | rfl | (simp [errW_none, errW_some] <;> rfl) | (simp [*, errW_none, errW_some] <;> rfl), by repeat (first | (with_reducible first | exact HB.out | apply below_alloc | apply pw_below_drewN | apply below_drew1 | refine below_set ?_ GE253.out) | exact HB.out)⟩
   ·replace c14 := Bool.eq_false_iff.mpr c14
    subst c14
    have H1 : (some false) = some r := by rw [if_neg (show ¬ (false = true) by decide)] at H; exact H
    clear H
    have H := H1
    clear H1
    obtain rfl := Option.some.inj H
    go_enter Try.func172, Try.ntmps172
    try go_wp2_with (first | ((with_reducible refine gate_dst (N := 1) rfl ?_); refine bx_ 1 #[.int .i64 a0_0, .int .i64 a0_1, .int .i64 a0_2, .slice A0_3 l0_3.length c0_3, .slice A0_4 l0_4.length c0_4, .int .i64 a0_5] 145 (h := ?_); intro gb253 hg w23 hbox hb; have BK253 := Aside0.mk (hbox); have GW253 := Aside0.mk ((by rw [hg]; exact (below_size bel) : w.heap.size ≤ gb253)); have GE253 := Aside0.mk ((by rw [hg]; exact (below_size bel) : w.heap.size ≤ gb253)); replace HB := Aside0.mk (below_step bel hb); clear hb hbox hg))
    replace BK253 := Aside0.mk (blk_drew BK253.out)
    replace HB := Aside0.mk (below_drew1 HB.out)
    refine start_ (n := 19) (S := fun w' => w'.cell? ⟨gb253, 0, none⟩ = some (.int .i64 a0_0) ∧ w'.cell? ⟨gb253, 1, none⟩ = some (.int .i64 a0_1) ∧ w'.cell? ⟨gb253, 2, none⟩ = some (.int .i64 a0_2) ∧ w'.cell? ⟨gb253, 3, none⟩ = some (.slice A0_3 l0_3.length c0_3) ∧ w'.cell? ⟨gb253, 4, none⟩ = some (.slice A0_4 l0_4.length c0_4) ∧ w'.cell? ⟨gb253, 5, none⟩ = some (.int .i64 a0_5)) (ds := []) (tf 0 19) (by kernel_rfl) rfl rfl (cellz_6 BK253.out) (fun hHeld => ?_); refine with_tabW impl_CmdOk.tab1 impl_CmdOk.bits1 (fun HT_ HW_ => ?_)
    generalize w23.drew = w24 at BK253 HB hHeld ⊢
    refine tv_ HT_ HW_ hHeld 0 (some 3) (tf 1 18) (h := ?_)
    refine one_ (i := 1) (N := some 4) (tf 2 17) rfl rfl (one_of HT_.out (by kernel_rfl)) (by decide) (fun K hK => ?_)
    refine gs_ Try.func192 #[] (h := ?_)
    with_reducible refine (impl_noOp.calls  t254 t255 t256 t257 t260 t263 _ A2.out).mono ?_
    rintro e w25 ⟨v258, v261, rfl, ho0, ho1, hb⟩
    refine ⟨_, rfl, ?_⟩
    have HO259 := Aside0.mk (Kd.R_lower ho0 (below_size bel))
    have HO262 := Aside0.mk (Kd.R_lower ho1 (below_size bel))
    replace BK253 := Aside0.mk (blb BK253 hb)
    replace HB := Aside0.mk (below_step bel hb)
    (try clear hb)
    (try clear hb2)
    (try clear hk)
    (try clear hi)
    (try clear ho0)
    (try clear ho1)
    obtain ⟨Ao26, co26, eo26⟩ := Kd.R_slice HO259.out
    (first | subst eo26 | (injection eo26 with f1_ f2_ f3_; have f4_ := f1_.symm; have f5_ := f3_.symm; clear f1_ f2_ f3_; subst f4_; subst f5_))
    obtain ⟨Ao27, co27, eo27⟩ := Kd.R_slice HO262.out
    (first | subst eo27 | (injection eo27 with f1_ f2_ f3_; have f4_ := f1_.symm; have f5_ := f3_.symm; clear f1_ f2_ f3_; subst f4_; subst f5_))
    refine hK.out _ _ (cellz_6 BK253.out) (fun hHeld => ?_)
    clear hK K
    refine norm_ (a' := ?_) ?_ ?_
    rotate_left
    ·show Act.put _ (some 4) _ = _
     simp only [Act.put, List.setIfInBounds_toArray, List.set_cons_zero, List.set_cons_succ, i64_w, i32_w]
     rfl
    refine one_ (i := 2) (N := some 5) (tf 3 16) rfl rfl (one_of HT_.out (by kernel_rfl)) (by decide) (fun K hK => ?_)
    refine gs_ Try.func191 #[.agg #[.int .i64 a0_0, .int .i64 a0_1, .int .i64 a0_2, .slice A0_3 l0_3.length c0_3, .slice A0_4 l0_4.length c0_4, .int .i64 a0_5], .agg #[.int .i64 t254, .int .i64 t255, .int .i64 t256, .slice Ao26 t257.length co26, .slice Ao27 t260.length co27, .int .i64 t263]] (h := ?_)
    with_reducible refine (impl_Cmd_same.calls a0_0 a0_1 a0_2 _ _ l0_3 _ _ l0_4 a0_5 t254 t255 t256 _ _ t257 _ _ t260 t263 false _ ?side1 ?side2 ?side3 ?side4 ?side5 ?side6 ?side7 ?side8 A3.out).mono ?_
    (case side1 => exact kcb)
    (case side2 => exact HC0_3.out)
    (case side3 => exact kcb)
    (case side4 => exact HC0_4.out)
    (case side5 => repeat (first | exact (Kd.R_reads' HO259.out).2.2 | (with_reducible refine Kd.C_alloc ?_ _) | (with_reducible refine Kd.C_drewN ?_ _) | (with_reducible refine Kd.C_drew ?_)))
    (case side6 => exact (Kd.R_reads' HO259.out).2.1)
    (case side7 => repeat (first | exact (Kd.R_reads' HO262.out).2.2 | (with_reducible refine Kd.C_alloc ?_ _) | (with_reducible refine Kd.C_drewN ?_ _) | (with_reducible refine Kd.C_drew ?_)))
    (case side8 => exact (Kd.R_reads' HO262.out).2.1)
    rintro e w28 ⟨rfl, hb⟩
    refine ⟨_, rfl, ?_⟩
    replace HO259 := Aside0.mk (rbl HO259 hb)
    replace HO262 := Aside0.mk (rbl HO262 hb)
    replace BK253 := Aside0.mk (blb BK253 hb)
    replace HB := Aside0.mk (below_step bel hb)
    (try clear hb)
    (try clear hb2)
    (try clear hk)
    (try clear hi)
    refine hK.out _ _ (cellz_6 BK253.out) (fun hHeld => ?_)
    clear hK K
    refine norm_ (a' := ?_) ?_ ?_
    rotate_left
    ·show Act.put _ (some 5) _ = _
     simp only [Act.put, List.setIfInBounds_toArray, List.set_cons_zero, List.set_cons_succ, i64_w, i32_w]
     rfl
    refine pv_ HT_ 3 (some 6) (tf 4 15) (h := ?_)
    refine pv_ HT_ 4 (some 7) (tf 5 14) (h := ?_)
    refine tv_ HT_ HW_ hHeld 5 (some 8) (tf 6 13) (h := ?_)
    refine one_ (i := 6) (N := some 9) (tf 7 12) rfl rfl (one_of HT_.out (by kernel_rfl)) (by decide) (fun K hK => ?_)
    refine gs_ Try.func81 #[.int .i64 a0_0, .int .i64 0, .int .i64 3] (h := ?_)
    with_reducible refine (impl_within.calls a0_0 0 3 true _ A11.out).mono ?_
    rintro e w' ⟨rfl, ⟨nd, rfl⟩⟩
    refine ⟨_, rfl, ?_⟩
    refine hK.out _ _ (cellz_6 BK253.out) (fun hHeld => ?_)
    clear hK K
    refine norm_ (a' := ?_) ?_ ?_
    rotate_left
    ·show Act.put _ (some 9) _ = _
     simp only [Act.put, List.setIfInBounds_toArray, List.set_cons_zero, List.set_cons_succ, i64_w, i32_w]
     rfl
    refine pv_ HT_ 7 (some 10) (tf 8 11) (h := ?_)
    refine pv_ HT_ 8 (some 11) (tf 9 10) (h := ?_)
    refine tv_ HT_ HW_ hHeld 9 (some 12) (tf 10 9) (h := ?_)
    refine one_ (i := 10) (N := some 13) (tf 11 8) rfl rfl (one_of HT_.out (by kernel_rfl)) (by decide) (fun K hK => ?_)
    refine gs_ Try.func81 #[.int .i64 a0_1, .int .i64 1, .int .i64 1000000] (h := ?_)
    with_reducible refine (impl_within.calls a0_1 1 1000000 false _ A13.out).mono ?_
    rintro e w' ⟨rfl, ⟨nd, rfl⟩⟩
    refine ⟨_, rfl, ?_⟩
    refine hK.out _ _ (cellz_6 BK253.out) (fun hHeld => ?_)
    clear hK K
    refine norm_ (a' := ?_) ?_ ?_
    rotate_left
    ·show Act.put _ (some 13) _ = _
     simp only [Act.put, List.setIfInBounds_toArray, List.set_cons_zero, List.set_cons_succ, i64_w, i32_w]
     rfl
    refine pv_ HT_ 11 (some 14) (tf 12 7) (h := ?_)
    refine pv_ HT_ 12 (some 15) (tf 13 6) (h := ?_)
    refine pu_ HT_ 13 (some 16) (tf 14 5) (h := ?_)
    refine pu_ HT_ 14 (some 17) (tf 15 4) (h := ?_)
    refine pu_ HT_ 15 (some 18) (tf 16 3) (h := ?_)
    refine pv_ HT_ 16 (some 19) (tf 17 2) (h := ?_)
    refine pv_ HT_ 17 (some 20) (tf 18 1) (h := ?_)
    refine pv_ HT_ 18 (some 2) (tf 19 0) (h := ?_)
    refine done_ (done_of HT_.out (by kernel_rfl)) ?_
    try go_wp2
    go_ret
    exact ⟨by first | rfl | (simp [errW_none, errW_some] <;> rfl) | (simp [*, errW_none, errW_some] <;> rfl), by repeat (first | (with_reducible first | exact HB.out | apply below_alloc | apply pw_below_drewN | apply below_drew1 | refine below_set ?_ GE253.out) | exact HB.out)⟩
  ·replace c12 := Bool.eq_false_iff.mpr c12
   subst c12
   have H1 : (some false) = some r := by rw [if_neg (show ¬ (false = true) by decide)] at H; exact H
   clear H
   have H := H1
   clear H1
   obtain rfl := Option.some.inj H
   go_enter Try.func172, Try.ntmps172
   try go_wp2_with (first | ((with_reducible refine gate_dst (N := 1) rfl ?_); refine bx_ 1 #[.int .i64 a0_0, .int .i64 a0_1, .int .i64 a0_2, .slice A0_3 l0_3.length c0_3, .slice A0_4 l0_4.length c0_4, .int .i64 a0_5] 145 (h := ?_); intro gb253 hg w29 hbox hb; have BK253 := Aside0.mk (hbox); have GW253 := Aside0.mk ((by rw [hg]; exact (below_size bel) : w.heap.size ≤ gb253)); have GE253 := Aside0.mk ((by rw [hg]; exact (below_size bel) : w.heap.size ≤ gb253)); replace HB := Aside0.mk (below_step bel hb); clear hb hbox hg))
   replace BK253 := Aside0.mk (blk_drew BK253.out)
   replace HB := Aside0.mk (below_drew1 HB.out)
   refine start_ (n := 19) (S := fun w' => w'.cell? ⟨gb253, 0, none⟩ = some (.int .i64 a0_0) ∧ w'.cell? ⟨gb253, 1, none⟩ = some (.int .i64 a0_1) ∧ w'.cell? ⟨gb253, 2, none⟩ = some (.int .i64 a0_2) ∧ w'.cell? ⟨gb253, 3, none⟩ = some (.slice A0_3 l0_3.length c0_3) ∧ w'.cell? ⟨gb253, 4, none⟩ = some (.slice A0_4 l0_4.length c0_4) ∧ w'.cell? ⟨gb253, 5, none⟩ = some (.int .i64 a0_5)) (ds := []) (tf 0 19) (by kernel_rfl) rfl rfl (cellz_6 BK253.out) (fun hHeld => ?_); refine with_tabW impl_CmdOk.tab1 impl_CmdOk.bits1 (fun HT_ HW_ => ?_)
   generalize w29.drew = w30 at BK253 HB hHeld ⊢
   refine tv_ HT_ HW_ hHeld 0 (some 3) (tf 1 18) (h := ?_)
   refine one_ (i := 1) (N := some 4) (tf 2 17) rfl rfl (one_of HT_.out (by kernel_rfl)) (by decide) (fun K hK => ?_)
   refine gs_ Try.func192 #[] (h := ?_)
   with_reducible refine (impl_noOp.calls  t254 t255 t256 t257 t260 t263 _ A2.out).mono ?_
   rintro e w31 ⟨v258, v261, rfl, ho0, ho1, hb⟩
   refine ⟨_, rfl, ?_⟩
   have HO259 := Aside0.mk (Kd.R_lower ho0 (below_size bel))
   have HO262 := Aside0.mk (Kd.R_lower ho1 (below_size bel))
   replace BK253 := Aside0.mk (blb BK253 hb)
   replace HB := Aside0.mk (below_step bel hb)
   (try clear hb)
   (try clear hb2)
   (try clear hk)
   (try clear hi)
   (try clear ho0)
   (try clear ho1)
   obtain ⟨Ao32, co32, eo32⟩ := Kd.R_slice HO259.out
   (first | subst eo32 | (injection eo32 with f1_ f2_ f3_; have f4_ := f1_.symm; have f5_ := f3_.symm; clear f1_ f2_ f3_; subst f4_; subst f5_))
   obtain ⟨Ao33, co33, eo33⟩ := Kd.R_slice HO262.out
   (first | subst eo33 | (injection eo33 with f1_ f2_ f3_; have f4_ := f1_.symm; have f5_ := f3_.symm; clear f1_ f2_ f3_; subst f4_; subst f5_))
   refine hK.out _ _ (cellz_6 BK253.out) (fun hHeld => ?_)
   clear hK K
   refine norm_ (a' := ?_) ?_ ?_
   rotate_left
   ·show Act.put _ (some 4) _ = _
    simp only [Act.put, List.setIfInBounds_toArray, List.set_cons_zero, List.set_cons_succ, i64_w, i32_w]
    rfl
   refine one_ (i := 2) (N := some 5) (tf 3 16) rfl rfl (one_of HT_.out (by kernel_rfl)) (by decide) (fun K hK => ?_)
   refine gs_ Try.func191 #[.agg #[.int .i64 a0_0, .int .i64 a0_1, .int .i64 a0_2, .slice A0_3 l0_3.length c0_3, .slice A0_4 l0_4.length c0_4, .int .i64 a0_5], .agg #[.int .i64 t254, .int .i64 t255, .int .i64 t256, .slice Ao32 t257.length co32, .slice Ao33 t260.length co33, .int .i64 t263]] (h := ?_)
   with_reducible refine (impl_Cmd_same.calls a0_0 a0_1 a0_2 _ _ l0_3 _ _ l0_4 a0_5 t254 t255 t256 _ _ t257 _ _ t260 t263 false _ ?side1 ?side2 ?side3 ?side4 ?side5 ?side6 ?side7 ?side8 A3.out).mono ?_
   (case side1 => exact kcb)
   (case side2 => exact HC0_3.out)
   (case side3 => exact kcb)
   (case side4 => exact HC0_4.out)
   (case side5 => repeat (first | exact (Kd.R_reads' HO259.out).2.2 | (with_reducible refine Kd.C_alloc ?_ _) | (with_reducible refine Kd.C_drewN ?_ _) | (with_reducible refine Kd.C_drew ?_)))
   (case side6 => exact (Kd.R_reads' HO259.out).2.1)
   (case side7 => repeat (first | exact (Kd.R_reads' HO262.out).2.2 | (with_reducible refine Kd.C_alloc ?_ _) | (with_reducible refine Kd.C_drewN ?_ _) | (with_reducible refine Kd.C_drew ?_)))
   (case side8 => exact (Kd.R_reads' HO262.out).2.1)
   rintro e w34 ⟨rfl, hb⟩
   refine ⟨_, rfl, ?_⟩
   replace HO259 := Aside0.mk (rbl HO259 hb)
   replace HO262 := Aside0.mk (rbl HO262 hb)
   replace BK253 := Aside0.mk (blb BK253 hb)
   replace HB := Aside0.mk (below_step bel hb)
   (try clear hb)
   (try clear hb2)
   (try clear hk)
   (try clear hi)
   refine hK.out _ _ (cellz_6 BK253.out) (fun hHeld => ?_)
   clear hK K
   refine norm_ (a' := ?_) ?_ ?_
   rotate_left
   ·show Act.put _ (some 5) _ = _
    simp only [Act.put, List.setIfInBounds_toArray, List.set_cons_zero, List.set_cons_succ, i64_w, i32_w]
    rfl
   refine pv_ HT_ 3 (some 6) (tf 4 15) (h := ?_)
   refine pv_ HT_ 4 (some 7) (tf 5 14) (h := ?_)
   refine tv_ HT_ HW_ hHeld 5 (some 8) (tf 6 13) (h := ?_)
   refine one_ (i := 6) (N := some 9) (tf 7 12) rfl rfl (one_of HT_.out (by kernel_rfl)) (by decide) (fun K hK => ?_)
   refine gs_ Try.func81 #[.int .i64 a0_0, .int .i64 0, .int .i64 3] (h := ?_)
   with_reducible refine (impl_within.calls a0_0 0 3 false _ A11.out).mono ?_
   rintro e w' ⟨rfl, ⟨nd, rfl⟩⟩
   refine ⟨_, rfl, ?_⟩
   refine hK.out _ _ (cellz_6 BK253.out) (fun hHeld => ?_)
   clear hK K
   refine norm_ (a' := ?_) ?_ ?_
   rotate_left
   ·show Act.put _ (some 9) _ = _
    simp only [Act.put, List.setIfInBounds_toArray, List.set_cons_zero, List.set_cons_succ, i64_w, i32_w]
    rfl
   refine pv_ HT_ 7 (some 10) (tf 8 11) (h := ?_)
   refine pu_ HT_ 8 (some 11) (tf 9 10) (h := ?_)
   refine pu_ HT_ 9 (some 12) (tf 10 9) (h := ?_)
   refine pu_ HT_ 10 (some 13) (tf 11 8) (h := ?_)
   refine pv_ HT_ 11 (some 14) (tf 12 7) (h := ?_)
   refine pv_ HT_ 12 (some 15) (tf 13 6) (h := ?_)
   refine pu_ HT_ 13 (some 16) (tf 14 5) (h := ?_)
   refine pu_ HT_ 14 (some 17) (tf 15 4) (h := ?_)
   refine pu_ HT_ 15 (some 18) (tf 16 3) (h := ?_)
   refine pv_ HT_ 16 (some 19) (tf 17 2) (h := ?_)
   refine pv_ HT_ 17 (some 20) (tf 18 1) (h := ?_)
   refine pv_ HT_ 18 (some 2) (tf 19 0) (h := ?_)
   refine done_ (done_of HT_.out (by kernel_rfl)) ?_
   try go_wp2
   go_ret
   exact ⟨by first | rfl | (simp [errW_none, errW_some] <;> rfl) | (simp [*, errW_none, errW_some] <;> rfl), by repeat (first | (with_reducible first | exact HB.out | apply below_alloc | apply pw_below_drewN | apply below_drew1 | refine below_set ?_ GE253.out) | exact HB.out)⟩

/-! ### impl_ItemOk: function 112 -/
def impl_ItemOk.f (k : Nat) (a0_0 : Int) (a0_1 : Int) (a0_2 : Int) (a0_3 : Int) (l0_4 : List Int) (l0_5 : List Int) (a0_6 : Int) : Option (Bool) := (impl_isTerm.f a0_0).bind fun t269 => (if t269 = true then ((impl_CmdOk.f k a0_1 a0_2 a0_3 l0_4 l0_5 a0_6).bind fun t270 => (some t270)) else (some false))
set_option maxHeartbeats 8000000 in
set_option maxRecDepth 100000 in
theorem impl_ItemOk.calls (k : Nat) (a0_0 : Int) (a0_1 : Int) (a0_2 : Int) (a0_3 : Int) (A0_4 : Option Addr) (c0_4 : Nat) (l0_4 : List Int) (A0_5 : Option Addr) (c0_5 : Nat) (l0_5 : List Int) (a0_6 : Int) (r : Bool) (w : World) (hr0_4 : Kd.C (Kd.int .u8) w A0_4 l0_4.length l0_4) (hc0_4 : l0_4.length ≤ c0_4) (hr0_5 : Kd.C (Kd.int .u8) w A0_5 l0_5.length l0_5) (hc0_5 : l0_5.length ≤ c0_5) (h : impl_ItemOk.f k a0_0 a0_1 a0_2 a0_3 l0_4 l0_5 a0_6 = some r) :
  Calls Try.prog 112 #[.agg #[.int .i64 a0_0, .int .i64 a0_1, .int .i64 a0_2, .int .i64 a0_3, .slice A0_4 l0_4.length c0_4, .slice A0_5 l0_5.length c0_5, .int .i64 a0_6]] w fun e w' => e = .returned (.bool r) ∧ Below w.heap.size w w' := by
 have hu147 := Try.underlying147
 have hu145 := Try.underlying145
 have HR0_4 := Aside0.mk hr0_4
 have HC0_4 := Aside0.mk hc0_4
 clear hr0_4 hc0_4
 have HR0_5 := Aside0.mk hr0_5
 have HC0_5 := Aside0.mk hc0_5
 clear hr0_5 hc0_5
 have HB := Aside0.mk (Below.refl w.heap.size w)
 have H : ((impl_isTerm.f a0_0).bind fun t269 => (if t269 = true then ((impl_CmdOk.f k a0_1 a0_2 a0_3 l0_4 l0_5 a0_6).bind fun t270 => (some t270)) else (some false))) = some r := h
 clear h
 replace H := Option.bind_eq_some_iff.mp H
 obtain ⟨t269, A20, H⟩ := H
 replace H : (if t269 = true then ((impl_CmdOk.f k a0_1 a0_2 a0_3 l0_4 l0_5 a0_6).bind fun t270 => (some t270)) else (some false)) = some r := H
 have A2 := Aside0.mk A20
 clear A20
 by_cases c3 : t269 = true
 ·subst c3
  have H1 : ((impl_CmdOk.f k a0_1 a0_2 a0_3 l0_4 l0_5 a0_6).bind fun t270 => (some t270)) = some r := by rw [if_pos rfl] at H; exact H
  clear H
  have H := H1
  clear H1
  replace H := Option.bind_eq_some_iff.mp H
  obtain ⟨t270, A40, H⟩ := H
  replace H : (some t270) = some r := H
  have A4 := Aside0.mk A40
  clear A40
  obtain rfl := Option.some.inj H
  go_enter Try.func112, Try.ntmps112
  go_wp2_with (first | ((with_reducible refine gate_dst (N := 1) rfl ?_); refine bx_ 1 #[.int .i64 a0_0, .int .i64 a0_1, .int .i64 a0_2, .int .i64 a0_3, .slice A0_4 l0_4.length c0_4, .slice A0_5 l0_5.length c0_5, .int .i64 a0_6] 147 (h := ?_); intro gb268 hg w5 hbox hb; have BK268 := Aside0.mk (hbox); have GW268 := Aside0.mk ((by rw [hg]; exact (below_size bel) : w.heap.size ≤ gb268)); have GE268 := Aside0.mk ((by rw [hg]; exact (below_size bel) : w.heap.size ≤ gb268)); replace HB := Aside0.mk (below_step bel hb); clear hb hbox hg; obtain ⟨hcz6_0, hcz6_1, hcz6_2, hcz6_3, hcz6_4, hcz6_5, hcz6_6, -⟩ := cells_7 BK268.out trivial; obtain ⟨hfz6_0, hfz6_1, hfz6_2, hfz6_3, hfz6_4, hfz6_5, hfz6_6, -⟩ := frz_7 BK268.out) | ((with_reducible refine gate_callee (f := 111) rfl ?_); refine gl_ (some 5) Try.func111 #[.int .i64 a0_0] (h := ?_); (with_reducible refine (impl_isTerm.calls a0_0 true _ A2.out).mono ?_); rintro e w' ⟨rfl, ⟨nd, rfl⟩⟩; refine ⟨_, rfl, ?_⟩) | (go_at_call 172; (with_reducible refine (impl_CmdOk.calls k a0_1 a0_2 a0_3 _ _ l0_4 _ _ l0_5 a0_6 t270 _ ?side1 ?side2 ?side3 ?side4 A4.out).mono ?_); (case side1 => exact kcb); (case side2 => exact HC0_4.out); (case side3 => exact kcb); (case side4 => exact HC0_5.out); rintro e w7 ⟨rfl, hb⟩; replace BK268 := Aside0.mk (blb BK268 hb); replace HB := Aside0.mk (below_step bel hb); (try clear hb); (try clear hb2); (try clear hk); (try clear hi)))
  go_ret
  exact ⟨by first | rfl | (simp [errW_none, errW_some] <;> rfl) | (simp [*, errW_none, errW_some] <;> rfl), by repeat (first | (with_reducible first | exact HB.out | apply below_alloc | apply pw_below_drewN | apply below_drew1 | refine below_set ?_ GE268.out) | exact HB.out)⟩
 ·replace c3 := Bool.eq_false_iff.mpr c3
  subst c3
  have H1 : (some false) = some r := by rw [if_neg (show ¬ (false = true) by decide)] at H; exact H
  clear H
  have H := H1
  clear H1
  obtain rfl := Option.some.inj H
  go_enter Try.func112, Try.ntmps112
  go_wp2_with (first | ((with_reducible refine gate_dst (N := 1) rfl ?_); refine bx_ 1 #[.int .i64 a0_0, .int .i64 a0_1, .int .i64 a0_2, .int .i64 a0_3, .slice A0_4 l0_4.length c0_4, .slice A0_5 l0_5.length c0_5, .int .i64 a0_6] 147 (h := ?_); intro gb268 hg w8 hbox hb; have BK268 := Aside0.mk (hbox); have GW268 := Aside0.mk ((by rw [hg]; exact (below_size bel) : w.heap.size ≤ gb268)); have GE268 := Aside0.mk ((by rw [hg]; exact (below_size bel) : w.heap.size ≤ gb268)); replace HB := Aside0.mk (below_step bel hb); clear hb hbox hg; obtain ⟨hcz9_0, hcz9_1, hcz9_2, hcz9_3, hcz9_4, hcz9_5, hcz9_6, -⟩ := cells_7 BK268.out trivial; obtain ⟨hfz9_0, hfz9_1, hfz9_2, hfz9_3, hfz9_4, hfz9_5, hfz9_6, -⟩ := frz_7 BK268.out) | ((with_reducible refine gate_callee (f := 111) rfl ?_); refine gl_ (some 5) Try.func111 #[.int .i64 a0_0] (h := ?_); (with_reducible refine (impl_isTerm.calls a0_0 false _ A2.out).mono ?_); rintro e w' ⟨rfl, ⟨nd, rfl⟩⟩; refine ⟨_, rfl, ?_⟩))
  go_ret
  exact ⟨by first | rfl | (simp [errW_none, errW_some] <;> rfl) | (simp [*, errW_none, errW_some] <;> rfl), by repeat (first | (with_reducible first | exact HB.out | apply below_alloc | apply pw_below_drewN | apply below_drew1 | refine below_set ?_ GE268.out) | exact HB.out)⟩

/-! ### impl_isServer: function 162 -/
def impl_isServer.f (a0 : Int) (a1 : Int) : Option (Bool) := (impl_within.f a1 1 5).bind fun t271 => (if t271 = true then ((impl_within.f a0 0 (wrap64 (a1 - 1))).bind fun t272 => (some t272)) else (some false))
set_option maxHeartbeats 8000000 in
set_option maxRecDepth 100000 in
theorem impl_isServer.calls (a0 : Int) (a1 : Int) (r : Bool) (w : World) (h : impl_isServer.f a0 a1 = some r) :
  Calls Try.prog 162 #[.int .i64 a0, .int .i64 a1] w fun e w' => e = .returned (.bool r) ∧ Drawn0 w w' := by
 have H : ((impl_within.f a1 1 5).bind fun t271 => (if t271 = true then ((impl_within.f a0 0 (wrap64 (a1 - 1))).bind fun t272 => (some t272)) else (some false))) = some r := h
 clear h
 replace H := Option.bind_eq_some_iff.mp H
 obtain ⟨t271, A30, H⟩ := H
 replace H : (if t271 = true then ((impl_within.f a0 0 (wrap64 (a1 - 1))).bind fun t272 => (some t272)) else (some false)) = some r := H
 have A3 := Aside0.mk A30
 clear A30
 by_cases c4 : t271 = true
 ·subst c4
  have H1 : ((impl_within.f a0 0 (wrap64 (a1 - 1))).bind fun t272 => (some t272)) = some r := by rw [if_pos rfl] at H; exact H
  clear H
  have H := H1
  clear H1
  replace H := Option.bind_eq_some_iff.mp H
  obtain ⟨t272, A50, H⟩ := H
  replace H : (some t272) = some r := H
  have A5 := Aside0.mk A50
  clear A50
  obtain rfl := Option.some.inj H
  go_enter Try.func162, Try.ntmps162
  go_wp2_with (first | ((with_reducible refine gate_callee (f := 81) rfl ?_); refine gl_ (some 6) Try.func81 #[.int .i64 a1, .int .i64 1, .int .i64 5] (h := ?_); (with_reducible refine (impl_within.calls a1 1 5 true _ A3.out).mono ?_); rintro e w' ⟨rfl, ⟨nd, rfl⟩⟩; refine ⟨_, rfl, ?_⟩) | (go_at_call 81; (with_reducible refine (impl_within.calls a0 0 (wrap64 (a1 - 1)) t272 _ A5.out).mono ?_); rintro e w' ⟨rfl, ⟨nd, rfl⟩⟩))
  go_ret
  exact ⟨by first | rfl | (simp; done) | (simp [*]; done), by repeat (first | exact Drawn0.refl _ | apply Drawn0.step)⟩
 ·replace c4 := Bool.eq_false_iff.mpr c4
  subst c4
  have H1 : (some false) = some r := by rw [if_neg (show ¬ (false = true) by decide)] at H; exact H
  clear H
  have H := H1
  clear H1
  obtain rfl := Option.some.inj H
  go_enter Try.func162, Try.ntmps162
  go_wp2_with (first | ((with_reducible refine gate_callee (f := 81) rfl ?_); refine gl_ (some 6) Try.func81 #[.int .i64 a1, .int .i64 1, .int .i64 5] (h := ?_); (with_reducible refine (impl_within.calls a1 1 5 false _ A3.out).mono ?_); rintro e w' ⟨rfl, ⟨nd, rfl⟩⟩; refine ⟨_, rfl, ?_⟩))
  go_ret
  exact ⟨by first | rfl | (simp; done) | (simp [*]; done), by repeat (first | exact Drawn0.refl _ | apply Drawn0.step)⟩

/-! ### slices_Index_bool_bool: function 186 -/
def slices_Index_bool_bool.l0 : Nat → List Bool → Bool → Int → Int → Option (Int)
 | 0, _, _, _, _ => none
 | k + 1, x0, x1, x7, x8 => if x8 < x7 then (if 0 ≤ x8 then (if x8 < (x0.length : Int) then (if (x1 == (rdOf false x0 x8)) = true then (some x8) else (slices_Index_bool_bool.l0 k x0 x1 x7 (wrap64 (x8 + 1)))) else (none)) else (none)) else (some (-1))
def slices_Index_bool_bool.f (k : Nat) (l0 : List Bool) (a1 : Bool) : Option (Int) := slices_Index_bool_bool.l0 k l0 a1 (l0.length : Int) 0
set_option maxHeartbeats 8000000 in
set_option maxRecDepth 100000 in
theorem slices_Index_bool_bool.calls (k : Nat) (A0 : Option Addr) (c0 : Nat) (l0 : List Bool) (a1 : Bool) (r : Int) (w : World) (hr0 : Kd.C Kd.bool w A0 l0.length l0) (hc0 : l0.length ≤ c0) (h : slices_Index_bool_bool.f k l0 a1 = some r) :
  Calls Try.prog 186 #[.slice A0 l0.length c0, .bool a1] w fun e w' => e = .returned (.int .i64 r) ∧ Drawn0 w w' := by
 have HR0 := Aside0.mk hr0
 have HC0 := Aside0.mk hc0
 clear hr0 hc0
 have H : (slices_Index_bool_bool.l0 k l0 a1 (l0.length : Int) 0) = some r := h
 clear h
 have H' := Aside0.mk H
 clear H
 go_enter Try.func186, Try.ntmps186
 go_wp2
 go_loopg [8] k (fun kq v8 w' => ∃ (x8_1 : Int), v8 = .int .i64 x8_1 ∧ Aside0 (slices_Index_bool_bool.l0 kq l0 a1 (l0.length : Int) x8_1 = some r) ∧ Aside0 (kq ≤ k) ∧ Drawn0 w w')
 case atStart => exact ⟨(0), (by first | rfl | (simp; done) | (simp [*]; done)), H', ⟨Nat.le_refl _⟩, by repeat (first | exact Drawn0.refl _ | apply Drawn0.step)⟩
 case round =>
  clear H'
  try clear c1; try clear p2
  obtain ⟨x8_1, rfl, HA, HK1, ⟨m1, rfl⟩⟩ := hrel
  cases gk with
  | zero => exact absurd HA.out (by simp [slices_Index_bool_bool.l0])
  | succ k1 =>
   have H := HA.out
   clear HA
   simp only [slices_Index_bool_bool.l0] at H
   by_cases c3 : x8_1 < (l0.length : Int)
   ·rw [if_pos c3] at H
    have c3b0 : decide (x8_1 < (l0.length : Int)) = true := decide_eq_true c3
    clear c3
    by_cases c4 : 0 ≤ x8_1
    ·rw [if_pos c4] at H
     have c4b0 : decide (0 ≤ x8_1) = true := decide_eq_true c4
     clear c4
     by_cases c5 : x8_1 < (l0.length : Int)
     ·rw [if_pos c5] at H
      have c5b0 : decide (x8_1 < (l0.length : Int)) = true := decide_eq_true c5
      clear c5
      by_cases c6 : (a1 == (rdOf false l0 x8_1)) = true
      ·rw [if_pos c6] at H
       have c6b0 : (a1 == (rdOf false l0 x8_1)) = true := c6
       (try (have c6b1 : decide (a1 = (rdOf false l0 x8_1)) = true := by simpa using c6))
       (try (have c6b2 : (a1 == (rdOf false l0 x8_1)) = true := by simpa using c6))
       clear c6
       obtain rfl := Option.some.inj H
       have p273 : 0 ≤ (x8_1 : Int) := od
       have q273 : x8_1 < (l0.length : Int) := od
       obtain ⟨ad273, e273, hx273_0⟩ := Kd.at_bool HR0.out x8_1 p273 q273
       cases e273
       replace p273 := eq_true p273
       replace q273 := eq_true q273
       go_wp2
       go_ret
       exact ⟨by first | rfl | (simp; done) | (simp [*]; done), by repeat (first | exact Drawn0.refl _ | apply Drawn0.step)⟩
      ·rw [if_neg c6] at H
       have c6b0 : (a1 == (rdOf false l0 x8_1)) = false := by simpa using c6
       (try (have c6b1 : decide (a1 = (rdOf false l0 x8_1)) = false := by simpa using c6))
       (try (have c6b2 : (a1 == (rdOf false l0 x8_1)) = false := by simpa using c6))
       (try (have c6b3 : ¬ (a1 = (rdOf false l0 x8_1)) := by simpa using c6))
       clear c6
       have H' := Aside0.mk H
       clear H
       have p273 : 0 ≤ (x8_1 : Int) := od
       have q273 : x8_1 < (l0.length : Int) := od
       obtain ⟨ad273, e273, hx273_0⟩ := Kd.at_bool HR0.out x8_1 p273 q273
       cases e273
       replace p273 := eq_true p273
       replace q273 := eq_true q273
       go_wp2
       go_roundg k1
       case measure => have := HK1.out; omega
       case rel => exact ⟨(wrap64 (x8_1 + 1)), (by first | rfl | (simp; done) | (simp [*]; done)), H', ⟨by have := HK1.out; omega⟩, by repeat (first | exact Drawn0.refl _ | apply Drawn0.step)⟩
     ·rw [if_neg c5] at H
      exact absurd H (by simp)
    ·rw [if_neg c4] at H
     exact absurd H (by simp)
   ·rw [if_neg c3] at H
    have c3b0 : decide (x8_1 < (l0.length : Int)) = false := decide_eq_false c3
    clear c3
    obtain rfl := Option.some.inj H
    go_wp2
    go_ret
    exact ⟨by first | rfl | (simp; done) | (simp [*]; done), by repeat (first | exact Drawn0.refl _ | apply Drawn0.step)⟩

/-! ### slices_Contains_bool_bool: function 163 -/
def slices_Contains_bool_bool.f (k : Nat) (l0 : List Bool) (a1 : Bool) : Option (Bool) := (slices_Index_bool_bool.f k l0 a1).bind fun t274 => (some (decide (t274 ≥ 0)))
set_option maxHeartbeats 8000000 in
set_option maxRecDepth 100000 in
theorem slices_Contains_bool_bool.calls (k : Nat) (A0 : Option Addr) (c0 : Nat) (l0 : List Bool) (a1 : Bool) (r : Bool) (w : World) (hr0 : Kd.C Kd.bool w A0 l0.length l0) (hc0 : l0.length ≤ c0) (h : slices_Contains_bool_bool.f k l0 a1 = some r) :
  Calls Try.prog 163 #[.slice A0 l0.length c0, .bool a1] w fun e w' => e = .returned (.bool r) ∧ Drawn0 w w' := by
 have HR0 := Aside0.mk hr0
 have HC0 := Aside0.mk hc0
 clear hr0 hc0
 have H : ((slices_Index_bool_bool.f k l0 a1).bind fun t274 => (some (decide (t274 ≥ 0)))) = some r := h
 clear h
 replace H := Option.bind_eq_some_iff.mp H
 obtain ⟨t274, A30, H⟩ := H
 replace H : (some (decide (t274 ≥ 0))) = some r := H
 have A3 := Aside0.mk A30
 clear A30
 obtain rfl := Option.some.inj H
 go_enter Try.func163, Try.ntmps163
 go_wp2_with (first | ((with_reducible refine gate_callee (f := 186) rfl ?_); refine gl_ (some 7) Try.func186 #[.slice A0 l0.length c0, .bool a1] (h := ?_); (with_reducible refine (slices_Index_bool_bool.calls k _ _ l0 a1 t274 _ ?side1 ?side2 A3.out).mono ?_); (case side1 => repeat (first | exact HR0.out | (with_reducible refine Kd.C_alloc ?_ _) | (with_reducible refine Kd.C_drewN ?_ _) | (with_reducible refine Kd.C_drew ?_))); (case side2 => exact HC0.out); rintro e w' ⟨rfl, ⟨nd, rfl⟩⟩; refine ⟨_, rfl, ?_⟩))
 go_ret
 exact ⟨by first | rfl | (simp; done) | (simp [*]; done), by repeat (first | exact Drawn0.refl _ | apply Drawn0.step)⟩

end Go.Proofs.Ytdgegnakiljfjaa.PW
