-- Written for this claim by the session's program pp.py, out of the kit's print and the seat's translation.
import Derived.Test.YtdgegnakiljfjaaPLx0
import Derived.Test.YtdgegnakiljfjaaPLx2
import Derived.Test.YtdgegnakiljfjaaPLx4
import Derived.Test.YtdgegnakiljfjaaPLx8
import Derived.Test.YtdgegnakiljfjaaPLx9
namespace Go.Proofs.Ytdgegnakiljfjaa.PL
open Go.RowKit Go.Proofs.YtdgegnakiljfjaaW.PrintWords Go.Proofs.YtdgegnakiljfjaaW.PrintLast Go.Proofs.YtdgegnakiljfjaaW.PrintMore
attribute [local go_sem] max2_int min2_int max_two min_two max_three min_three max_four min_four   -- for this text's walks alone
set_option linter.unusedVariables false
set_option linter.unusedSimpArgs false

/-! ### spec_l2look: function 140 -/
def spec_l2look.f (k : Nat) (a0_0 : Int) (l0_1 : List (S92)) (l0_2 : List (S94)) (a0_3 : Int) (l0_4 : List (S109)) (l0_5 : List (S75)) (l1 : List Int) : Option (Int × Bool × List Int) := (spec_l2row.f k a0_0 l0_1 l0_2 a0_3 l0_4 l0_5 l1).bind fun t330 => (if t330 ≥ 0 then (if 0 ≤ t330 then (if t330 < (l0_1.length : Int) then ((some (([] : List Int) : List Int)).bind fun y332 => (if y332.length + ((rd_T92 l0_1 t330).f1).length < 140737488355328 then (some ((rd_T92 l0_1 t330).f2, true, (y332 ++ ((rd_T92 l0_1 t330).f1)))) else (none))) else (none)) else (none)) else ((spec_l2tomb.f k a0_0 l0_1 l0_2 a0_3 l0_4 l0_5 l1).bind fun t339 => (if t339 ≥ 0 then (if 0 ≤ t339 then (if t339 < (l0_2.length : Int) then (some ((rd_T94 l0_2 t339).f1, false, ([] : List Int))) else (none)) else (none)) else (some (a0_3, false, ([] : List Int))))))
def spec_l2look.T3 : Bool × List (List Nat × List Nat) := (true, [([], []), ([0], [0]), ([], []), ([1, 2], [1, 2]), ([3], [3]), ([4], [4]), ([], []), ([], []), ([7], [7]), ([], []), ([8, 9], [8, 9]), ([10], [10]), ([11], [11]), ([6, 12], [6, 12]), ([5, 13], [5, 13]), ([14, 13, 0, 1, 2, 3, 4, 5, 6, 7, 8, 9, 10, 11, 12, 13, 14], [14])])
def spec_l2look.B3 : List Nat := [0, 1, 0, 7, 15, 31, 0, 0, 128, 0, 896, 1920, 3968, 8128, 16383, 32767]
theorem spec_l2look.tab3 : rtab .any (opsOf Try.f140 3) = spec_l2look.T3 := by kernel_rfl
theorem spec_l2look.bits3 : waitsOk spec_l2look.T3.2 spec_l2look.B3 = true := by kernel_rfl
set_option maxHeartbeats 8000000 in
set_option maxRecDepth 100000 in
theorem spec_l2look.calls (k : Nat) (a0_0 : Int) (A0_1 : Option Addr) (c0_1 : Nat) (l0_1 : List (S92)) (A0_2 : Option Addr) (c0_2 : Nat) (l0_2 : List (S94)) (a0_3 : Int) (A0_4 : Option Addr) (c0_4 : Nat) (l0_4 : List (S109)) (A0_5 : Option Addr) (c0_5 : Nat) (l0_5 : List (S75)) (A1 : Option Addr) (c1 : Nat) (l1 : List Int) (r1 : Int) (r2 : Bool) (r3 : List Int) (w : World) (hr0_1 : Kd.C k92 w A0_1 l0_1.length l0_1) (hc0_1 : l0_1.length ≤ c0_1) (hr0_2 : Kd.C k94 w A0_2 l0_2.length l0_2) (hc0_2 : l0_2.length ≤ c0_2) (hr0_4 : Kd.C k109 w A0_4 l0_4.length l0_4) (hc0_4 : l0_4.length ≤ c0_4) (hr0_5 : Kd.C k75 w A0_5 l0_5.length l0_5) (hc0_5 : l0_5.length ≤ c0_5) (hr1 : Kd.C (Kd.int .u8) w A1 l1.length l1) (hc1 : l1.length ≤ c1) (h : spec_l2look.f k a0_0 l0_1 l0_2 a0_3 l0_4 l0_5 l1 = some (r1, r2, r3)) :
  Calls Try.prog 140 #[.agg #[.int .i64 a0_0, .slice A0_1 l0_1.length c0_1, .slice A0_2 l0_2.length c0_2, .int .i64 a0_3, .slice A0_4 l0_4.length c0_4, .slice A0_5 l0_5.length c0_5], .slice A1 l1.length c1] w fun e w' => ∃ v2_ : Value, e = .returned (.agg #[.int .i64 r1, .bool r2, v2_]) ∧ Kd.R (Kd.int .u8) 5 w' w.heap.size (fun _ => True) v2_ r3 ∧ Below w.heap.size w w' := by
 have hu35 := Try.underlying35
 have hu89 := Try.underlying89
 have HR0_1 := Aside0.mk hr0_1
 have HC0_1 := Aside0.mk hc0_1
 clear hr0_1 hc0_1
 have HR0_2 := Aside0.mk hr0_2
 have HC0_2 := Aside0.mk hc0_2
 clear hr0_2 hc0_2
 have HR0_4 := Aside0.mk hr0_4
 have HC0_4 := Aside0.mk hc0_4
 clear hr0_4 hc0_4
 have HR0_5 := Aside0.mk hr0_5
 have HC0_5 := Aside0.mk hc0_5
 clear hr0_5 hc0_5
 have HR1 := Aside0.mk hr1
 have HC1 := Aside0.mk hc1
 clear hr1 hc1
 have HB := Aside0.mk (Below.refl w.heap.size w)
 have H : ((spec_l2row.f k a0_0 l0_1 l0_2 a0_3 l0_4 l0_5 l1).bind fun t330 => (if t330 ≥ 0 then (if 0 ≤ t330 then (if t330 < (l0_1.length : Int) then ((some (([] : List Int) : List Int)).bind fun y332 => (if y332.length + ((rd_T92 l0_1 t330).f1).length < 140737488355328 then (some ((rd_T92 l0_1 t330).f2, true, (y332 ++ ((rd_T92 l0_1 t330).f1)))) else (none))) else (none)) else (none)) else ((spec_l2tomb.f k a0_0 l0_1 l0_2 a0_3 l0_4 l0_5 l1).bind fun t339 => (if t339 ≥ 0 then (if 0 ≤ t339 then (if t339 < (l0_2.length : Int) then (some ((rd_T94 l0_2 t339).f1, false, ([] : List Int))) else (none)) else (none)) else (some (a0_3, false, ([] : List Int))))))) = some (r1, r2, r3) := h
 clear h
 replace H := Option.bind_eq_some_iff.mp H
 obtain ⟨t330, A30, H⟩ := H
 replace H : (if t330 ≥ 0 then (if 0 ≤ t330 then (if t330 < (l0_1.length : Int) then ((some (([] : List Int) : List Int)).bind fun y332 => (if y332.length + ((rd_T92 l0_1 t330).f1).length < 140737488355328 then (some ((rd_T92 l0_1 t330).f2, true, (y332 ++ ((rd_T92 l0_1 t330).f1)))) else (none))) else (none)) else (none)) else ((spec_l2tomb.f k a0_0 l0_1 l0_2 a0_3 l0_4 l0_5 l1).bind fun t339 => (if t339 ≥ 0 then (if 0 ≤ t339 then (if t339 < (l0_2.length : Int) then (some ((rd_T94 l0_2 t339).f1, false, ([] : List Int))) else (none)) else (none)) else (some (a0_3, false, ([] : List Int)))))) = some (r1, r2, r3) := H
 have A3 := Aside0.mk A30
 clear A30
 by_cases c4 : t330 ≥ 0
 ·rw [if_pos c4] at H
  have c4b0 : decide (0 ≤ t330) = true := decide_eq_true c4
  clear c4
  by_cases c5 : 0 ≤ t330
  ·rw [if_pos c5] at H
   have c5b0 : decide (0 ≤ t330) = true := decide_eq_true c5
   clear c5
   by_cases c6 : t330 < (l0_1.length : Int)
   ·rw [if_pos c6] at H
    have c6b0 : decide (t330 < (l0_1.length : Int)) = true := decide_eq_true c6
    clear c6
    obtain ⟨y332, hy332⟩ : ∃ y_ : List Int, y_ = (([] : List Int)) := ⟨_, rfl⟩
    replace H : (if y332.length + ((rd_T92 l0_1 t330).f1).length < 140737488355328 then (some ((rd_T92 l0_1 t330).f2, true, (y332 ++ ((rd_T92 l0_1 t330).f1)))) else (none)) = some (r1, r2, r3) := by first | (rw [hy332]; with_reducible exact H) | (have H2_ := (Option.bind_some _ _).symm.trans H; rw [hy332]; with_reducible exact H2_) | (have H2_ := (Option.bind_some _ _).symm.trans H; with_reducible exact H2_) | with_reducible exact H | (rw [hy332]; exact H) | exact H
    have Ny332 := Aside0.mk hy332
    clear hy332
    by_cases c7 : y332.length + ((rd_T92 l0_1 t330).f1).length < 140737488355328
    ·rw [if_pos c7] at H
     have LMc7 := Aside0.mk c7
     clear c7
     obtain ⟨y336, hy336⟩ : ∃ y_ : List Int, y_ = (y332 ++ ((rd_T92 l0_1 t330).f1)) := ⟨_, rfl⟩
     replace H : (some ((rd_T92 l0_1 t330).f2, true, y336)) = some (r1, r2, r3) := by first | (rw [hy336]; with_reducible exact H) | (have H2_ := (Option.bind_some _ _).symm.trans H; rw [hy336]; with_reducible exact H2_) | (have H2_ := (Option.bind_some _ _).symm.trans H; with_reducible exact H2_) | with_reducible exact H | (rw [hy336]; exact H) | exact H
     have Ny336 := Aside0.mk hy336
     clear hy336
     simp only [Option.some.injEq, Prod.mk.injEq] at H
     obtain ⟨rfl, rfl, rfl⟩ := H
     go_enter Try.func140, Try.ntmps140
     try go_wp2_with (first | ((with_reducible refine gate_dst (N := 2) rfl ?_); refine bx_ 2 #[.int .i64 a0_0, .slice A0_1 l0_1.length c0_1, .slice A0_2 l0_2.length c0_2, .int .i64 a0_3, .slice A0_4 l0_4.length c0_4, .slice A0_5 l0_5.length c0_5] 35 (h := ?_); intro gb328 hg w8 hbox hb; have BK328 := Aside0.mk (hbox); have GW328 := Aside0.mk ((by rw [hg]; exact (below_size bel) : w.heap.size ≤ gb328)); have GE328 := GW328; replace HB := bst hb; clear hb hbox hg) | ((with_reducible refine gate_dst (N := 4) rfl ?_); refine bx_ 4 #[.int .i64 0, .bool false, .slice none 0 0] 89 (h := ?_); intro gb329 hg w9 hbox hb; have BK329 := Aside0.mk (hbox); have GW329 := Aside0.mk ((by rw [hg]; exact (below_size bel) : w.heap.size ≤ gb329)); have GE329 := GW329; have NB328_329 := Aside0.mk ((by rw [hg]; exact Nat.ne_of_lt (blt BK328) : gb328 ≠ gb329)); have NB329_328 := Aside0.mk NB328_329.out.symm; replace BK328 := Aside0.mk (blb BK328 hb); replace HB := bst hb; clear hb hbox hg; have hnb10 := NB328_329.out; have hnc10 := NB329_328.out; obtain ⟨C11_0, C11_1, C11_2, C11_3, C11_4, C11_5, -⟩ := cells_6 BK328.out trivial; obtain ⟨F11_0, F11_1, F11_2, F11_3, F11_4, F11_5, -⟩ := frz_6 BK328.out) | ((with_reducible refine gate_callee (f := 75) rfl ?_); refine gl_ (some 9) Try.func75 #[.agg #[.int .i64 a0_0, .slice A0_1 l0_1.length c0_1, .slice A0_2 l0_2.length c0_2, .int .i64 a0_3, .slice A0_4 l0_4.length c0_4, .slice A0_5 l0_5.length c0_5], .slice A1 l1.length c1] (h := ?_); (with_reducible refine (spec_l2row.calls k a0_0 _ _ l0_1 _ _ l0_2 a0_3 _ _ l0_4 _ _ l0_5 _ _ l1 t330 _ ?side1 ?side2 ?side3 ?side4 ?side5 ?side6 ?side7 ?side8 ?side9 ?side10 A3.out).mono ?_); (case side1 => exact kcb); (case side2 => exact HC0_1.out); (case side3 => exact kcb); (case side4 => exact HC0_2.out); (case side5 => exact kcb); (case side6 => exact HC0_4.out); (case side7 => exact kcb); (case side8 => exact HC0_5.out); (case side9 => exact kcb); (case side10 => exact HC1.out); rintro e w12 ⟨rfl, hb⟩; refine ⟨_, rfl, ?_⟩; replace BK328 := Aside0.mk (blb BK328 hb); replace BK329 := Aside0.mk (blb BK329 hb); replace HB := bst hb; (try clear hb); (try clear hb2); (try clear hk); (try clear hi)))
     replace BK328 := Aside0.mk (blk_drew BK328.out)
     replace BK329 := Aside0.mk (blk_drew BK329.out)
     replace HB := Aside0.mk (below_drew1 HB.out)
     have p331 : 0 ≤ (t330 : Int) := od
     have q331 : t330 < (l0_1.length : Int) := od
     obtain ⟨ad331, A331_0, c331_0, A331_1, c331_1, e331, hx331_0, hx331_1, hx331_2, hx331_3, hl331_0, hi331_0, hl331_1, hi331_1⟩ := at_T92 HR0_1.out t330 p331 q331
     have hw331_3 := hx331_3
     have hw331_2 := hx331_2
     have hw331_1 := hx331_1
     have hw331_0 := hx331_0
     cases e331
     replace hx331_0 := hxb HB hx331_0
     replace hx331_1 := hxb HB hx331_1
     replace hx331_2 := hxb HB hx331_2
     replace hx331_3 := hxb HB hx331_3
     have HR331_0 := Aside0.mk hi331_0
     have HC331_0 := Aside0.mk hl331_0
     clear hi331_0 hl331_0
     have HR331_1 := Aside0.mk hi331_1
     have HC331_1 := Aside0.mk hl331_1
     clear hi331_1 hl331_1
     replace p331 := eq_true p331
     replace q331 := eq_true q331
     have p335 : 0 ≤ (t330 : Int) := od
     have q335 : t330 < (l0_1.length : Int) := od
     obtain ⟨ad335, A335_0, c335_0, A335_1, c335_1, e335, hx335_0, hx335_1, hx335_2, hx335_3, hl335_0, hi335_0, hl335_1, hi335_1⟩ := at_T92 HR0_1.out t330 p335 q335
     have hw335_3 := hx335_3
     have hw335_2 := hx335_2
     have hw335_1 := hx335_1
     have hw335_0 := hx335_0
     obtain rfl : ad331 = ad335 := (by injection e335)
     replace hx335_0 := hxb HB hx335_0
     replace hx335_1 := hxb HB hx335_1
     replace hx335_2 := hxb HB hx335_2
     replace hx335_3 := hxb HB hx335_3
     have HR335_0 := Aside0.mk hi335_0
     have HC335_0 := Aside0.mk hl335_0
     clear hi335_0 hl335_0
     have HR335_1 := Aside0.mk hi335_1
     have HC335_1 := Aside0.mk hl335_1
     clear hi335_1 hl335_1
     replace p335 := eq_true p335
     replace q335 := eq_true q335
     have ea_ := Option.some.inj (hx331_0.symm.trans hx335_0)
     injection ea_ with ea_ en_ ec_
     subst ea_
     subst ec_
     clear en_
     have ea_ := Option.some.inj (hx331_1.symm.trans hx335_1)
     injection ea_ with ea_ en_ ec_
     subst ea_
     subst ec_
     clear en_
     refine start_ (n := 16) (S := fun w' => w'.cell? ⟨gb328, 0, none⟩ = some (.int .i64 a0_0) ∧ w'.cell? ⟨gb328, 1, none⟩ = some (.slice (some ad331) l0_1.length c0_1) ∧ w'.cell? ⟨gb328, 2, none⟩ = some (.slice A0_2 l0_2.length c0_2) ∧ w'.cell? ⟨gb328, 3, none⟩ = some (.int .i64 a0_3) ∧ w'.cell? ⟨gb328, 4, none⟩ = some (.slice A0_4 l0_4.length c0_4) ∧ w'.cell? ⟨gb328, 5, none⟩ = some (.slice A0_5 l0_5.length c0_5) ∧ w'.cell? (ad331.add ((t330).toNat * 4)) = some (.slice A331_0 ((rd_T92 l0_1 t330).f0).length c331_0) ∧ w'.cell? ⟨(ad331.add ((t330).toNat * 4)).block, (ad331.add ((t330).toNat * 4)).off + 1, none⟩ = some (.slice A331_1 ((rd_T92 l0_1 t330).f1).length c331_1) ∧ w'.cell? ⟨(ad331.add ((t330).toNat * 4)).block, (ad331.add ((t330).toNat * 4)).off + 2, none⟩ = some (.int .i64 ((rd_T92 l0_1 t330).f2)) ∧ w'.cell? ⟨(ad331.add ((t330).toNat * 4)).block, (ad331.add ((t330).toNat * 4)).off + 3, none⟩ = some (.int .i64 ((rd_T92 l0_1 t330).f3)) ∧ w'.cell? (ad331.add ((t330).toNat * 4)) = some (.slice A331_0 ((rd_T92 l0_1 t330).f0).length c331_0) ∧ w'.cell? ⟨(ad331.add ((t330).toNat * 4)).block, (ad331.add ((t330).toNat * 4)).off + 1, none⟩ = some (.slice A331_1 ((rd_T92 l0_1 t330).f1).length c331_1) ∧ w'.cell? ⟨(ad331.add ((t330).toNat * 4)).block, (ad331.add ((t330).toNat * 4)).off + 2, none⟩ = some (.int .i64 ((rd_T92 l0_1 t330).f2)) ∧ w'.cell? ⟨(ad331.add ((t330).toNat * 4)).block, (ad331.add ((t330).toNat * 4)).off + 3, none⟩ = some (.int .i64 ((rd_T92 l0_1 t330).f3))) (ds := []) (tf 0 16) (by kernel_rfl) rfl rfl (cells_6 BK328.out ⟨(hxb HB hw331_0 :), (hxb HB hw331_1 :), (hxb HB hw331_2 :), (hxb HB hw331_3 :), (hxb HB hw335_0 :), (hxb HB hw335_1 :), (hxb HB hw335_2 :), (hxb HB hw335_3 :)⟩) (fun hHeld => ?_); refine with_tabW spec_l2look.tab3 spec_l2look.bits3 (fun HT_ HW_ => ?_)
     generalize w12.drew = w13 at BK328 BK329 HB HR331_0 HR331_1 HR335_0 HR335_1 hx331_0 hx331_1 hx331_2 hx331_3 hx335_0 hx335_1 hx335_2 hx335_3 hHeld ⊢
     refine pvn_ HT_ (h := ?_)
     refine pv_ HT_ 2 (some 14) (tb 16 5) (h := ?_)
     refine pv_ HT_ 7 (some 19) (tb 16 133) (h := ?_)
     refine pv_ HT_ 9 (some 21) (tb 16 645) (h := ?_)
     refine tv_ HT_ HW_ hHeld 1 (some 13) (tb 16 647) (h := ?_)
     refine pv_ HT_ 3 (some 15) (tb 16 655) (h := ?_)
     refine pv_ HT_ 4 (some 16) (tb 16 671) (h := ?_)
     refine tv_ HT_ HW_ hHeld 5 (some 17) (tb 16 703) (h := ?_)
     refine tv_ HT_ HW_ hHeld 8 (some 20) (tb 16 959) (h := ?_)
     refine pv_ HT_ 10 (some 22) (tb 16 1983) (h := ?_)
     refine pv_ HT_ 11 (some 23) (tb 16 4031) (h := ?_)
     refine tv_ HT_ HW_ hHeld 12 (some 24) (tb 16 8127) (h := ?_)
     refine one_ (i := 6) (N := some 18) (tf 13 3) rfl rfl (one_of HT_.out (by kernel_rfl)) (by decide) (fun K hK => ?_)
     refine Kd.R_lit_step (Kd.int .u8) _ 5 ?hg (N := 18) ?hd (xs := ([] : List Int)) (inner := []) (ok := fun _ => True) (okp := fun _ => True) ?hr ?hp (fun _ hk => hk) trivial (Below.refl _ _) (Nat.le_refl _) (by simp) ?_; (case hd => rfl); (case hg => rfl); (case hr => first | (go_simp; done) | (go_simp; rfl)); (case hp => exact (Reps.none _ _))
     intro v333 w14 ho15 hb hg_ hnew_
     clear hg_ hnew_
     (first | rw [← Ny332.out] at ho15 | (simp only [Int.reduceToNat] at ho15; rw [← Ny332.out] at ho15))
     have HO334 := Aside0.mk (Kd.R_lower ho15 (below_size bel))
     replace BK328 := Aside0.mk (blb BK328 hb)
     replace BK329 := Aside0.mk (blb BK329 hb)
     replace HB := bst hb
     clear hb ho15
     refine hK.out _ _ (cells_6 BK328.out ⟨(hxb HB hw331_0 :), (hxb HB hw331_1 :), (hxb HB hw331_2 :), (hxb HB hw331_3 :), (hxb HB hw335_0 :), (hxb HB hw335_1 :), (hxb HB hw335_2 :), (hxb HB hw335_3 :)⟩) (fun hHeld => ?_)
     clear hK K
     refine nrm_ (some 18) (h := ?_)
     refine one_ (i := 13) (N := some 25) (tf 14 2) rfl rfl (one_of HT_.out (by kernel_rfl)) (by decide) (fun K hK => ?_)
     refine Kd.R_append_rows_step (Kd.int .u8) (w0 := w) w.heap.size (by rfl) (.tmp 18) (.tmp 24) 52 5 (.int .u8 0) 1 rfl Try.underlying52 info5 rfl (by decide) (by omega) v333 y332 ((rd_T92 l0_1 t330).f1) _ _ _ (fun _ => True) (fun _ => False) rfl rfl ?aO ?aR (fun _ _ h => h) (fun _ h => h.elim) ?aF ?aB ?aS ?aL ?_
     (case aR => repeat (first | exact (Kd.C_below HR335_1.out HB.out) | (with_reducible refine Kd.C_alloc ?_ _) | (with_reducible refine Kd.C_drewN ?_ _) | (with_reducible refine Kd.C_drew ?_)))
     (case aB => exact bel)
     (case aF => exact (fun _ _ => trivial))
     (case aO => exact (rkp HO334))
     (case aS => exact (below_size bel))
     (case aL => have := LMc7.out; omega)
     intro v337 w16 ho hb hg hat
     rw [← Ny336.out] at ho
     have n0_ := Aside0.mk (blk_grown (g := gb328) (o := .cells #[.int .i64 a0_0, .slice (some ad331) l0_1.length c0_1, .slice A0_2 l0_2.length c0_2, .int .i64 a0_3, .slice A0_4 l0_4.length c0_4, .slice A0_5 l0_5.length c0_5] 35 (0, 0)) (bkp BK328) hg (Kd.R_ne HO334.out BK328.out (by decide)))
     have n1_ := Aside0.mk (blk_grown (g := gb329) (o := .cells #[.int .i64 0, .bool false, .slice none 0 0] 89 (0, 0)) (bkp BK329) hg (Kd.R_ne HO334.out BK329.out (by decide)))
     have n2_ := Aside0.mk (hb)
     have n3_ := Aside0.mk (ho)
     clear BK328
     clear BK329
     clear HB
     clear HO334
     have BK328 := n0_
     have BK329 := n1_
     have HB := n2_
     have HO338 := n3_
     clear n0_ n1_ n2_ n3_
     clear ho hb hg hat
     obtain ⟨Ao17, co17, eo17⟩ := Kd.R_slice HO338.out
     (first | subst eo17 | (injection eo17 with f1_ f2_ f3_; have f4_ := f1_.symm; have f5_ := f3_.symm; clear f1_ f2_ f3_; subst f4_; subst f5_))
     refine hK.out _ _ (cells_6 BK328.out ⟨(hxb HB hw331_0 :), (hxb HB hw331_1 :), (hxb HB hw331_2 :), (hxb HB hw331_3 :), (hxb HB hw335_0 :), (hxb HB hw335_1 :), (hxb HB hw335_2 :), (hxb HB hw335_3 :)⟩) (fun hHeld => ?_)
     clear hK K
     refine nrm_ (some 25) (h := ?_)
     refine pv_ HT_ 14 (some 26) (tf 15 1) (h := ?_)
     refine one_ (i := 15) (N := none) (tf 16 0) rfl rfl (one_of HT_.out (by kernel_rfl)) (by decide) (fun K hK => ?_)
     have hs18 : w16.cell? ⟨gb329, 0, none⟩ = some (.int .i64 0) := (blk_cell BK329.out 0).trans rfl
     have hfs18 := blk_frozen BK329.out 0
     have hns18_0 := NB328_329.out
     have hms18_0 := NB329_328.out
     have hs19 : w16.cell? ⟨gb329, 1, none⟩ = some (.bool false) := (blk_cell BK329.out 1).trans rfl
     have hfs19 := blk_frozen BK329.out 1
     have hns19_0 := NB328_329.out
     have hms19_0 := NB329_328.out
     have hs20 : w16.cell? ⟨gb329, 2, none⟩ = some (.slice none 0 0) := (blk_cell BK329.out 2).trans rfl
     have hfs20 := blk_frozen BK329.out 2
     have hns20_0 := NB328_329.out
     have hms20_0 := NB329_328.out
     refine skip_ (w1 := ?_) (by rfl) rfl ?_ ?_
     rotate_left
     ·go_simp
      rfl
     refine hK.out _ _ ⟨((cell_far (p := ⟨gb329, _, none⟩) NB328_329.out _).trans (((cell_far (p := ⟨gb329, _, none⟩) NB328_329.out _).trans (((cell_far (p := ⟨gb329, _, none⟩) NB328_329.out _).trans (hHeld.1)))))), ((cell_far (p := ⟨gb329, _, none⟩) NB328_329.out _).trans (((cell_far (p := ⟨gb329, _, none⟩) NB328_329.out _).trans (((cell_far (p := ⟨gb329, _, none⟩) NB328_329.out _).trans (hHeld.2.1)))))), ((cell_far (p := ⟨gb329, _, none⟩) NB328_329.out _).trans (((cell_far (p := ⟨gb329, _, none⟩) NB328_329.out _).trans (((cell_far (p := ⟨gb329, _, none⟩) NB328_329.out _).trans (hHeld.2.2.1)))))), ((cell_far (p := ⟨gb329, _, none⟩) NB328_329.out _).trans (((cell_far (p := ⟨gb329, _, none⟩) NB328_329.out _).trans (((cell_far (p := ⟨gb329, _, none⟩) NB328_329.out _).trans (hHeld.2.2.2.1)))))), ((cell_far (p := ⟨gb329, _, none⟩) NB328_329.out _).trans (((cell_far (p := ⟨gb329, _, none⟩) NB328_329.out _).trans (((cell_far (p := ⟨gb329, _, none⟩) NB328_329.out _).trans (hHeld.2.2.2.2.1)))))), ((cell_far (p := ⟨gb329, _, none⟩) NB328_329.out _).trans (((cell_far (p := ⟨gb329, _, none⟩) NB328_329.out _).trans (((cell_far (p := ⟨gb329, _, none⟩) NB328_329.out _).trans (hHeld.2.2.2.2.2.1)))))), ((cell_far (p := ⟨gb329, _, none⟩) (by first | exact Nat.ne_of_lt (Nat.lt_of_lt_of_le (by have := World.block_lt_of_cell? _ _ hw331_0; first | rwa [add_block] at this | exact this) GW329.out) | (rw [add_block]; exact Nat.ne_of_lt (Nat.lt_of_lt_of_le (by have := World.block_lt_of_cell? _ _ hw331_0; first | rwa [add_block] at this | exact this) GW329.out)) | (show (Addr.add _ _).block ≠ _; rw [add_block]; exact Nat.ne_of_lt (Nat.lt_of_lt_of_le (by have := World.block_lt_of_cell? _ _ hw331_0; first | rwa [add_block] at this | exact this) GW329.out)) | (dsimp only; exact Nat.ne_of_lt (Nat.lt_of_lt_of_le (by have := World.block_lt_of_cell? _ _ hw331_0; first | rwa [add_block] at this | exact this) GW329.out))) _).trans (((cell_far (p := ⟨gb329, _, none⟩) (by first | exact Nat.ne_of_lt (Nat.lt_of_lt_of_le (by have := World.block_lt_of_cell? _ _ hw331_0; first | rwa [add_block] at this | exact this) GW329.out) | (rw [add_block]; exact Nat.ne_of_lt (Nat.lt_of_lt_of_le (by have := World.block_lt_of_cell? _ _ hw331_0; first | rwa [add_block] at this | exact this) GW329.out)) | (show (Addr.add _ _).block ≠ _; rw [add_block]; exact Nat.ne_of_lt (Nat.lt_of_lt_of_le (by have := World.block_lt_of_cell? _ _ hw331_0; first | rwa [add_block] at this | exact this) GW329.out)) | (dsimp only; exact Nat.ne_of_lt (Nat.lt_of_lt_of_le (by have := World.block_lt_of_cell? _ _ hw331_0; first | rwa [add_block] at this | exact this) GW329.out))) _).trans (((cell_far (p := ⟨gb329, _, none⟩) (by first | exact Nat.ne_of_lt (Nat.lt_of_lt_of_le (by have := World.block_lt_of_cell? _ _ hw331_0; first | rwa [add_block] at this | exact this) GW329.out) | (rw [add_block]; exact Nat.ne_of_lt (Nat.lt_of_lt_of_le (by have := World.block_lt_of_cell? _ _ hw331_0; first | rwa [add_block] at this | exact this) GW329.out)) | (show (Addr.add _ _).block ≠ _; rw [add_block]; exact Nat.ne_of_lt (Nat.lt_of_lt_of_le (by have := World.block_lt_of_cell? _ _ hw331_0; first | rwa [add_block] at this | exact this) GW329.out)) | (dsimp only; exact Nat.ne_of_lt (Nat.lt_of_lt_of_le (by have := World.block_lt_of_cell? _ _ hw331_0; first | rwa [add_block] at this | exact this) GW329.out))) _).trans (hHeld.2.2.2.2.2.2.1)))))), ((cell_far (p := ⟨gb329, _, none⟩) (by first | exact Nat.ne_of_lt (Nat.lt_of_lt_of_le (by have := World.block_lt_of_cell? _ _ hw331_1; first | rwa [add_block] at this | exact this) GW329.out) | (rw [add_block]; exact Nat.ne_of_lt (Nat.lt_of_lt_of_le (by have := World.block_lt_of_cell? _ _ hw331_1; first | rwa [add_block] at this | exact this) GW329.out)) | (show (Addr.add _ _).block ≠ _; rw [add_block]; exact Nat.ne_of_lt (Nat.lt_of_lt_of_le (by have := World.block_lt_of_cell? _ _ hw331_1; first | rwa [add_block] at this | exact this) GW329.out)) | (dsimp only; exact Nat.ne_of_lt (Nat.lt_of_lt_of_le (by have := World.block_lt_of_cell? _ _ hw331_1; first | rwa [add_block] at this | exact this) GW329.out))) _).trans (((cell_far (p := ⟨gb329, _, none⟩) (by first | exact Nat.ne_of_lt (Nat.lt_of_lt_of_le (by have := World.block_lt_of_cell? _ _ hw331_1; first | rwa [add_block] at this | exact this) GW329.out) | (rw [add_block]; exact Nat.ne_of_lt (Nat.lt_of_lt_of_le (by have := World.block_lt_of_cell? _ _ hw331_1; first | rwa [add_block] at this | exact this) GW329.out)) | (show (Addr.add _ _).block ≠ _; rw [add_block]; exact Nat.ne_of_lt (Nat.lt_of_lt_of_le (by have := World.block_lt_of_cell? _ _ hw331_1; first | rwa [add_block] at this | exact this) GW329.out)) | (dsimp only; exact Nat.ne_of_lt (Nat.lt_of_lt_of_le (by have := World.block_lt_of_cell? _ _ hw331_1; first | rwa [add_block] at this | exact this) GW329.out))) _).trans (((cell_far (p := ⟨gb329, _, none⟩) (by first | exact Nat.ne_of_lt (Nat.lt_of_lt_of_le (by have := World.block_lt_of_cell? _ _ hw331_1; first | rwa [add_block] at this | exact this) GW329.out) | (rw [add_block]; exact Nat.ne_of_lt (Nat.lt_of_lt_of_le (by have := World.block_lt_of_cell? _ _ hw331_1; first | rwa [add_block] at this | exact this) GW329.out)) | (show (Addr.add _ _).block ≠ _; rw [add_block]; exact Nat.ne_of_lt (Nat.lt_of_lt_of_le (by have := World.block_lt_of_cell? _ _ hw331_1; first | rwa [add_block] at this | exact this) GW329.out)) | (dsimp only; exact Nat.ne_of_lt (Nat.lt_of_lt_of_le (by have := World.block_lt_of_cell? _ _ hw331_1; first | rwa [add_block] at this | exact this) GW329.out))) _).trans (hHeld.2.2.2.2.2.2.2.1)))))), ((cell_far (p := ⟨gb329, _, none⟩) (by first | exact Nat.ne_of_lt (Nat.lt_of_lt_of_le (by have := World.block_lt_of_cell? _ _ hw331_2; first | rwa [add_block] at this | exact this) GW329.out) | (rw [add_block]; exact Nat.ne_of_lt (Nat.lt_of_lt_of_le (by have := World.block_lt_of_cell? _ _ hw331_2; first | rwa [add_block] at this | exact this) GW329.out)) | (show (Addr.add _ _).block ≠ _; rw [add_block]; exact Nat.ne_of_lt (Nat.lt_of_lt_of_le (by have := World.block_lt_of_cell? _ _ hw331_2; first | rwa [add_block] at this | exact this) GW329.out)) | (dsimp only; exact Nat.ne_of_lt (Nat.lt_of_lt_of_le (by have := World.block_lt_of_cell? _ _ hw331_2; first | rwa [add_block] at this | exact this) GW329.out))) _).trans (((cell_far (p := ⟨gb329, _, none⟩) (by first | exact Nat.ne_of_lt (Nat.lt_of_lt_of_le (by have := World.block_lt_of_cell? _ _ hw331_2; first | rwa [add_block] at this | exact this) GW329.out) | (rw [add_block]; exact Nat.ne_of_lt (Nat.lt_of_lt_of_le (by have := World.block_lt_of_cell? _ _ hw331_2; first | rwa [add_block] at this | exact this) GW329.out)) | (show (Addr.add _ _).block ≠ _; rw [add_block]; exact Nat.ne_of_lt (Nat.lt_of_lt_of_le (by have := World.block_lt_of_cell? _ _ hw331_2; first | rwa [add_block] at this | exact this) GW329.out)) | (dsimp only; exact Nat.ne_of_lt (Nat.lt_of_lt_of_le (by have := World.block_lt_of_cell? _ _ hw331_2; first | rwa [add_block] at this | exact this) GW329.out))) _).trans (((cell_far (p := ⟨gb329, _, none⟩) (by first | exact Nat.ne_of_lt (Nat.lt_of_lt_of_le (by have := World.block_lt_of_cell? _ _ hw331_2; first | rwa [add_block] at this | exact this) GW329.out) | (rw [add_block]; exact Nat.ne_of_lt (Nat.lt_of_lt_of_le (by have := World.block_lt_of_cell? _ _ hw331_2; first | rwa [add_block] at this | exact this) GW329.out)) | (show (Addr.add _ _).block ≠ _; rw [add_block]; exact Nat.ne_of_lt (Nat.lt_of_lt_of_le (by have := World.block_lt_of_cell? _ _ hw331_2; first | rwa [add_block] at this | exact this) GW329.out)) | (dsimp only; exact Nat.ne_of_lt (Nat.lt_of_lt_of_le (by have := World.block_lt_of_cell? _ _ hw331_2; first | rwa [add_block] at this | exact this) GW329.out))) _).trans (hHeld.2.2.2.2.2.2.2.2.1)))))), ((cell_far (p := ⟨gb329, _, none⟩) (by first | exact Nat.ne_of_lt (Nat.lt_of_lt_of_le (by have := World.block_lt_of_cell? _ _ hw331_3; first | rwa [add_block] at this | exact this) GW329.out) | (rw [add_block]; exact Nat.ne_of_lt (Nat.lt_of_lt_of_le (by have := World.block_lt_of_cell? _ _ hw331_3; first | rwa [add_block] at this | exact this) GW329.out)) | (show (Addr.add _ _).block ≠ _; rw [add_block]; exact Nat.ne_of_lt (Nat.lt_of_lt_of_le (by have := World.block_lt_of_cell? _ _ hw331_3; first | rwa [add_block] at this | exact this) GW329.out)) | (dsimp only; exact Nat.ne_of_lt (Nat.lt_of_lt_of_le (by have := World.block_lt_of_cell? _ _ hw331_3; first | rwa [add_block] at this | exact this) GW329.out))) _).trans (((cell_far (p := ⟨gb329, _, none⟩) (by first | exact Nat.ne_of_lt (Nat.lt_of_lt_of_le (by have := World.block_lt_of_cell? _ _ hw331_3; first | rwa [add_block] at this | exact this) GW329.out) | (rw [add_block]; exact Nat.ne_of_lt (Nat.lt_of_lt_of_le (by have := World.block_lt_of_cell? _ _ hw331_3; first | rwa [add_block] at this | exact this) GW329.out)) | (show (Addr.add _ _).block ≠ _; rw [add_block]; exact Nat.ne_of_lt (Nat.lt_of_lt_of_le (by have := World.block_lt_of_cell? _ _ hw331_3; first | rwa [add_block] at this | exact this) GW329.out)) | (dsimp only; exact Nat.ne_of_lt (Nat.lt_of_lt_of_le (by have := World.block_lt_of_cell? _ _ hw331_3; first | rwa [add_block] at this | exact this) GW329.out))) _).trans (((cell_far (p := ⟨gb329, _, none⟩) (by first | exact Nat.ne_of_lt (Nat.lt_of_lt_of_le (by have := World.block_lt_of_cell? _ _ hw331_3; first | rwa [add_block] at this | exact this) GW329.out) | (rw [add_block]; exact Nat.ne_of_lt (Nat.lt_of_lt_of_le (by have := World.block_lt_of_cell? _ _ hw331_3; first | rwa [add_block] at this | exact this) GW329.out)) | (show (Addr.add _ _).block ≠ _; rw [add_block]; exact Nat.ne_of_lt (Nat.lt_of_lt_of_le (by have := World.block_lt_of_cell? _ _ hw331_3; first | rwa [add_block] at this | exact this) GW329.out)) | (dsimp only; exact Nat.ne_of_lt (Nat.lt_of_lt_of_le (by have := World.block_lt_of_cell? _ _ hw331_3; first | rwa [add_block] at this | exact this) GW329.out))) _).trans (hHeld.2.2.2.2.2.2.2.2.2.1)))))), ((cell_far (p := ⟨gb329, _, none⟩) (by first | exact Nat.ne_of_lt (Nat.lt_of_lt_of_le (by have := World.block_lt_of_cell? _ _ hw335_0; first | rwa [add_block] at this | exact this) GW329.out) | (rw [add_block]; exact Nat.ne_of_lt (Nat.lt_of_lt_of_le (by have := World.block_lt_of_cell? _ _ hw335_0; first | rwa [add_block] at this | exact this) GW329.out)) | (show (Addr.add _ _).block ≠ _; rw [add_block]; exact Nat.ne_of_lt (Nat.lt_of_lt_of_le (by have := World.block_lt_of_cell? _ _ hw335_0; first | rwa [add_block] at this | exact this) GW329.out)) | (dsimp only; exact Nat.ne_of_lt (Nat.lt_of_lt_of_le (by have := World.block_lt_of_cell? _ _ hw335_0; first | rwa [add_block] at this | exact this) GW329.out))) _).trans (((cell_far (p := ⟨gb329, _, none⟩) (by first | exact Nat.ne_of_lt (Nat.lt_of_lt_of_le (by have := World.block_lt_of_cell? _ _ hw335_0; first | rwa [add_block] at this | exact this) GW329.out) | (rw [add_block]; exact Nat.ne_of_lt (Nat.lt_of_lt_of_le (by have := World.block_lt_of_cell? _ _ hw335_0; first | rwa [add_block] at this | exact this) GW329.out)) | (show (Addr.add _ _).block ≠ _; rw [add_block]; exact Nat.ne_of_lt (Nat.lt_of_lt_of_le (by have := World.block_lt_of_cell? _ _ hw335_0; first | rwa [add_block] at this | exact this) GW329.out)) | (dsimp only; exact Nat.ne_of_lt (Nat.lt_of_lt_of_le (by have := World.block_lt_of_cell? _ _ hw335_0; first | rwa [add_block] at this | exact this) GW329.out))) _).trans (((cell_far (p := ⟨gb329, _, none⟩) (by first | exact Nat.ne_of_lt (Nat.lt_of_lt_of_le (by have := World.block_lt_of_cell? _ _ hw335_0; first | rwa [add_block] at this | exact this) GW329.out) | (rw [add_block]; exact Nat.ne_of_lt (Nat.lt_of_lt_of_le (by have := World.block_lt_of_cell? _ _ hw335_0; first | rwa [add_block] at this | exact this) GW329.out)) | (show (Addr.add _ _).block ≠ _; rw [add_block]; exact Nat.ne_of_lt (Nat.lt_of_lt_of_le (by have := World.block_lt_of_cell? _ _ hw335_0; first | rwa [add_block] at this | exact this) GW329.out)) | (dsimp only; exact Nat.ne_of_lt (Nat.lt_of_lt_of_le (by have := World.block_lt_of_cell? _ _ hw335_0; first | rwa [add_block] at this | exact this) GW329.out))) _).trans (hHeld.2.2.2.2.2.2.2.2.2.2.1)))))), ((cell_far (p := ⟨gb329, _, none⟩) (by first | exact Nat.ne_of_lt (Nat.lt_of_lt_of_le (by have := World.block_lt_of_cell? _ _ hw335_1; first | rwa [add_block] at this | exact this) GW329.out) | (rw [add_block]; exact Nat.ne_of_lt (Nat.lt_of_lt_of_le (by have := World.block_lt_of_cell? _ _ hw335_1; first | rwa [add_block] at this | exact this) GW329.out)) | (show (Addr.add _ _).block ≠ _; rw [add_block]; exact Nat.ne_of_lt (Nat.lt_of_lt_of_le (by have := World.block_lt_of_cell? _ _ hw335_1; first | rwa [add_block] at this | exact this) GW329.out)) | (dsimp only; exact Nat.ne_of_lt (Nat.lt_of_lt_of_le (by have := World.block_lt_of_cell? _ _ hw335_1; first | rwa [add_block] at this | exact this) GW329.out))) _).trans (((cell_far (p := ⟨gb329, _, none⟩) (by first | exact Nat.ne_of_lt (Nat.lt_of_lt_of_le (by have := World.block_lt_of_cell? _ _ hw335_1; first | rwa [add_block] at this | exact this) GW329.out) | (rw [add_block]; exact Nat.ne_of_lt (Nat.lt_of_lt_of_le (by have := World.block_lt_of_cell? _ _ hw335_1; first | rwa [add_block] at this | exact this) GW329.out)) | (show (Addr.add _ _).block ≠ _; rw [add_block]; exact Nat.ne_of_lt (Nat.lt_of_lt_of_le (by have := World.block_lt_of_cell? _ _ hw335_1; first | rwa [add_block] at this | exact this) GW329.out)) | (dsimp only; exact Nat.ne_of_lt (Nat.lt_of_lt_of_le (by have := World.block_lt_of_cell? _ _ hw335_1; first | rwa [add_block] at this | exact this) GW329.out))) _).trans (((cell_far (p := ⟨gb329, _, none⟩) (by first | exact Nat.ne_of_lt (Nat.lt_of_lt_of_le (by have := World.block_lt_of_cell? _ _ hw335_1; first | rwa [add_block] at this | exact this) GW329.out) | (rw [add_block]; exact Nat.ne_of_lt (Nat.lt_of_lt_of_le (by have := World.block_lt_of_cell? _ _ hw335_1; first | rwa [add_block] at this | exact this) GW329.out)) | (show (Addr.add _ _).block ≠ _; rw [add_block]; exact Nat.ne_of_lt (Nat.lt_of_lt_of_le (by have := World.block_lt_of_cell? _ _ hw335_1; first | rwa [add_block] at this | exact this) GW329.out)) | (dsimp only; exact Nat.ne_of_lt (Nat.lt_of_lt_of_le (by have := World.block_lt_of_cell? _ _ hw335_1; first | rwa [add_block] at this | exact this) GW329.out))) _).trans (hHeld.2.2.2.2.2.2.2.2.2.2.2.1)))))), ((cell_far (p := ⟨gb329, _, none⟩) (by first | exact Nat.ne_of_lt (Nat.lt_of_lt_of_le (by have := World.block_lt_of_cell? _ _ hw335_2; first | rwa [add_block] at this | exact this) GW329.out) | (rw [add_block]; exact Nat.ne_of_lt (Nat.lt_of_lt_of_le (by have := World.block_lt_of_cell? _ _ hw335_2; first | rwa [add_block] at this | exact this) GW329.out)) | (show (Addr.add _ _).block ≠ _; rw [add_block]; exact Nat.ne_of_lt (Nat.lt_of_lt_of_le (by have := World.block_lt_of_cell? _ _ hw335_2; first | rwa [add_block] at this | exact this) GW329.out)) | (dsimp only; exact Nat.ne_of_lt (Nat.lt_of_lt_of_le (by have := World.block_lt_of_cell? _ _ hw335_2; first | rwa [add_block] at this | exact this) GW329.out))) _).trans (((cell_far (p := ⟨gb329, _, none⟩) (by first | exact Nat.ne_of_lt (Nat.lt_of_lt_of_le (by have := World.block_lt_of_cell? _ _ hw335_2; first | rwa [add_block] at this | exact this) GW329.out) | (rw [add_block]; exact Nat.ne_of_lt (Nat.lt_of_lt_of_le (by have := World.block_lt_of_cell? _ _ hw335_2; first | rwa [add_block] at this | exact this) GW329.out)) | (show (Addr.add _ _).block ≠ _; rw [add_block]; exact Nat.ne_of_lt (Nat.lt_of_lt_of_le (by have := World.block_lt_of_cell? _ _ hw335_2; first | rwa [add_block] at this | exact this) GW329.out)) | (dsimp only; exact Nat.ne_of_lt (Nat.lt_of_lt_of_le (by have := World.block_lt_of_cell? _ _ hw335_2; first | rwa [add_block] at this | exact this) GW329.out))) _).trans (((cell_far (p := ⟨gb329, _, none⟩) (by first | exact Nat.ne_of_lt (Nat.lt_of_lt_of_le (by have := World.block_lt_of_cell? _ _ hw335_2; first | rwa [add_block] at this | exact this) GW329.out) | (rw [add_block]; exact Nat.ne_of_lt (Nat.lt_of_lt_of_le (by have := World.block_lt_of_cell? _ _ hw335_2; first | rwa [add_block] at this | exact this) GW329.out)) | (show (Addr.add _ _).block ≠ _; rw [add_block]; exact Nat.ne_of_lt (Nat.lt_of_lt_of_le (by have := World.block_lt_of_cell? _ _ hw335_2; first | rwa [add_block] at this | exact this) GW329.out)) | (dsimp only; exact Nat.ne_of_lt (Nat.lt_of_lt_of_le (by have := World.block_lt_of_cell? _ _ hw335_2; first | rwa [add_block] at this | exact this) GW329.out))) _).trans (hHeld.2.2.2.2.2.2.2.2.2.2.2.2.1)))))), ((cell_far (p := ⟨gb329, _, none⟩) (by first | exact Nat.ne_of_lt (Nat.lt_of_lt_of_le (by have := World.block_lt_of_cell? _ _ hw335_3; first | rwa [add_block] at this | exact this) GW329.out) | (rw [add_block]; exact Nat.ne_of_lt (Nat.lt_of_lt_of_le (by have := World.block_lt_of_cell? _ _ hw335_3; first | rwa [add_block] at this | exact this) GW329.out)) | (show (Addr.add _ _).block ≠ _; rw [add_block]; exact Nat.ne_of_lt (Nat.lt_of_lt_of_le (by have := World.block_lt_of_cell? _ _ hw335_3; first | rwa [add_block] at this | exact this) GW329.out)) | (dsimp only; exact Nat.ne_of_lt (Nat.lt_of_lt_of_le (by have := World.block_lt_of_cell? _ _ hw335_3; first | rwa [add_block] at this | exact this) GW329.out))) _).trans (((cell_far (p := ⟨gb329, _, none⟩) (by first | exact Nat.ne_of_lt (Nat.lt_of_lt_of_le (by have := World.block_lt_of_cell? _ _ hw335_3; first | rwa [add_block] at this | exact this) GW329.out) | (rw [add_block]; exact Nat.ne_of_lt (Nat.lt_of_lt_of_le (by have := World.block_lt_of_cell? _ _ hw335_3; first | rwa [add_block] at this | exact this) GW329.out)) | (show (Addr.add _ _).block ≠ _; rw [add_block]; exact Nat.ne_of_lt (Nat.lt_of_lt_of_le (by have := World.block_lt_of_cell? _ _ hw335_3; first | rwa [add_block] at this | exact this) GW329.out)) | (dsimp only; exact Nat.ne_of_lt (Nat.lt_of_lt_of_le (by have := World.block_lt_of_cell? _ _ hw335_3; first | rwa [add_block] at this | exact this) GW329.out))) _).trans (((cell_far (p := ⟨gb329, _, none⟩) (by first | exact Nat.ne_of_lt (Nat.lt_of_lt_of_le (by have := World.block_lt_of_cell? _ _ hw335_3; first | rwa [add_block] at this | exact this) GW329.out) | (rw [add_block]; exact Nat.ne_of_lt (Nat.lt_of_lt_of_le (by have := World.block_lt_of_cell? _ _ hw335_3; first | rwa [add_block] at this | exact this) GW329.out)) | (show (Addr.add _ _).block ≠ _; rw [add_block]; exact Nat.ne_of_lt (Nat.lt_of_lt_of_le (by have := World.block_lt_of_cell? _ _ hw335_3; first | rwa [add_block] at this | exact this) GW329.out)) | (dsimp only; exact Nat.ne_of_lt (Nat.lt_of_lt_of_le (by have := World.block_lt_of_cell? _ _ hw335_3; first | rwa [add_block] at this | exact this) GW329.out))) _).trans (hHeld.2.2.2.2.2.2.2.2.2.2.2.2.2))))))⟩ (fun hHeld => ?_)
     clear hK K
     refine done_ (done_of HT_.out (by kernel_rfl)) ?_
     try go_wp2
     refine bodyPost_ret (results_cell_row rfl _ _ gb329 89 #[.int .i64 ((rd_T92 l0_1 t330).f2), .bool true, .slice Ao17 y336.length co17] (0, 0) _ rfl (by (with_reducible repeat (first | refine blk_drewN ?_ _ | refine blk_drew ?_ | refine blk_alloc ?_ _)); refine blk_put (cs := #[.int .i64 ((rd_T92 l0_1 t330).f2), .bool true, .slice none 0 0]) ?_ 2 _ rfl; (with_reducible repeat (first | refine blk_drewN ?_ _ | refine blk_drew ?_ | refine blk_alloc ?_ _)); refine blk_put (cs := #[.int .i64 ((rd_T92 l0_1 t330).f2), .bool false, .slice none 0 0]) ?_ 1 _ rfl; (with_reducible repeat (first | refine blk_drewN ?_ _ | refine blk_drew ?_ | refine blk_alloc ?_ _)); refine blk_put (cs := #[.int .i64 0, .bool false, .slice none 0 0]) ?_ 0 _ rfl; (with_reducible repeat (first | refine blk_drewN ?_ _ | refine blk_drew ?_ | refine blk_alloc ?_ _)); exact BK329.out) Try.underlying89 rfl (by kernel_rfl)) rfl ?_
     exact ⟨_, rz_, by (with_reducible repeat (first | apply Kd.R_alloc | apply Kd.R_drewN | apply Kd.R_drew)); exact Kd.R_mono (Kd.R_far (p := ⟨gb329, 2, none⟩) (Kd.R_far (p := ⟨gb329, 1, none⟩) (Kd.R_far (p := ⟨gb329, 0, none⟩) (Kd.R_types HO338.out BK329.out (by decide)) (fun _ hk => hk.2) (.int .i64 ((rd_T92 l0_1 t330).f2))) (fun _ hk => hk.2) (.bool true)) (fun _ hk => hk.2) (.slice Ao17 y336.length co17)) (fun _ hk => trivial), bel⟩
    rw [if_neg c7] at H
    exact absurd H (by simp)
   rw [if_neg c6] at H
   exact absurd H (by simp)
  rw [if_neg c5] at H
  exact absurd H (by simp)
 rw [if_neg c4] at H
 have c4b0 : decide (0 ≤ t330) = false := decide_eq_false c4
 clear c4
 replace H := Option.bind_eq_some_iff.mp H
 obtain ⟨t339, A210, H⟩ := H
 replace H : (if t339 ≥ 0 then (if 0 ≤ t339 then (if t339 < (l0_2.length : Int) then (some ((rd_T94 l0_2 t339).f1, false, ([] : List Int))) else (none)) else (none)) else (some (a0_3, false, ([] : List Int)))) = some (r1, r2, r3) := H
 have A21 := Aside0.mk A210
 clear A210
 by_cases c22 : t339 ≥ 0
 ·rw [if_pos c22] at H
  have c22b0 : decide (0 ≤ t339) = true := decide_eq_true c22
  clear c22
  by_cases c23 : 0 ≤ t339
  ·rw [if_pos c23] at H
   have c23b0 : decide (0 ≤ t339) = true := decide_eq_true c23
   clear c23
   by_cases c24 : t339 < (l0_2.length : Int)
   ·rw [if_pos c24] at H
    have c24b0 : decide (t339 < (l0_2.length : Int)) = true := decide_eq_true c24
    clear c24
    simp only [Option.some.injEq, Prod.mk.injEq] at H
    obtain ⟨rfl, rfl, rfl⟩ := H
    go_enter Try.func140, Try.ntmps140
    go_wp2_with (first | ((with_reducible refine gate_dst (N := 2) rfl ?_); refine bx_ 2 #[.int .i64 a0_0, .slice A0_1 l0_1.length c0_1, .slice A0_2 l0_2.length c0_2, .int .i64 a0_3, .slice A0_4 l0_4.length c0_4, .slice A0_5 l0_5.length c0_5] 35 (h := ?_); intro gb328 hg w25 hbox hb; have BK328 := Aside0.mk (hbox); have GW328 := Aside0.mk ((by rw [hg]; exact (below_size bel) : w.heap.size ≤ gb328)); have GE328 := GW328; replace HB := bst hb; clear hb hbox hg) | ((with_reducible refine gate_dst (N := 4) rfl ?_); refine bx_ 4 #[.int .i64 0, .bool false, .slice none 0 0] 89 (h := ?_); intro gb329 hg w26 hbox hb; have BK329 := Aside0.mk (hbox); have GW329 := Aside0.mk ((by rw [hg]; exact (below_size bel) : w.heap.size ≤ gb329)); have GE329 := GW329; have NB328_329 := Aside0.mk ((by rw [hg]; exact Nat.ne_of_lt (blt BK328) : gb328 ≠ gb329)); have NB329_328 := Aside0.mk NB328_329.out.symm; replace BK328 := Aside0.mk (blb BK328 hb); replace HB := bst hb; clear hb hbox hg; have hnb27 := NB328_329.out; have hnc27 := NB329_328.out; obtain ⟨C28_0, C28_1, C28_2, C28_3, C28_4, C28_5, -⟩ := cells_6 BK328.out trivial; obtain ⟨F28_0, F28_1, F28_2, F28_3, F28_4, F28_5, -⟩ := frz_6 BK328.out) | ((with_reducible refine gate_callee (f := 75) rfl ?_); refine gl_ (some 9) Try.func75 #[.agg #[.int .i64 a0_0, .slice A0_1 l0_1.length c0_1, .slice A0_2 l0_2.length c0_2, .int .i64 a0_3, .slice A0_4 l0_4.length c0_4, .slice A0_5 l0_5.length c0_5], .slice A1 l1.length c1] (h := ?_); (with_reducible refine (spec_l2row.calls k a0_0 _ _ l0_1 _ _ l0_2 a0_3 _ _ l0_4 _ _ l0_5 _ _ l1 t330 _ ?side1 ?side2 ?side3 ?side4 ?side5 ?side6 ?side7 ?side8 ?side9 ?side10 A3.out).mono ?_); (case side1 => exact kcb); (case side2 => exact HC0_1.out); (case side3 => exact kcb); (case side4 => exact HC0_2.out); (case side5 => exact kcb); (case side6 => exact HC0_4.out); (case side7 => exact kcb); (case side8 => exact HC0_5.out); (case side9 => exact kcb); (case side10 => exact HC1.out); rintro e w29 ⟨rfl, hb⟩; refine ⟨_, rfl, ?_⟩; replace BK328 := Aside0.mk (blb BK328 hb); replace BK329 := Aside0.mk (blb BK329 hb); replace HB := bst hb; (try clear hb); (try clear hb2); (try clear hk); (try clear hi); obtain ⟨C30_0, C30_1, C30_2, C30_3, C30_4, C30_5, -⟩ := cells_6 BK328.out trivial; obtain ⟨F30_0, F30_1, F30_2, F30_3, F30_4, F30_5, -⟩ := frz_6 BK328.out) | ((with_reducible refine gate_callee (f := 76) rfl ?_); refine gl_ (some 29) Try.func76 #[.agg #[.int .i64 a0_0, .slice A0_1 l0_1.length c0_1, .slice A0_2 l0_2.length c0_2, .int .i64 a0_3, .slice A0_4 l0_4.length c0_4, .slice A0_5 l0_5.length c0_5], .slice A1 l1.length c1] (h := ?_); (with_reducible refine (spec_l2tomb.calls k a0_0 _ _ l0_1 _ _ l0_2 a0_3 _ _ l0_4 _ _ l0_5 _ _ l1 t339 _ ?side1 ?side2 ?side3 ?side4 ?side5 ?side6 ?side7 ?side8 ?side9 ?side10 A21.out).mono ?_); (case side1 => exact kcb); (case side2 => exact HC0_1.out); (case side3 => exact kcb); (case side4 => exact HC0_2.out); (case side5 => exact kcb); (case side6 => exact HC0_4.out); (case side7 => exact kcb); (case side8 => exact HC0_5.out); (case side9 => exact kcb); (case side10 => exact HC1.out); rintro e w31 ⟨rfl, hb⟩; refine ⟨_, rfl, ?_⟩; replace BK328 := Aside0.mk (blb BK328 hb); replace BK329 := Aside0.mk (blb BK329 hb); replace HB := bst hb; (try clear hb); (try clear hb2); (try clear hk); (try clear hi); obtain ⟨C32_0, C32_1, C32_2, C32_3, C32_4, C32_5, -⟩ := cells_6 BK328.out trivial; obtain ⟨F32_0, F32_1, F32_2, F32_3, F32_4, F32_5, -⟩ := frz_6 BK328.out; have p340 : 0 ≤ (t339 : Int) := od; have q340 : t339 < (l0_2.length : Int) := od; obtain ⟨ad340, A340_0, c340_0, e340, hx340_0, hx340_1, hl340_0, hi340_0⟩ := at_T94 HR0_2.out t339 p340 q340; cases e340; replace hx340_0 := hxb HB hx340_0; replace hx340_1 := hxb HB hx340_1; have HR340_0 := Aside0.mk hi340_0; have HC340_0 := Aside0.mk hl340_0; clear hi340_0 hl340_0; replace p340 := eq_true p340; replace q340 := eq_true q340; obtain ⟨C33_0, C33_1, C33_2, -⟩ := cells_3 BK329.out trivial; obtain ⟨F33_0, F33_1, F33_2, -⟩ := frz_3 BK329.out))
    refine bodyPost_ret (results_cell_row rfl _ _ gb329 89 #[.int .i64 ((rd_T94 l0_2 t339).f1), .bool false, .slice none 0 0] (0, 0) _ rfl (by (with_reducible repeat (first | refine blk_drewN ?_ _ | refine blk_drew ?_ | refine blk_alloc ?_ _)); refine blk_put (cs := #[.int .i64 ((rd_T94 l0_2 t339).f1), .bool false, .slice none 0 0]) ?_ 2 _ rfl; (with_reducible repeat (first | refine blk_drewN ?_ _ | refine blk_drew ?_ | refine blk_alloc ?_ _)); refine blk_put (cs := #[.int .i64 ((rd_T94 l0_2 t339).f1), .bool false, .slice none 0 0]) ?_ 1 _ rfl; (with_reducible repeat (first | refine blk_drewN ?_ _ | refine blk_drew ?_ | refine blk_alloc ?_ _)); refine blk_put (cs := #[.int .i64 0, .bool false, .slice none 0 0]) ?_ 0 _ rfl; (with_reducible repeat (first | refine blk_drewN ?_ _ | refine blk_drew ?_ | refine blk_alloc ?_ _)); exact BK329.out) Try.underlying89 rfl (by kernel_rfl)) rfl ?_
    exact ⟨_, rz_, by first | exact Kd.R_nil _ _ _ _ _ | exact Kd.N_nil _ _ _ _ _ | exact Kd.V_nil _ _ _ _ _ | exact Kd.Q_nil _ _ _ _ _ | exact Kd.S_nil _ _ _ _ _, bel⟩
   rw [if_neg c24] at H
   exact absurd H (by simp)
  rw [if_neg c23] at H
  exact absurd H (by simp)
 rw [if_neg c22] at H
 have c22b0 : decide (0 ≤ t339) = false := decide_eq_false c22
 clear c22
 simp only [Option.some.injEq, Prod.mk.injEq] at H
 obtain ⟨rfl, rfl, rfl⟩ := H
 go_enter Try.func140, Try.ntmps140
 go_wp2_with (first | ((with_reducible refine gate_dst (N := 2) rfl ?_); refine bx_ 2 #[.int .i64 a0_0, .slice A0_1 l0_1.length c0_1, .slice A0_2 l0_2.length c0_2, .int .i64 a0_3, .slice A0_4 l0_4.length c0_4, .slice A0_5 l0_5.length c0_5] 35 (h := ?_); intro gb328 hg w34 hbox hb; have BK328 := Aside0.mk (hbox); have GW328 := Aside0.mk ((by rw [hg]; exact (below_size bel) : w.heap.size ≤ gb328)); have GE328 := GW328; replace HB := bst hb; clear hb hbox hg) | ((with_reducible refine gate_dst (N := 4) rfl ?_); refine bx_ 4 #[.int .i64 0, .bool false, .slice none 0 0] 89 (h := ?_); intro gb329 hg w35 hbox hb; have BK329 := Aside0.mk (hbox); have GW329 := Aside0.mk ((by rw [hg]; exact (below_size bel) : w.heap.size ≤ gb329)); have GE329 := GW329; have NB328_329 := Aside0.mk ((by rw [hg]; exact Nat.ne_of_lt (blt BK328) : gb328 ≠ gb329)); have NB329_328 := Aside0.mk NB328_329.out.symm; replace BK328 := Aside0.mk (blb BK328 hb); replace HB := bst hb; clear hb hbox hg; have hnb36 := NB328_329.out; have hnc36 := NB329_328.out; obtain ⟨C37_0, C37_1, C37_2, C37_3, C37_4, C37_5, -⟩ := cells_6 BK328.out trivial; obtain ⟨F37_0, F37_1, F37_2, F37_3, F37_4, F37_5, -⟩ := frz_6 BK328.out) | ((with_reducible refine gate_callee (f := 75) rfl ?_); refine gl_ (some 9) Try.func75 #[.agg #[.int .i64 a0_0, .slice A0_1 l0_1.length c0_1, .slice A0_2 l0_2.length c0_2, .int .i64 a0_3, .slice A0_4 l0_4.length c0_4, .slice A0_5 l0_5.length c0_5], .slice A1 l1.length c1] (h := ?_); (with_reducible refine (spec_l2row.calls k a0_0 _ _ l0_1 _ _ l0_2 a0_3 _ _ l0_4 _ _ l0_5 _ _ l1 t330 _ ?side1 ?side2 ?side3 ?side4 ?side5 ?side6 ?side7 ?side8 ?side9 ?side10 A3.out).mono ?_); (case side1 => exact kcb); (case side2 => exact HC0_1.out); (case side3 => exact kcb); (case side4 => exact HC0_2.out); (case side5 => exact kcb); (case side6 => exact HC0_4.out); (case side7 => exact kcb); (case side8 => exact HC0_5.out); (case side9 => exact kcb); (case side10 => exact HC1.out); rintro e w38 ⟨rfl, hb⟩; refine ⟨_, rfl, ?_⟩; replace BK328 := Aside0.mk (blb BK328 hb); replace BK329 := Aside0.mk (blb BK329 hb); replace HB := bst hb; (try clear hb); (try clear hb2); (try clear hk); (try clear hi); obtain ⟨C39_0, C39_1, C39_2, C39_3, C39_4, C39_5, -⟩ := cells_6 BK328.out trivial; obtain ⟨F39_0, F39_1, F39_2, F39_3, F39_4, F39_5, -⟩ := frz_6 BK328.out) | ((with_reducible refine gate_callee (f := 76) rfl ?_); refine gl_ (some 29) Try.func76 #[.agg #[.int .i64 a0_0, .slice A0_1 l0_1.length c0_1, .slice A0_2 l0_2.length c0_2, .int .i64 a0_3, .slice A0_4 l0_4.length c0_4, .slice A0_5 l0_5.length c0_5], .slice A1 l1.length c1] (h := ?_); (with_reducible refine (spec_l2tomb.calls k a0_0 _ _ l0_1 _ _ l0_2 a0_3 _ _ l0_4 _ _ l0_5 _ _ l1 t339 _ ?side1 ?side2 ?side3 ?side4 ?side5 ?side6 ?side7 ?side8 ?side9 ?side10 A21.out).mono ?_); (case side1 => exact kcb); (case side2 => exact HC0_1.out); (case side3 => exact kcb); (case side4 => exact HC0_2.out); (case side5 => exact kcb); (case side6 => exact HC0_4.out); (case side7 => exact kcb); (case side8 => exact HC0_5.out); (case side9 => exact kcb); (case side10 => exact HC1.out); rintro e w40 ⟨rfl, hb⟩; refine ⟨_, rfl, ?_⟩; replace BK328 := Aside0.mk (blb BK328 hb); replace BK329 := Aside0.mk (blb BK329 hb); replace HB := bst hb; (try clear hb); (try clear hb2); (try clear hk); (try clear hi); obtain ⟨C41_0, C41_1, C41_2, C41_3, C41_4, C41_5, -⟩ := cells_6 BK328.out trivial; obtain ⟨F41_0, F41_1, F41_2, F41_3, F41_4, F41_5, -⟩ := frz_6 BK328.out; obtain ⟨C42_0, C42_1, C42_2, -⟩ := cells_3 BK329.out trivial; obtain ⟨F42_0, F42_1, F42_2, -⟩ := frz_3 BK329.out))
 refine bodyPost_ret (results_cell_row rfl _ _ gb329 89 #[.int .i64 a0_3, .bool false, .slice none 0 0] (0, 0) _ rfl (by (with_reducible repeat (first | refine blk_drewN ?_ _ | refine blk_drew ?_ | refine blk_alloc ?_ _)); refine blk_put (cs := #[.int .i64 a0_3, .bool false, .slice none 0 0]) ?_ 2 _ rfl; (with_reducible repeat (first | refine blk_drewN ?_ _ | refine blk_drew ?_ | refine blk_alloc ?_ _)); refine blk_put (cs := #[.int .i64 a0_3, .bool false, .slice none 0 0]) ?_ 1 _ rfl; (with_reducible repeat (first | refine blk_drewN ?_ _ | refine blk_drew ?_ | refine blk_alloc ?_ _)); refine blk_put (cs := #[.int .i64 0, .bool false, .slice none 0 0]) ?_ 0 _ rfl; (with_reducible repeat (first | refine blk_drewN ?_ _ | refine blk_drew ?_ | refine blk_alloc ?_ _)); exact BK329.out) Try.underlying89 rfl (by kernel_rfl)) rfl ?_
 exact ⟨_, rz_, by first | exact Kd.R_nil _ _ _ _ _ | exact Kd.N_nil _ _ _ _ _ | exact Kd.V_nil _ _ _ _ _ | exact Kd.Q_nil _ _ _ _ _ | exact Kd.S_nil _ _ _ _ _, bel⟩

/-! ### spec_Look: function 60 -/
def spec_Look.f (k : Nat) (a0_0 : Int) (l0_1 : List (S92)) (l0_2 : List (S94)) (a0_3 : Int) (l0_4 : List (S109)) (l0_5 : List (S75)) (l1 : List Int) : Option (Int × Bool × List Int) := (spec_StateOk.f k a0_0 l0_1 l0_2 a0_3 l0_4 l0_5).bind fun t343 => (if t343 = true then ((spec_l2key.f k l1).bind fun t344 => (if t344 = true then ((spec_l2look.f k a0_0 l0_1 l0_2 a0_3 l0_4 l0_5 l1).bind fun bt345 => (some (bt345.1, bt345.2.1, bt345.2.2))) else (some (0, false, ([] : List Int))))) else (some (0, false, ([] : List Int))))
set_option maxHeartbeats 8000000 in
set_option maxRecDepth 100000 in
theorem spec_Look.calls (k : Nat) (a0_0 : Int) (A0_1 : Option Addr) (c0_1 : Nat) (l0_1 : List (S92)) (A0_2 : Option Addr) (c0_2 : Nat) (l0_2 : List (S94)) (a0_3 : Int) (A0_4 : Option Addr) (c0_4 : Nat) (l0_4 : List (S109)) (A0_5 : Option Addr) (c0_5 : Nat) (l0_5 : List (S75)) (A1 : Option Addr) (c1 : Nat) (l1 : List Int) (r1 : Int) (r2 : Bool) (r3 : List Int) (w : World) (hr0_1 : Kd.C k92 w A0_1 l0_1.length l0_1) (hc0_1 : l0_1.length ≤ c0_1) (hr0_2 : Kd.C k94 w A0_2 l0_2.length l0_2) (hc0_2 : l0_2.length ≤ c0_2) (hr0_4 : Kd.C k109 w A0_4 l0_4.length l0_4) (hc0_4 : l0_4.length ≤ c0_4) (hr0_5 : Kd.C k75 w A0_5 l0_5.length l0_5) (hc0_5 : l0_5.length ≤ c0_5) (hr1 : Kd.C (Kd.int .u8) w A1 l1.length l1) (hc1 : l1.length ≤ c1) (h : spec_Look.f k a0_0 l0_1 l0_2 a0_3 l0_4 l0_5 l1 = some (r1, r2, r3)) :
  Calls Try.prog 60 #[.agg #[.int .i64 a0_0, .slice A0_1 l0_1.length c0_1, .slice A0_2 l0_2.length c0_2, .int .i64 a0_3, .slice A0_4 l0_4.length c0_4, .slice A0_5 l0_5.length c0_5], .slice A1 l1.length c1] w fun e w' => ∃ v2_ : Value, e = .returned (.agg #[.int .i64 r1, .bool r2, v2_]) ∧ Kd.R (Kd.int .u8) 5 w' w.heap.size (fun _ => True) v2_ r3 ∧ Below w.heap.size w w' := by
 have hu35 := Try.underlying35
 have hu89 := Try.underlying89
 have HR0_1 := Aside0.mk hr0_1
 have HC0_1 := Aside0.mk hc0_1
 clear hr0_1 hc0_1
 have HR0_2 := Aside0.mk hr0_2
 have HC0_2 := Aside0.mk hc0_2
 clear hr0_2 hc0_2
 have HR0_4 := Aside0.mk hr0_4
 have HC0_4 := Aside0.mk hc0_4
 clear hr0_4 hc0_4
 have HR0_5 := Aside0.mk hr0_5
 have HC0_5 := Aside0.mk hc0_5
 clear hr0_5 hc0_5
 have HR1 := Aside0.mk hr1
 have HC1 := Aside0.mk hc1
 clear hr1 hc1
 have HB := Aside0.mk (Below.refl w.heap.size w)
 have H : ((spec_StateOk.f k a0_0 l0_1 l0_2 a0_3 l0_4 l0_5).bind fun t343 => (if t343 = true then ((spec_l2key.f k l1).bind fun t344 => (if t344 = true then ((spec_l2look.f k a0_0 l0_1 l0_2 a0_3 l0_4 l0_5 l1).bind fun bt345 => (some (bt345.1, bt345.2.1, bt345.2.2))) else (some (0, false, ([] : List Int))))) else (some (0, false, ([] : List Int))))) = some (r1, r2, r3) := h
 clear h
 replace H := Option.bind_eq_some_iff.mp H
 obtain ⟨t343, A30, H⟩ := H
 replace H : (if t343 = true then ((spec_l2key.f k l1).bind fun t344 => (if t344 = true then ((spec_l2look.f k a0_0 l0_1 l0_2 a0_3 l0_4 l0_5 l1).bind fun bt345 => (some (bt345.1, bt345.2.1, bt345.2.2))) else (some (0, false, ([] : List Int))))) else (some (0, false, ([] : List Int)))) = some (r1, r2, r3) := H
 have A3 := Aside0.mk A30
 clear A30
 by_cases c4 : t343 = true
 ·subst c4
  have H1 : ((spec_l2key.f k l1).bind fun t344 => (if t344 = true then ((spec_l2look.f k a0_0 l0_1 l0_2 a0_3 l0_4 l0_5 l1).bind fun bt345 => (some (bt345.1, bt345.2.1, bt345.2.2))) else (some (0, false, ([] : List Int))))) = some (r1, r2, r3) := by rw [if_pos rfl] at H; exact H
  clear H
  have H := H1
  clear H1
  replace H := Option.bind_eq_some_iff.mp H
  obtain ⟨t344, A50, H⟩ := H
  replace H : (if t344 = true then ((spec_l2look.f k a0_0 l0_1 l0_2 a0_3 l0_4 l0_5 l1).bind fun bt345 => (some (bt345.1, bt345.2.1, bt345.2.2))) else (some (0, false, ([] : List Int)))) = some (r1, r2, r3) := H
  have A5 := Aside0.mk A50
  clear A50
  by_cases c6 : t344 = true
  ·subst c6
   have H1 : ((spec_l2look.f k a0_0 l0_1 l0_2 a0_3 l0_4 l0_5 l1).bind fun bt345 => (some (bt345.1, bt345.2.1, bt345.2.2))) = some (r1, r2, r3) := by rw [if_pos rfl] at H; exact H
   clear H
   have H := H1
   clear H1
   replace H := Option.bind_eq_some_iff.mp H
   obtain ⟨⟨t345, t346, t347⟩, A70, H⟩ := H
   replace H : (some (t345, t346, t347)) = some (r1, r2, r3) := H
   have A7 := Aside0.mk A70
   clear A70
   simp only [Option.some.injEq, Prod.mk.injEq] at H
   obtain ⟨rfl, rfl, rfl⟩ := H
   go_enter Try.func60, Try.ntmps60
   go_wp2_with (first | ((with_reducible refine gate_dst (N := 2) rfl ?_); refine bx_ 2 #[.int .i64 a0_0, .slice A0_1 l0_1.length c0_1, .slice A0_2 l0_2.length c0_2, .int .i64 a0_3, .slice A0_4 l0_4.length c0_4, .slice A0_5 l0_5.length c0_5] 35 (h := ?_); intro gb341 hg w8 hbox hb; have BK341 := Aside0.mk (hbox); have GW341 := Aside0.mk ((by rw [hg]; exact (below_size bel) : w.heap.size ≤ gb341)); have GE341 := GW341; replace HB := bst hb; clear hb hbox hg) | ((with_reducible refine gate_dst (N := 4) rfl ?_); refine bx_ 4 #[.int .i64 0, .bool false, .slice none 0 0] 89 (h := ?_); intro gb342 hg w9 hbox hb; have BK342 := Aside0.mk (hbox); have GW342 := Aside0.mk ((by rw [hg]; exact (below_size bel) : w.heap.size ≤ gb342)); have GE342 := GW342; have NB341_342 := Aside0.mk ((by rw [hg]; exact Nat.ne_of_lt (blt BK341) : gb341 ≠ gb342)); have NB342_341 := Aside0.mk NB341_342.out.symm; replace BK341 := Aside0.mk (blb BK341 hb); replace HB := bst hb; clear hb hbox hg; have hnb10 := NB341_342.out; have hnc10 := NB342_341.out; obtain ⟨C11_0, C11_1, C11_2, C11_3, C11_4, C11_5, -⟩ := cells_6 BK341.out trivial; obtain ⟨F11_0, F11_1, F11_2, F11_3, F11_4, F11_5, -⟩ := frz_6 BK341.out) | ((with_reducible refine gate_callee (f := 16) rfl ?_); refine gl_ (some 6) Try.func16 #[.agg #[.int .i64 a0_0, .slice A0_1 l0_1.length c0_1, .slice A0_2 l0_2.length c0_2, .int .i64 a0_3, .slice A0_4 l0_4.length c0_4, .slice A0_5 l0_5.length c0_5]] (h := ?_); (with_reducible refine (spec_StateOk.calls k a0_0 _ _ l0_1 _ _ l0_2 a0_3 _ _ l0_4 _ _ l0_5 true _ ?side1 ?side2 ?side3 ?side4 ?side5 ?side6 ?side7 ?side8 A3.out).mono ?_); (case side1 => exact kcb); (case side2 => exact HC0_1.out); (case side3 => exact kcb); (case side4 => exact HC0_2.out); (case side5 => exact kcb); (case side6 => exact HC0_4.out); (case side7 => exact kcb); (case side8 => exact HC0_5.out); rintro e w12 ⟨rfl, hb⟩; refine ⟨_, rfl, ?_⟩; replace BK341 := Aside0.mk (blb BK341 hb); replace BK342 := Aside0.mk (blb BK342 hb); replace HB := bst hb; (try clear hb); (try clear hb2); (try clear hk); (try clear hi)) | (go_at_call 72; (with_reducible refine (spec_l2key.calls k _ _ l1 true _ ?side1 ?side2 A5.out).mono ?_); (case side1 => exact kcb); (case side2 => exact HC1.out); rintro e w' ⟨rfl, ⟨nd, rfl⟩⟩; (try (rw [drewN_self w12]; generalize hq_ : World.drewN w12 _ = w12; have n0_ : Aside0 (w12.heap[gb341]? = some (.cells #[.int .i64 a0_0, .slice A0_1 l0_1.length c0_1, .slice A0_2 l0_2.length c0_2, .int .i64 a0_3, .slice A0_4 l0_4.length c0_4, .slice A0_5 l0_5.length c0_5] 35 (0, 0))) := ⟨by rw [← hq_]; exact (bkp BK341)⟩; have n1_ : Aside0 (w12.heap[gb342]? = some (.cells #[.int .i64 0, .bool false, .slice none 0 0] 89 (0, 0))) := ⟨by rw [← hq_]; exact (bkp BK342)⟩; have n2_ : Aside0 (Below w.heap.size w w12) := ⟨by rw [← hq_]; exact bel⟩; clear BK341 BK342 HB hq_; have BK341 := n0_; have BK342 := n1_; have HB := n2_; clear n0_ n1_ n2_)); obtain ⟨C13_0, C13_1, C13_2, C13_3, C13_4, C13_5, -⟩ := cells_6 BK341.out trivial; obtain ⟨F13_0, F13_1, F13_2, F13_3, F13_4, F13_5, -⟩ := frz_6 BK341.out) | ((with_reducible refine gate_callee (f := 140) rfl ?_); refine gl_ (some 16) Try.func140 #[.agg #[.int .i64 a0_0, .slice A0_1 l0_1.length c0_1, .slice A0_2 l0_2.length c0_2, .int .i64 a0_3, .slice A0_4 l0_4.length c0_4, .slice A0_5 l0_5.length c0_5], .slice A1 l1.length c1] (h := ?_); (with_reducible refine (spec_l2look.calls k a0_0 _ _ l0_1 _ _ l0_2 a0_3 _ _ l0_4 _ _ l0_5 _ _ l1 t345 t346 t347 _ ?side1 ?side2 ?side3 ?side4 ?side5 ?side6 ?side7 ?side8 ?side9 ?side10 A7.out).mono ?_); (case side1 => exact kcb); (case side2 => exact HC0_1.out); (case side3 => exact kcb); (case side4 => exact HC0_2.out); (case side5 => exact kcb); (case side6 => exact HC0_4.out); (case side7 => exact kcb); (case side8 => exact HC0_5.out); (case side9 => exact kcb); (case side10 => exact HC1.out); rintro e w14 ⟨v348, rfl, ho0, hb⟩; refine ⟨_, rfl, ?_⟩; have HO349 := Aside0.mk (Kd.R_lower ho0 (below_size bel)); replace BK341 := Aside0.mk (blb BK341 hb); replace BK342 := Aside0.mk (blb BK342 hb); replace HB := bst hb; (try clear hb); (try clear hb2); (try clear hk); (try clear hi); (try clear ho0); obtain ⟨C15_0, C15_1, C15_2, -⟩ := cells_3 BK342.out trivial; obtain ⟨F15_0, F15_1, F15_2, -⟩ := frz_3 BK342.out; obtain ⟨Ao16, co16, eo16⟩ := Kd.R_slice HO349.out; subst eo16))
   refine bodyPost_ret (results_cell_row rfl _ _ gb342 89 #[.int .i64 t345, .bool t346, .slice Ao16 t347.length co16] (0, 0) _ rfl (by (with_reducible repeat (first | refine blk_drewN ?_ _ | refine blk_drew ?_ | refine blk_alloc ?_ _)); refine blk_put (cs := #[.int .i64 t345, .bool t346, .slice none 0 0]) ?_ 2 _ rfl; (with_reducible repeat (first | refine blk_drewN ?_ _ | refine blk_drew ?_ | refine blk_alloc ?_ _)); refine blk_put (cs := #[.int .i64 t345, .bool false, .slice none 0 0]) ?_ 1 _ rfl; (with_reducible repeat (first | refine blk_drewN ?_ _ | refine blk_drew ?_ | refine blk_alloc ?_ _)); refine blk_put (cs := #[.int .i64 0, .bool false, .slice none 0 0]) ?_ 0 _ rfl; (with_reducible repeat (first | refine blk_drewN ?_ _ | refine blk_drew ?_ | refine blk_alloc ?_ _)); exact BK342.out) Try.underlying89 rfl (by kernel_rfl)) rfl ?_
   exact ⟨_, rz_, by (with_reducible repeat (first | apply Kd.R_alloc | apply Kd.R_drewN | apply Kd.R_drew)); exact Kd.R_mono (Kd.R_far (p := ⟨gb342, 2, none⟩) (Kd.R_far (p := ⟨gb342, 1, none⟩) (Kd.R_far (p := ⟨gb342, 0, none⟩) (Kd.R_types HO349.out BK342.out (by decide)) (fun _ hk => hk.2) (.int .i64 t345)) (fun _ hk => hk.2) (.bool t346)) (fun _ hk => hk.2) (.slice Ao16 t347.length co16)) (fun _ hk => trivial), bel⟩
  replace c6 := Bool.eq_false_iff.mpr c6
  subst c6
  have H1 : (some (0, false, ([] : List Int))) = some (r1, r2, r3) := by rw [if_neg (show ¬ (false = true) by decide)] at H; exact H
  clear H
  have H := H1
  clear H1
  simp only [Option.some.injEq, Prod.mk.injEq] at H
  obtain ⟨rfl, rfl, rfl⟩ := H
  go_enter Try.func60, Try.ntmps60
  go_wp2_with (first | ((with_reducible refine gate_dst (N := 2) rfl ?_); refine bx_ 2 #[.int .i64 a0_0, .slice A0_1 l0_1.length c0_1, .slice A0_2 l0_2.length c0_2, .int .i64 a0_3, .slice A0_4 l0_4.length c0_4, .slice A0_5 l0_5.length c0_5] 35 (h := ?_); intro gb341 hg w17 hbox hb; have BK341 := Aside0.mk (hbox); have GW341 := Aside0.mk ((by rw [hg]; exact (below_size bel) : w.heap.size ≤ gb341)); have GE341 := GW341; replace HB := bst hb; clear hb hbox hg) | ((with_reducible refine gate_dst (N := 4) rfl ?_); refine bx_ 4 #[.int .i64 0, .bool false, .slice none 0 0] 89 (h := ?_); intro gb342 hg w18 hbox hb; have BK342 := Aside0.mk (hbox); have GW342 := Aside0.mk ((by rw [hg]; exact (below_size bel) : w.heap.size ≤ gb342)); have GE342 := GW342; have NB341_342 := Aside0.mk ((by rw [hg]; exact Nat.ne_of_lt (blt BK341) : gb341 ≠ gb342)); have NB342_341 := Aside0.mk NB341_342.out.symm; replace BK341 := Aside0.mk (blb BK341 hb); replace HB := bst hb; clear hb hbox hg; have hnb19 := NB341_342.out; have hnc19 := NB342_341.out; obtain ⟨C20_0, C20_1, C20_2, C20_3, C20_4, C20_5, -⟩ := cells_6 BK341.out trivial; obtain ⟨F20_0, F20_1, F20_2, F20_3, F20_4, F20_5, -⟩ := frz_6 BK341.out) | ((with_reducible refine gate_callee (f := 16) rfl ?_); refine gl_ (some 6) Try.func16 #[.agg #[.int .i64 a0_0, .slice A0_1 l0_1.length c0_1, .slice A0_2 l0_2.length c0_2, .int .i64 a0_3, .slice A0_4 l0_4.length c0_4, .slice A0_5 l0_5.length c0_5]] (h := ?_); (with_reducible refine (spec_StateOk.calls k a0_0 _ _ l0_1 _ _ l0_2 a0_3 _ _ l0_4 _ _ l0_5 true _ ?side1 ?side2 ?side3 ?side4 ?side5 ?side6 ?side7 ?side8 A3.out).mono ?_); (case side1 => exact kcb); (case side2 => exact HC0_1.out); (case side3 => exact kcb); (case side4 => exact HC0_2.out); (case side5 => exact kcb); (case side6 => exact HC0_4.out); (case side7 => exact kcb); (case side8 => exact HC0_5.out); rintro e w21 ⟨rfl, hb⟩; refine ⟨_, rfl, ?_⟩; replace BK341 := Aside0.mk (blb BK341 hb); replace BK342 := Aside0.mk (blb BK342 hb); replace HB := bst hb; (try clear hb); (try clear hb2); (try clear hk); (try clear hi)) | (go_at_call 72; (with_reducible refine (spec_l2key.calls k _ _ l1 false _ ?side1 ?side2 A5.out).mono ?_); (case side1 => exact kcb); (case side2 => exact HC1.out); rintro e w' ⟨rfl, ⟨nd, rfl⟩⟩; (try (rw [drewN_self w21]; generalize hq_ : World.drewN w21 _ = w21; have n0_ : Aside0 (w21.heap[gb341]? = some (.cells #[.int .i64 a0_0, .slice A0_1 l0_1.length c0_1, .slice A0_2 l0_2.length c0_2, .int .i64 a0_3, .slice A0_4 l0_4.length c0_4, .slice A0_5 l0_5.length c0_5] 35 (0, 0))) := ⟨by rw [← hq_]; exact (bkp BK341)⟩; have n1_ : Aside0 (w21.heap[gb342]? = some (.cells #[.int .i64 0, .bool false, .slice none 0 0] 89 (0, 0))) := ⟨by rw [← hq_]; exact (bkp BK342)⟩; have n2_ : Aside0 (Below w.heap.size w w21) := ⟨by rw [← hq_]; exact bel⟩; clear BK341 BK342 HB hq_; have BK341 := n0_; have BK342 := n1_; have HB := n2_; clear n0_ n1_ n2_)); obtain ⟨C22_0, C22_1, C22_2, -⟩ := cells_3 BK342.out trivial; obtain ⟨F22_0, F22_1, F22_2, -⟩ := frz_3 BK342.out))
  refine bodyPost_ret (results_cell_row rfl _ _ gb342 89 #[.int .i64 0, .bool false, .slice none 0 0] (0, 0) _ rfl (by (with_reducible repeat (first | refine blk_drewN ?_ _ | refine blk_drew ?_ | refine blk_alloc ?_ _)); refine blk_put (cs := #[.int .i64 0, .bool false, .slice none 0 0]) ?_ 2 _ rfl; (with_reducible repeat (first | refine blk_drewN ?_ _ | refine blk_drew ?_ | refine blk_alloc ?_ _)); refine blk_put (cs := #[.int .i64 0, .bool false, .slice none 0 0]) ?_ 1 _ rfl; (with_reducible repeat (first | refine blk_drewN ?_ _ | refine blk_drew ?_ | refine blk_alloc ?_ _)); refine blk_put (cs := #[.int .i64 0, .bool false, .slice none 0 0]) ?_ 0 _ rfl; (with_reducible repeat (first | refine blk_drewN ?_ _ | refine blk_drew ?_ | refine blk_alloc ?_ _)); exact BK342.out) Try.underlying89 rfl (by kernel_rfl)) rfl ?_
  exact ⟨_, rz_, by first | exact Kd.R_nil _ _ _ _ _ | exact Kd.N_nil _ _ _ _ _ | exact Kd.V_nil _ _ _ _ _ | exact Kd.Q_nil _ _ _ _ _ | exact Kd.S_nil _ _ _ _ _, bel⟩
 replace c4 := Bool.eq_false_iff.mpr c4
 subst c4
 have H1 : (some (0, false, ([] : List Int))) = some (r1, r2, r3) := by rw [if_neg (show ¬ (false = true) by decide)] at H; exact H
 clear H
 have H := H1
 clear H1
 simp only [Option.some.injEq, Prod.mk.injEq] at H
 obtain ⟨rfl, rfl, rfl⟩ := H
 go_enter Try.func60, Try.ntmps60
 go_wp2_with (first | ((with_reducible refine gate_dst (N := 2) rfl ?_); refine bx_ 2 #[.int .i64 a0_0, .slice A0_1 l0_1.length c0_1, .slice A0_2 l0_2.length c0_2, .int .i64 a0_3, .slice A0_4 l0_4.length c0_4, .slice A0_5 l0_5.length c0_5] 35 (h := ?_); intro gb341 hg w23 hbox hb; have BK341 := Aside0.mk (hbox); have GW341 := Aside0.mk ((by rw [hg]; exact (below_size bel) : w.heap.size ≤ gb341)); have GE341 := GW341; replace HB := bst hb; clear hb hbox hg) | ((with_reducible refine gate_dst (N := 4) rfl ?_); refine bx_ 4 #[.int .i64 0, .bool false, .slice none 0 0] 89 (h := ?_); intro gb342 hg w24 hbox hb; have BK342 := Aside0.mk (hbox); have GW342 := Aside0.mk ((by rw [hg]; exact (below_size bel) : w.heap.size ≤ gb342)); have GE342 := GW342; have NB341_342 := Aside0.mk ((by rw [hg]; exact Nat.ne_of_lt (blt BK341) : gb341 ≠ gb342)); have NB342_341 := Aside0.mk NB341_342.out.symm; replace BK341 := Aside0.mk (blb BK341 hb); replace HB := bst hb; clear hb hbox hg; have hnb25 := NB341_342.out; have hnc25 := NB342_341.out; obtain ⟨C26_0, C26_1, C26_2, C26_3, C26_4, C26_5, -⟩ := cells_6 BK341.out trivial; obtain ⟨F26_0, F26_1, F26_2, F26_3, F26_4, F26_5, -⟩ := frz_6 BK341.out) | ((with_reducible refine gate_callee (f := 16) rfl ?_); refine gl_ (some 6) Try.func16 #[.agg #[.int .i64 a0_0, .slice A0_1 l0_1.length c0_1, .slice A0_2 l0_2.length c0_2, .int .i64 a0_3, .slice A0_4 l0_4.length c0_4, .slice A0_5 l0_5.length c0_5]] (h := ?_); (with_reducible refine (spec_StateOk.calls k a0_0 _ _ l0_1 _ _ l0_2 a0_3 _ _ l0_4 _ _ l0_5 false _ ?side1 ?side2 ?side3 ?side4 ?side5 ?side6 ?side7 ?side8 A3.out).mono ?_); (case side1 => exact kcb); (case side2 => exact HC0_1.out); (case side3 => exact kcb); (case side4 => exact HC0_2.out); (case side5 => exact kcb); (case side6 => exact HC0_4.out); (case side7 => exact kcb); (case side8 => exact HC0_5.out); rintro e w27 ⟨rfl, hb⟩; refine ⟨_, rfl, ?_⟩; replace BK341 := Aside0.mk (blb BK341 hb); replace BK342 := Aside0.mk (blb BK342 hb); replace HB := bst hb; (try clear hb); (try clear hb2); (try clear hk); (try clear hi); obtain ⟨C28_0, C28_1, C28_2, -⟩ := cells_3 BK342.out trivial; obtain ⟨F28_0, F28_1, F28_2, -⟩ := frz_3 BK342.out))
 refine bodyPost_ret (results_cell_row rfl _ _ gb342 89 #[.int .i64 0, .bool false, .slice none 0 0] (0, 0) _ rfl (by (with_reducible repeat (first | refine blk_drewN ?_ _ | refine blk_drew ?_ | refine blk_alloc ?_ _)); refine blk_put (cs := #[.int .i64 0, .bool false, .slice none 0 0]) ?_ 2 _ rfl; (with_reducible repeat (first | refine blk_drewN ?_ _ | refine blk_drew ?_ | refine blk_alloc ?_ _)); refine blk_put (cs := #[.int .i64 0, .bool false, .slice none 0 0]) ?_ 1 _ rfl; (with_reducible repeat (first | refine blk_drewN ?_ _ | refine blk_drew ?_ | refine blk_alloc ?_ _)); refine blk_put (cs := #[.int .i64 0, .bool false, .slice none 0 0]) ?_ 0 _ rfl; (with_reducible repeat (first | refine blk_drewN ?_ _ | refine blk_drew ?_ | refine blk_alloc ?_ _)); exact BK342.out) Try.underlying89 rfl (by kernel_rfl)) rfl ?_
 exact ⟨_, rz_, by first | exact Kd.R_nil _ _ _ _ _ | exact Kd.N_nil _ _ _ _ _ | exact Kd.V_nil _ _ _ _ _ | exact Kd.Q_nil _ _ _ _ _ | exact Kd.S_nil _ _ _ _ _, bel⟩

/-! ### laws_eqView: function 61 -/
def laws_eqView.f (k : Nat) (a0_0 : Int) (a0_1 : Bool) (l0_2 : List Int) (a1_0 : Int) (a1_1 : Bool) (l1_2 : List Int) : Option (Bool) := if a0_0 = a1_0 then (if (a0_1 != a1_1) = true then (some false) else ((laws_eqByteS.f k l0_2 l1_2).bind fun t352 => (if t352 = true then (some true) else (some false)))) else (some false)
set_option maxHeartbeats 8000000 in
set_option maxRecDepth 100000 in
theorem laws_eqView.calls (k : Nat) (a0_0 : Int) (a0_1 : Bool) (A0_2 : Option Addr) (c0_2 : Nat) (l0_2 : List Int) (a1_0 : Int) (a1_1 : Bool) (A1_2 : Option Addr) (c1_2 : Nat) (l1_2 : List Int) (r : Bool) (w : World) (hr0_2 : Kd.C (Kd.int .u8) w A0_2 l0_2.length l0_2) (hc0_2 : l0_2.length ≤ c0_2) (hr1_2 : Kd.C (Kd.int .u8) w A1_2 l1_2.length l1_2) (hc1_2 : l1_2.length ≤ c1_2) (h : laws_eqView.f k a0_0 a0_1 l0_2 a1_0 a1_1 l1_2 = some r) :
  Calls Try.prog 61 #[.agg #[.int .i64 a0_0, .bool a0_1, .slice A0_2 l0_2.length c0_2], .agg #[.int .i64 a1_0, .bool a1_1, .slice A1_2 l1_2.length c1_2]] w fun e w' => e = .returned (.bool r) ∧ Below w.heap.size w w' := by
 have hu89 := Try.underlying89
 have HR0_2 := Aside0.mk hr0_2
 have HC0_2 := Aside0.mk hc0_2
 clear hr0_2 hc0_2
 have HR1_2 := Aside0.mk hr1_2
 have HC1_2 := Aside0.mk hc1_2
 clear hr1_2 hc1_2
 have HB := Aside0.mk (Below.refl w.heap.size w)
 have H : (if a0_0 = a1_0 then (if (a0_1 != a1_1) = true then (some false) else ((laws_eqByteS.f k l0_2 l1_2).bind fun t352 => (if t352 = true then (some true) else (some false)))) else (some false)) = some r := h
 clear h
 by_cases c3 : a0_0 = a1_0
 ·rw [if_pos c3] at H
  have c3b0 : (a0_0 == a1_0) = true := beq_iff_eq.mpr c3
  have c3b1 : (a0_0 != a1_0) = false := bne_eq_false_iff_eq.mpr c3
  clear c3
  by_cases c4 : (a0_1 != a1_1) = true
  ·rw [if_pos c4] at H
   have c4b0 : (a0_1 != a1_1) = true := c4
   (try (have c4b1 : decide (a0_1 = a1_1) = false := by simpa using c4))
   (try (have c4b2 : (a0_1 == a1_1) = false := by simpa using c4))
   (try (have c4b3 : ¬ (a0_1 = a1_1) := by simpa using c4))
   clear c4
   obtain rfl := Option.some.inj H
   go_enter Try.func61, Try.ntmps61
   go_wp2_with (first | ((with_reducible refine gate_dst (N := 2) rfl ?_); refine bx_ 2 #[.int .i64 a0_0, .bool a0_1, .slice A0_2 l0_2.length c0_2] 89 (h := ?_); intro gb350 hg w5 hbox hb; have BK350 := Aside0.mk (hbox); have GW350 := Aside0.mk ((by rw [hg]; exact (below_size bel) : w.heap.size ≤ gb350)); have GE350 := GW350; replace HB := bst hb; clear hb hbox hg) | ((with_reducible refine gate_dst (N := 3) rfl ?_); refine bx_ 3 #[.int .i64 a1_0, .bool a1_1, .slice A1_2 l1_2.length c1_2] 89 (h := ?_); intro gb351 hg w6 hbox hb; have BK351 := Aside0.mk (hbox); have GW351 := Aside0.mk ((by rw [hg]; exact (below_size bel) : w.heap.size ≤ gb351)); have GE351 := GW351; have NB350_351 := Aside0.mk ((by rw [hg]; exact Nat.ne_of_lt (blt BK350) : gb350 ≠ gb351)); have NB351_350 := Aside0.mk NB350_351.out.symm; replace BK350 := Aside0.mk (blb BK350 hb); replace HB := bst hb; clear hb hbox hg; have hnb7 := NB350_351.out; have hnc7 := NB351_350.out; obtain ⟨C8_0, C8_1, C8_2, -⟩ := cells_3 BK350.out trivial; obtain ⟨F8_0, F8_1, F8_2, -⟩ := frz_3 BK350.out; obtain ⟨C9_0, C9_1, C9_2, -⟩ := cells_3 BK351.out trivial; obtain ⟨F9_0, F9_1, F9_2, -⟩ := frz_3 BK351.out))
   go_ret
   exact ⟨rz_, bel⟩
  rw [if_neg c4] at H
  have c4b0 : (a0_1 != a1_1) = false := by simpa using c4
  (try (have c4b1 : decide (a0_1 = a1_1) = true := by simpa using c4))
  (try (have c4b2 : (a0_1 == a1_1) = true := by simpa using c4))
  clear c4
  replace H := Option.bind_eq_some_iff.mp H
  obtain ⟨t352, A100, H⟩ := H
  replace H : (if t352 = true then (some true) else (some false)) = some r := H
  have A10 := Aside0.mk A100
  clear A100
  by_cases c11 : t352 = true
  ·subst c11
   have H1 : (some true) = some r := by rw [if_pos rfl] at H; exact H
   clear H
   have H := H1
   clear H1
   obtain rfl := Option.some.inj H
   go_enter Try.func61, Try.ntmps61
   go_wp2_with (first | ((with_reducible refine gate_dst (N := 2) rfl ?_); refine bx_ 2 #[.int .i64 a0_0, .bool a0_1, .slice A0_2 l0_2.length c0_2] 89 (h := ?_); intro gb350 hg w12 hbox hb; have BK350 := Aside0.mk (hbox); have GW350 := Aside0.mk ((by rw [hg]; exact (below_size bel) : w.heap.size ≤ gb350)); have GE350 := GW350; replace HB := bst hb; clear hb hbox hg) | ((with_reducible refine gate_dst (N := 3) rfl ?_); refine bx_ 3 #[.int .i64 a1_0, .bool a1_1, .slice A1_2 l1_2.length c1_2] 89 (h := ?_); intro gb351 hg w13 hbox hb; have BK351 := Aside0.mk (hbox); have GW351 := Aside0.mk ((by rw [hg]; exact (below_size bel) : w.heap.size ≤ gb351)); have GE351 := GW351; have NB350_351 := Aside0.mk ((by rw [hg]; exact Nat.ne_of_lt (blt BK350) : gb350 ≠ gb351)); have NB351_350 := Aside0.mk NB350_351.out.symm; replace BK350 := Aside0.mk (blb BK350 hb); replace HB := bst hb; clear hb hbox hg; have hnb14 := NB350_351.out; have hnc14 := NB351_350.out; obtain ⟨C15_0, C15_1, C15_2, -⟩ := cells_3 BK350.out trivial; obtain ⟨F15_0, F15_1, F15_2, -⟩ := frz_3 BK350.out; obtain ⟨C16_0, C16_1, C16_2, -⟩ := cells_3 BK351.out trivial; obtain ⟨F16_0, F16_1, F16_2, -⟩ := frz_3 BK351.out) | ((with_reducible refine gate_callee (f := 35) rfl ?_); refine gl_ (some 19) Try.func35 #[.slice A0_2 l0_2.length c0_2, .slice A1_2 l1_2.length c1_2] (h := ?_); (with_reducible refine (laws_eqByteS.calls k _ _ l0_2 _ _ l1_2 true _ ?side1 ?side2 ?side3 ?side4 A10.out).mono ?_); (case side1 => exact kcb); (case side2 => exact HC0_2.out); (case side3 => exact kcb); (case side4 => exact HC1_2.out); rintro e w' ⟨rfl, ⟨nd, rfl⟩⟩; refine ⟨_, rfl, ?_⟩))
   go_ret
   exact ⟨rz_, bel⟩
  replace c11 := Bool.eq_false_iff.mpr c11
  subst c11
  have H1 : (some false) = some r := by rw [if_neg (show ¬ (false = true) by decide)] at H; exact H
  clear H
  have H := H1
  clear H1
  obtain rfl := Option.some.inj H
  go_enter Try.func61, Try.ntmps61
  go_wp2_with (first | ((with_reducible refine gate_dst (N := 2) rfl ?_); refine bx_ 2 #[.int .i64 a0_0, .bool a0_1, .slice A0_2 l0_2.length c0_2] 89 (h := ?_); intro gb350 hg w17 hbox hb; have BK350 := Aside0.mk (hbox); have GW350 := Aside0.mk ((by rw [hg]; exact (below_size bel) : w.heap.size ≤ gb350)); have GE350 := GW350; replace HB := bst hb; clear hb hbox hg) | ((with_reducible refine gate_dst (N := 3) rfl ?_); refine bx_ 3 #[.int .i64 a1_0, .bool a1_1, .slice A1_2 l1_2.length c1_2] 89 (h := ?_); intro gb351 hg w18 hbox hb; have BK351 := Aside0.mk (hbox); have GW351 := Aside0.mk ((by rw [hg]; exact (below_size bel) : w.heap.size ≤ gb351)); have GE351 := GW351; have NB350_351 := Aside0.mk ((by rw [hg]; exact Nat.ne_of_lt (blt BK350) : gb350 ≠ gb351)); have NB351_350 := Aside0.mk NB350_351.out.symm; replace BK350 := Aside0.mk (blb BK350 hb); replace HB := bst hb; clear hb hbox hg; have hnb19 := NB350_351.out; have hnc19 := NB351_350.out; obtain ⟨C20_0, C20_1, C20_2, -⟩ := cells_3 BK350.out trivial; obtain ⟨F20_0, F20_1, F20_2, -⟩ := frz_3 BK350.out; obtain ⟨C21_0, C21_1, C21_2, -⟩ := cells_3 BK351.out trivial; obtain ⟨F21_0, F21_1, F21_2, -⟩ := frz_3 BK351.out) | ((with_reducible refine gate_callee (f := 35) rfl ?_); refine gl_ (some 19) Try.func35 #[.slice A0_2 l0_2.length c0_2, .slice A1_2 l1_2.length c1_2] (h := ?_); (with_reducible refine (laws_eqByteS.calls k _ _ l0_2 _ _ l1_2 false _ ?side1 ?side2 ?side3 ?side4 A10.out).mono ?_); (case side1 => exact kcb); (case side2 => exact HC0_2.out); (case side3 => exact kcb); (case side4 => exact HC1_2.out); rintro e w' ⟨rfl, ⟨nd, rfl⟩⟩; refine ⟨_, rfl, ?_⟩))
  go_ret
  exact ⟨rz_, bel⟩
 rw [if_neg c3] at H
 have c3b0 : (a0_0 == a1_0) = false := beq_eq_false_iff_ne.mpr c3
 have c3b1 : (a0_0 != a1_0) = true := bne_iff_ne.mpr c3
 obtain rfl := Option.some.inj H
 go_enter Try.func61, Try.ntmps61
 go_wp2_with (first | ((with_reducible refine gate_dst (N := 2) rfl ?_); refine bx_ 2 #[.int .i64 a0_0, .bool a0_1, .slice A0_2 l0_2.length c0_2] 89 (h := ?_); intro gb350 hg w22 hbox hb; have BK350 := Aside0.mk (hbox); have GW350 := Aside0.mk ((by rw [hg]; exact (below_size bel) : w.heap.size ≤ gb350)); have GE350 := GW350; replace HB := bst hb; clear hb hbox hg) | ((with_reducible refine gate_dst (N := 3) rfl ?_); refine bx_ 3 #[.int .i64 a1_0, .bool a1_1, .slice A1_2 l1_2.length c1_2] 89 (h := ?_); intro gb351 hg w23 hbox hb; have BK351 := Aside0.mk (hbox); have GW351 := Aside0.mk ((by rw [hg]; exact (below_size bel) : w.heap.size ≤ gb351)); have GE351 := GW351; have NB350_351 := Aside0.mk ((by rw [hg]; exact Nat.ne_of_lt (blt BK350) : gb350 ≠ gb351)); have NB351_350 := Aside0.mk NB350_351.out.symm; replace BK350 := Aside0.mk (blb BK350 hb); replace HB := bst hb; clear hb hbox hg; have hnb24 := NB350_351.out; have hnc24 := NB351_350.out; obtain ⟨C25_0, C25_1, C25_2, -⟩ := cells_3 BK350.out trivial; obtain ⟨F25_0, F25_1, F25_2, -⟩ := frz_3 BK350.out; obtain ⟨C26_0, C26_1, C26_2, -⟩ := cells_3 BK351.out trivial; obtain ⟨F26_0, F26_1, F26_2, -⟩ := frz_3 BK351.out))
 go_ret
 exact ⟨rz_, bel⟩

/-! ### laws_markView: function 62 -/
def laws_markView.f (k : Nat) (a0_0 : Int) (a0_1 : Bool) (l0_2 : List Int) (a1 : Int) : Option (Int × List Int) := (laws_markByteS.f k l0_2 a1).bind fun bt354 => (some (bt354.1, bt354.2))
set_option maxHeartbeats 8000000 in
set_option maxRecDepth 100000 in
theorem laws_markView.calls (k : Nat) (a0_0 : Int) (a0_1 : Bool) (P0_2_ : Nat → Prop) (u9000_ : Value) (l0_2 : List Int) (a1 : Int) (r1 : Int) (r2 : List Int) (w0 w : World) (hB : Below w0.heap.size w0 w) (ho0_2 : Kd.R (Kd.int .u8) 5 w w0.heap.size P0_2_ u9000_ l0_2) (h : laws_markView.f k a0_0 a0_1 l0_2 a1 = some (r1, r2)) :
  Calls Try.prog 62 #[.agg #[.int .i64 a0_0, .bool a0_1, u9000_], .int .i64 a1] w fun e w' => e = .returned (.int .i64 r1) ∧ Kd.R (Kd.int .u8) 5 w' w0.heap.size (fun k_ => (P0_2_ k_ ∨ w.heap.size ≤ k_)) u9000_ r2 ∧ Below w0.heap.size w0 w' ∧ Kept w w' (fun k_ => P0_2_ k_) := by
 have hu89 := Try.underlying89
 have HO0_2 := Aside0.mk (show Kd.R (Kd.int .u8) 5 w w0.heap.size (fun k_ => (P0_2_ k_ ∨ w.heap.size ≤ k_)) u9000_ l0_2 from Kd.R_mono ho0_2 (fun k_ hk => (.inl hk)))
 have HK := Aside0.mk (Kept.refl w (fun k_ => P0_2_ k_))
 have HW0 := Aside0.mk hB.size
 have HB := Aside0.mk hB
 clear hB
 have H : ((laws_markByteS.f k l0_2 a1).bind fun bt354 => (some (bt354.1, bt354.2))) = some (r1, r2) := h
 clear h
 replace H := Option.bind_eq_some_iff.mp H
 obtain ⟨⟨t354, t355⟩, A30, H⟩ := H
 replace H : (some (t354, t355)) = some (r1, r2) := H
 have A3 := Aside0.mk A30
 clear A30
 simp only [Option.some.injEq, Prod.mk.injEq] at H
 obtain ⟨rfl, rfl⟩ := H
 obtain ⟨Ao4, co4, eo4⟩ := Kd.R_slice HO0_2.out
 subst eo4
 go_enter Try.func62, Try.ntmps62
 go_wp2_with (first | ((with_reducible refine gate_dst (N := 2) rfl ?_); refine bx_ 2 #[.int .i64 a0_0, .bool a0_1, .slice Ao4 l0_2.length co4] 89 (h := ?_); intro gb353 hg w5 hbox hb; have BK353 := Aside0.mk (hbox); have GW353 := Aside0.mk ((by rw [hg]; exact (by first | exact HK.out.1 | exact (show Kept w _ (fun k_ => P0_2_ k_) from by repeat (first | (with_reducible first | exact HK.out | apply Kept.alloc | apply Kept.drewN | apply Kept.drew) | exact HK.out)).1) : w.heap.size ≤ gb353)); have GE353 := Aside0.mk ((by rw [hg]; exact (below_size bel) : w0.heap.size ≤ gb353)); replace HO0_2 := Aside0.mk (rbl HO0_2 hb); replace HK := Aside0.mk (Kept.below (S := (fun k_ => P0_2_ k_)) (by repeat (first | (with_reducible first | exact HK.out | apply Kept.alloc | apply Kept.drewN | apply Kept.drew) | exact HK.out)) hb); replace HB := bst hb; clear hb hbox hg; obtain ⟨C6_0, C6_1, C6_2, -⟩ := cells_3 BK353.out trivial; obtain ⟨F6_0, F6_1, F6_2, -⟩ := frz_3 BK353.out) | ((with_reducible refine gate_callee (f := 38) rfl ?_); refine gl_ (some 8) Try.func38 #[.slice Ao4 l0_2.length co4, .int .i64 a1] (h := ?_); (with_reducible refine (laws_markByteS.calls k (fun k_ => some k_ = (.slice Ao4 l0_2.length co4 : Value).ownBlock) (.slice Ao4 l0_2.length co4) l0_2 a1 t354 t355 w0 _ ?side1 ?side2 A3.out).mono ?_); (case side1 => repeat (first | (with_reducible first | exact HB.out | apply below_alloc | apply pw_below_drewN | apply below_drew1 | refine below_set ?_ GE353.out) | exact HB.out)); (case side2 => exact Kd.R_tight rfl HO0_2.out); rintro e w7 ⟨rfl, hy0, hb, hkp⟩; refine ⟨_, rfl, ?_⟩; replace BK353 := Aside0.mk (blk_kept (bkp BK353) hkp (fun hs_ => (fun e_ => (Kd.R_ne HO0_2.out BK353.out (by decide)) e_) hs_)); replace HK := Aside0.mk (Kept.then_ (S := (fun k_ => P0_2_ k_)) (by repeat (first | (with_reducible first | exact HK.out | apply Kept.alloc | apply Kept.drewN | apply Kept.drew | refine Kept.setCell ?_ (.inr GW353.out) _) | exact HK.out)) hkp (fun k_ hs_ => (fun e_ => (HO0_2.out.1 k_ e_.symm)) hs_)); replace HO0_2 := Aside0.mk (Kd.R_reok rfl hy0 (fun k_ e_ => HO0_2.out.1 k_ e_)); replace HB := Aside0.mk (hb); (try clear hb); (try clear hkp); (try clear hy0)))
 go_ret
 exact ⟨rz_, by (with_reducible repeat (first | apply Kd.R_alloc | apply Kd.R_drewN | apply Kd.R_drew)); exact HO0_2.out, by repeat (first | (with_reducible first | exact HB.out | apply below_alloc | apply pw_below_drewN | apply below_drew1 | refine below_set ?_ GE353.out) | exact HB.out), by repeat (first | (with_reducible first | exact HK.out | apply Kept.alloc | apply Kept.drewN | apply Kept.drew | refine Kept.setCell ?_ (.inr GW353.out) _) | exact HK.out)⟩

/-! ### laws_heldByteS: function 39 -/
def laws_heldByteS.l0 : Nat → List Int → Int → Int → Option (Int)
 | 0, _, _, _ => none
 | k + 1, x0, x1, x5 => if x5 < (x0.length : Int) then (if 0 ≤ x5 then (if (rd x0 x5) = ((x1) % 256) then (laws_heldByteS.l0 k x0 (wrap64 (x1 + 1)) (wrap64 (x5 + 1))) else (some (-1))) else (none)) else (some x1)
def laws_heldByteS.f (k : Nat) (l0 : List Int) (a1 : Int) : Option (Int) := laws_heldByteS.l0 k l0 a1 0
set_option maxHeartbeats 8000000 in
set_option maxRecDepth 100000 in
theorem laws_heldByteS.calls (k : Nat) (A0 : Option Addr) (c0 : Nat) (l0 : List Int) (a1 : Int) (r : Int) (w : World) (hr0 : Kd.C (Kd.int .u8) w A0 l0.length l0) (hc0 : l0.length ≤ c0) (h : laws_heldByteS.f k l0 a1 = some r) :
  Calls Try.prog 39 #[.slice A0 l0.length c0, .int .i64 a1] w fun e w' => e = .returned (.int .i64 r) ∧ Drawn0 w w' := by
 have HR0 := Aside0.mk hr0
 have HC0 := Aside0.mk hc0
 clear hr0 hc0
 have H : (laws_heldByteS.l0 k l0 a1 0) = some r := h
 clear h
 have H' := Aside0.mk H
 clear H
 go_enter Try.func39, Try.ntmps39
 go_wp2
 go_loopg [1, 5] k (fun kq v1 v5 w' => ∃ (x1_1 : Int) (x5_1 : Int), v1 = .int .i64 x1_1 ∧ v5 = .int .i64 x5_1 ∧ Aside0 (laws_heldByteS.l0 kq l0 x1_1 x5_1 = some r) ∧ Aside0 (kq ≤ k) ∧ Drawn0 w w')
 case atStart => exact ⟨(a1), (0), rs_, rs_, H', ⟨Nat.le_refl _⟩, by repeat (first | exact Drawn0.refl _ | apply Drawn0.step)⟩
 case round =>
  clear H'
  try clear p2
  obtain ⟨x1_1, x5_1, rfl, rfl, HA, HK1, ⟨m1, rfl⟩⟩ := hrel
  cases gk with
  | zero => exact absurd HA.out (by simp [laws_heldByteS.l0])
  | succ k1 =>
   have H := HA.out
   clear HA
   simp only [laws_heldByteS.l0] at H
   by_cases c3 : x5_1 < (l0.length : Int)
   ·rw [if_pos c3] at H
    have c3b0 : decide (x5_1 < (l0.length : Int)) = true := decide_eq_true c3
    clear c3
    by_cases c4 : 0 ≤ x5_1
    ·rw [if_pos c4] at H
     have c4b0 : decide (0 ≤ x5_1) = true := decide_eq_true c4
     clear c4
     by_cases c5 : (rd l0 x5_1) = ((x1_1) % 256)
     ·rw [if_pos c5] at H
      have c5b0 : ((rd l0 x5_1) == ((x1_1) % 256)) = true := beq_iff_eq.mpr c5
      have c5b1 : ((rd l0 x5_1) != ((x1_1) % 256)) = false := bne_eq_false_iff_eq.mpr c5
      clear c5
      have H' := Aside0.mk H
      clear H
      have p356 : 0 ≤ (x5_1 : Int) := od
      have q356 : x5_1 < (l0.length : Int) := od
      obtain ⟨ad356, e356, hx356_0⟩ := Kd.at_int HR0.out x5_1 p356 q356
      cases e356
      replace p356 := eq_true p356
      replace q356 := eq_true q356
      go_wp2
      go_roundg k1
      case measure => have := HK1.out; omega
      case rel => exact ⟨(wrap64 (x1_1 + 1)), (wrap64 (x5_1 + 1)), rs_, rs_, H', ⟨by have := HK1.out; omega⟩, by repeat (first | exact Drawn0.refl _ | apply Drawn0.step)⟩
     rw [if_neg c5] at H
     have c5b0 : ((rd l0 x5_1) == ((x1_1) % 256)) = false := beq_eq_false_iff_ne.mpr c5
     have c5b1 : ((rd l0 x5_1) != ((x1_1) % 256)) = true := bne_iff_ne.mpr c5
     obtain rfl := Option.some.inj H
     have p356 : 0 ≤ (x5_1 : Int) := od
     have q356 : x5_1 < (l0.length : Int) := od
     obtain ⟨ad356, e356, hx356_0⟩ := Kd.at_int HR0.out x5_1 p356 q356
     cases e356
     replace p356 := eq_true p356
     replace q356 := eq_true q356
     go_wp2
     go_ret
     exact ⟨by first | rfl | (simp; done) | (simp [*]; done), by repeat (first | exact Drawn0.refl _ | apply Drawn0.step)⟩
    rw [if_neg c4] at H
    exact absurd H (by simp)
   rw [if_neg c3] at H
   have c3b0 : decide (x5_1 < (l0.length : Int)) = false := decide_eq_false c3
   clear c3
   obtain rfl := Option.some.inj H
   go_wp2
   go_ret
   exact ⟨by first | rfl | (simp; done) | (simp [*]; done), by repeat (first | exact Drawn0.refl _ | apply Drawn0.step)⟩

/-! ### laws_heldView: function 63 -/
def laws_heldView.f (k : Nat) (a0_0 : Int) (a0_1 : Bool) (l0_2 : List Int) (a1 : Int) : Option (Int) := (laws_heldByteS.f k l0_2 a1).bind fun t358 => (if t358 < 0 then (some (-1)) else (some t358))
set_option maxHeartbeats 8000000 in
set_option maxRecDepth 100000 in
theorem laws_heldView.calls (k : Nat) (a0_0 : Int) (a0_1 : Bool) (A0_2 : Option Addr) (c0_2 : Nat) (l0_2 : List Int) (a1 : Int) (r : Int) (w : World) (hr0_2 : Kd.C (Kd.int .u8) w A0_2 l0_2.length l0_2) (hc0_2 : l0_2.length ≤ c0_2) (h : laws_heldView.f k a0_0 a0_1 l0_2 a1 = some r) :
  Calls Try.prog 63 #[.agg #[.int .i64 a0_0, .bool a0_1, .slice A0_2 l0_2.length c0_2], .int .i64 a1] w fun e w' => e = .returned (.int .i64 r) ∧ Below w.heap.size w w' := by
 have hu89 := Try.underlying89
 have HR0_2 := Aside0.mk hr0_2
 have HC0_2 := Aside0.mk hc0_2
 clear hr0_2 hc0_2
 have HB := Aside0.mk (Below.refl w.heap.size w)
 have H : ((laws_heldByteS.f k l0_2 a1).bind fun t358 => (if t358 < 0 then (some (-1)) else (some t358))) = some r := h
 clear h
 replace H := Option.bind_eq_some_iff.mp H
 obtain ⟨t358, A30, H⟩ := H
 replace H : (if t358 < 0 then (some (-1)) else (some t358)) = some r := H
 have A3 := Aside0.mk A30
 clear A30
 by_cases c4 : t358 < 0
 ·rw [if_pos c4] at H
  have c4b0 : decide (t358 < 0) = true := decide_eq_true c4
  clear c4
  obtain rfl := Option.some.inj H
  go_enter Try.func63, Try.ntmps63
  go_wp2_with (first | ((with_reducible refine gate_dst (N := 2) rfl ?_); refine bx_ 2 #[.int .i64 a0_0, .bool a0_1, .slice A0_2 l0_2.length c0_2] 89 (h := ?_); intro gb357 hg w5 hbox hb; have BK357 := Aside0.mk (hbox); have GW357 := Aside0.mk ((by rw [hg]; exact (below_size bel) : w.heap.size ≤ gb357)); have GE357 := GW357; replace HB := bst hb; clear hb hbox hg; obtain ⟨C6_0, C6_1, C6_2, -⟩ := cells_3 BK357.out trivial; obtain ⟨F6_0, F6_1, F6_2, -⟩ := frz_3 BK357.out) | ((with_reducible refine gate_callee (f := 39) rfl ?_); refine gl_ (some 8) Try.func39 #[.slice A0_2 l0_2.length c0_2, .int .i64 a1] (h := ?_); (with_reducible refine (laws_heldByteS.calls k _ _ l0_2 a1 t358 _ ?side1 ?side2 A3.out).mono ?_); (case side1 => exact kcb); (case side2 => exact HC0_2.out); rintro e w' ⟨rfl, ⟨nd, rfl⟩⟩; refine ⟨_, rfl, ?_⟩))
  go_ret
  exact ⟨rz_, bel⟩
 rw [if_neg c4] at H
 have c4b0 : decide (t358 < 0) = false := decide_eq_false c4
 clear c4
 obtain rfl := Option.some.inj H
 go_enter Try.func63, Try.ntmps63
 go_wp2_with (first | ((with_reducible refine gate_dst (N := 2) rfl ?_); refine bx_ 2 #[.int .i64 a0_0, .bool a0_1, .slice A0_2 l0_2.length c0_2] 89 (h := ?_); intro gb357 hg w7 hbox hb; have BK357 := Aside0.mk (hbox); have GW357 := Aside0.mk ((by rw [hg]; exact (below_size bel) : w.heap.size ≤ gb357)); have GE357 := GW357; replace HB := bst hb; clear hb hbox hg; obtain ⟨C8_0, C8_1, C8_2, -⟩ := cells_3 BK357.out trivial; obtain ⟨F8_0, F8_1, F8_2, -⟩ := frz_3 BK357.out) | ((with_reducible refine gate_callee (f := 39) rfl ?_); refine gl_ (some 8) Try.func39 #[.slice A0_2 l0_2.length c0_2, .int .i64 a1] (h := ?_); (with_reducible refine (laws_heldByteS.calls k _ _ l0_2 a1 t358 _ ?side1 ?side2 A3.out).mono ?_); (case side1 => exact kcb); (case side2 => exact HC0_2.out); rintro e w' ⟨rfl, ⟨nd, rfl⟩⟩; refine ⟨_, rfl, ?_⟩))
 go_ret
 exact ⟨rz_, bel⟩

end Go.Proofs.Ytdgegnakiljfjaa.PL
