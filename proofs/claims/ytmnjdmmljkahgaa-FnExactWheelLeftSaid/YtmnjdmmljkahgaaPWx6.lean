-- Written for this claim by the session's program pp.py, out of the kit's print and the seat's translation.
import Derived.Test.YtmnjdmmljkahgaaPWx0
import Derived.Test.YtmnjdmmljkahgaaPWx1
import Derived.Test.YtmnjdmmljkahgaaPWx2
import Derived.Test.YtmnjdmmljkahgaaPWx3
import Derived.Test.YtmnjdmmljkahgaaPWx4
import Derived.Test.YtmnjdmmljkahgaaPWx5
namespace Go.Proofs.Ytmnjdmmljkahgaa.PW
open Go.RowKit Go.Proofs.YtmnjdmmljkahgaaW.PrintWords Go.Proofs.YtmnjdmmljkahgaaW.PrintLast Go.Proofs.YtmnjdmmljkahgaaW.PrintMore
attribute [local go_sem] max2_int min2_int max_two min_two max_three min_three max_four min_four   -- for this text's walks alone
set_option linter.unusedVariables false
set_option linter.unusedSimpArgs false

/-! ### laws_FnExactWheelNext: function 8 -/
def laws_FnExactWheelNext.j0 : Nat → Bool → Int → List (S104) → Int → List (S93) → Option (Bool)
 | 0, _, _, _, _, _ => none
 | k + 1, x34, x191000, x191001, x203000, x203001 => if x34 = true then (some false) else ((laws_toWheel.f k x191000 x191001).bind fun bt205 => ((laws_eqWheel.f k x203000 x203001 bt205.1 bt205.2).bind fun t209 => (if t209 = true then (some true) else (some false))))
def laws_FnExactWheelNext.f (k : Nat) (a0_0 : Int) (l0_1 : List (S104)) : Option (Bool) := (laws_szWheel.f a0_0 l0_1 1048576).bind fun t191 => (if t191 < 0 then (some true) else ((laws_toWheel.f k a0_0 l0_1).bind fun bt192 => ((spec_WheelNext.f k bt192.1 bt192.2).bind fun bt196 => ((laws_toWheel.f k a0_0 l0_1).bind fun bt198 => ((impl_WheelNext.f k bt198.1 bt198.2).bind fun bt203 => (if bt203.1 = bt196.1 then (laws_FnExactWheelNext.j0 k (bt203.2 != bt196.2) a0_0 l0_1 bt198.1 bt198.2) else (laws_FnExactWheelNext.j0 k true a0_0 l0_1 bt198.1 bt198.2)))))))
theorem laws_FnExactWheelNext.mono_l : ∀ k, (∀ y0 y1 y2 y3 y4, LeO (laws_FnExactWheelNext.j0 k y0 y1 y2 y3 y4) (laws_FnExactWheelNext.j0 (k + 1) y0 y1 y2 y3 y4))
 | 0 => fun _ _ _ _ _ r h => by simp [laws_FnExactWheelNext.j0] at h
 | k + 1 => by
  have ih0 := laws_FnExactWheelNext.mono_l k
  ·intro y0 y1 y2 y3 y4
   unfold laws_FnExactWheelNext.j0
   repeat' first
   | (with_reducible exact ih0 _ _ _ _ _)
   | (with_reducible exact impl_WheelNext.mono _ _ _)
   | (with_reducible exact laws_eqWheel.mono _ _ _ _ _)
   | (with_reducible exact laws_toWheel.mono _ _ _)
   | (with_reducible exact spec_WheelNext.mono _ _ _)
   | (with_reducible exact LeO.refl _)
   | (with_reducible exact LeO.none _)
   | (with_reducible refine LeO.ite ?_ ?_)
   | (with_reducible refine LeO.bind ?_ (fun _ => ?_))
   | exact ih0 _ _ _ _ _
   | exact impl_WheelNext.mono _ _ _
   | exact laws_eqWheel.mono _ _ _ _ _
   | exact laws_toWheel.mono _ _ _
   | exact spec_WheelNext.mono _ _ _
   | exact LeO.none _
   | refine LeO.ite ?_ ?_
   | refine LeO.bind ?_ (fun _ => ?_)
theorem laws_FnExactWheelNext.mono : ∀ a0 a1 k, LeO (laws_FnExactWheelNext.f k a0 a1) (laws_FnExactWheelNext.f (k + 1) a0 a1) := by
 intro a0 a1 k
 have ih0 := laws_FnExactWheelNext.mono_l k
 unfold laws_FnExactWheelNext.f
 repeat' first
   | (with_reducible exact ih0 _ _ _ _ _)
   | (with_reducible exact impl_WheelNext.mono _ _ _)
   | (with_reducible exact laws_eqWheel.mono _ _ _ _ _)
   | (with_reducible exact laws_toWheel.mono _ _ _)
   | (with_reducible exact spec_WheelNext.mono _ _ _)
   | (with_reducible exact LeO.refl _)
   | (with_reducible exact LeO.none _)
   | (with_reducible refine LeO.ite ?_ ?_)
   | (with_reducible refine LeO.bind ?_ (fun _ => ?_))
   | exact ih0 _ _ _ _ _
   | exact impl_WheelNext.mono _ _ _
   | exact laws_eqWheel.mono _ _ _ _ _
   | exact laws_toWheel.mono _ _ _
   | exact spec_WheelNext.mono _ _ _
   | exact LeO.none _
   | refine LeO.ite ?_ ?_
   | refine LeO.bind ?_ (fun _ => ?_)
set_option maxHeartbeats 8000000 in
set_option maxRecDepth 100000 in
theorem laws_FnExactWheelNext.calls (k : Nat) (a0_0 : Int) (A0_1 : Option Addr) (c0_1 : Nat) (l0_1 : List (S104)) (r : Bool) (w : World) (hr0_1 : Kd.C k104 w A0_1 l0_1.length l0_1) (hc0_1 : l0_1.length ≤ c0_1) (h : laws_FnExactWheelNext.f k a0_0 l0_1 = some r) :
  Calls Try.prog 8 #[.agg #[.int .i64 a0_0, .slice A0_1 l0_1.length c0_1]] w fun e w' => e = .returned (.bool r) ∧ Below w.heap.size w w' := by
 have hu60 := Try.underlying60
 have hu65 := Try.underlying65
 have HR0_1 := Aside0.mk hr0_1
 have HC0_1 := Aside0.mk hc0_1
 clear hr0_1 hc0_1
 have HB := Aside0.mk (Below.refl w.heap.size w)
 have H : ((laws_szWheel.f a0_0 l0_1 1048576).bind fun t191 => (if t191 < 0 then (some true) else ((laws_toWheel.f k a0_0 l0_1).bind fun bt192 => ((spec_WheelNext.f k bt192.1 bt192.2).bind fun bt196 => ((laws_toWheel.f k a0_0 l0_1).bind fun bt198 => ((impl_WheelNext.f k bt198.1 bt198.2).bind fun bt203 => (if bt203.1 = bt196.1 then (laws_FnExactWheelNext.j0 k (bt203.2 != bt196.2) a0_0 l0_1 bt198.1 bt198.2) else (laws_FnExactWheelNext.j0 k true a0_0 l0_1 bt198.1 bt198.2)))))))) = some r := h
 clear h
 replace H := Option.bind_eq_some_iff.mp H
 obtain ⟨t191, A20, H⟩ := H
 replace H : (if t191 < 0 then (some true) else ((laws_toWheel.f k a0_0 l0_1).bind fun bt192 => ((spec_WheelNext.f k bt192.1 bt192.2).bind fun bt196 => ((laws_toWheel.f k a0_0 l0_1).bind fun bt198 => ((impl_WheelNext.f k bt198.1 bt198.2).bind fun bt203 => (if bt203.1 = bt196.1 then (laws_FnExactWheelNext.j0 k (bt203.2 != bt196.2) a0_0 l0_1 bt198.1 bt198.2) else (laws_FnExactWheelNext.j0 k true a0_0 l0_1 bt198.1 bt198.2))))))) = some r := H
 have A2 := Aside0.mk A20
 clear A20
 by_cases c3 : t191 < 0
 ·rw [if_pos c3] at H
  have c3b0 : decide (t191 < 0) = true := decide_eq_true c3
  clear c3
  obtain rfl := Option.some.inj H
  go_enter Try.func8, Try.ntmps8
  go_wp2_with (first | ((with_reducible refine gate_dst (N := 1) rfl ?_); refine bx_ 1 #[.int .i64 a0_0, .slice A0_1 l0_1.length c0_1] 60 (h := ?_); intro gb190 hg w4 hbox hb; have BK190 := Aside0.mk (hbox); have GW190 := Aside0.mk ((by rw [hg]; exact (below_size bel) : w.heap.size ≤ gb190)); have GE190 := Aside0.mk ((by rw [hg]; exact (below_size bel) : w.heap.size ≤ gb190)); replace HB := Aside0.mk (below_step bel hb); clear hb hbox hg; obtain ⟨hcz5_0, hcz5_1, -⟩ := cells_2 BK190.out trivial; obtain ⟨hfz5_0, hfz5_1, -⟩ := frz_2 BK190.out) | ((with_reducible refine gate_callee (f := 31) rfl ?_); refine gl_ (some 11) Try.func31 #[.agg #[.int .i64 a0_0, .slice A0_1 l0_1.length c0_1], .int .i64 1048576] (h := ?_); (with_reducible refine (laws_szWheel.calls a0_0 _ _ l0_1 1048576 t191 _ ?side1 ?side2 A2.out).mono ?_); (case side1 => exact kcb); (case side2 => exact HC0_1.out); rintro e w6 ⟨rfl, hb⟩; refine ⟨_, rfl, ?_⟩; replace BK190 := Aside0.mk (blb BK190 hb); replace HB := Aside0.mk (below_step bel hb); (try clear hb); (try clear hb2); (try clear hk); (try clear hi)))
  go_ret
  exact ⟨by first | rfl | (simp [errW_none, errW_some] <;> rfl) | (simp [*, errW_none, errW_some] <;> rfl), by repeat (first | (with_reducible first | exact HB.out | apply below_alloc | apply pw_below_drewN | apply below_drew1 | refine below_set ?_ GE190.out) | exact HB.out)⟩
 ·rw [if_neg c3] at H
  have c3b0 : decide (t191 < 0) = false := decide_eq_false c3
  clear c3
  replace H := Option.bind_eq_some_iff.mp H
  obtain ⟨⟨t192, t193⟩, A70, H⟩ := H
  replace H : ((spec_WheelNext.f k t192 t193).bind fun bt196 => ((laws_toWheel.f k a0_0 l0_1).bind fun bt198 => ((impl_WheelNext.f k bt198.1 bt198.2).bind fun bt203 => (if bt203.1 = bt196.1 then (laws_FnExactWheelNext.j0 k (bt203.2 != bt196.2) a0_0 l0_1 bt198.1 bt198.2) else (laws_FnExactWheelNext.j0 k true a0_0 l0_1 bt198.1 bt198.2))))) = some r := H
  have A7 := Aside0.mk A70
  clear A70
  replace H := Option.bind_eq_some_iff.mp H
  obtain ⟨⟨t196, t197⟩, A80, H⟩ := H
  replace H : ((laws_toWheel.f k a0_0 l0_1).bind fun bt198 => ((impl_WheelNext.f k bt198.1 bt198.2).bind fun bt203 => (if bt203.1 = t196 then (laws_FnExactWheelNext.j0 k (bt203.2 != t197) a0_0 l0_1 bt198.1 bt198.2) else (laws_FnExactWheelNext.j0 k true a0_0 l0_1 bt198.1 bt198.2)))) = some r := H
  have A8 := Aside0.mk A80
  clear A80
  replace H := Option.bind_eq_some_iff.mp H
  obtain ⟨⟨t198, t199⟩, A90, H⟩ := H
  replace H : ((impl_WheelNext.f k t198 t199).bind fun bt203 => (if bt203.1 = t196 then (laws_FnExactWheelNext.j0 k (bt203.2 != t197) a0_0 l0_1 t198 t199) else (laws_FnExactWheelNext.j0 k true a0_0 l0_1 t198 t199))) = some r := H
  have A9 := Aside0.mk A90
  clear A90
  replace H := Option.bind_eq_some_iff.mp H
  obtain ⟨⟨t203, t204⟩, A100, H⟩ := H
  replace H : (if t203 = t196 then (laws_FnExactWheelNext.j0 k (t204 != t197) a0_0 l0_1 t198 t199) else (laws_FnExactWheelNext.j0 k true a0_0 l0_1 t198 t199)) = some r := H
  have A10 := Aside0.mk A100
  clear A100
  have HC11 := Aside0.mk H
  clear H
  go_enter Try.func8, Try.ntmps8
  go_upto_region 8 with (first | ((with_reducible refine gate_dst (N := 1) rfl ?_); refine bx_ 1 #[.int .i64 a0_0, .slice A0_1 l0_1.length c0_1] 60 (h := ?_); intro gb190 hg w12 hbox hb; have BK190 := Aside0.mk (hbox); have GW190 := Aside0.mk ((by rw [hg]; exact (below_size bel) : w.heap.size ≤ gb190)); have GE190 := Aside0.mk ((by rw [hg]; exact (below_size bel) : w.heap.size ≤ gb190)); replace HB := Aside0.mk (below_step bel hb); clear hb hbox hg; obtain ⟨hcz13_0, hcz13_1, -⟩ := cells_2 BK190.out trivial; obtain ⟨hfz13_0, hfz13_1, -⟩ := frz_2 BK190.out) | ((with_reducible refine gate_callee (f := 31) rfl ?_); refine gl_ (some 11) Try.func31 #[.agg #[.int .i64 a0_0, .slice A0_1 l0_1.length c0_1], .int .i64 1048576] (h := ?_); (with_reducible refine (laws_szWheel.calls a0_0 _ _ l0_1 1048576 t191 _ ?side1 ?side2 A2.out).mono ?_); (case side1 => exact kcb); (case side2 => exact HC0_1.out); rintro e w14 ⟨rfl, hb⟩; refine ⟨_, rfl, ?_⟩; replace BK190 := Aside0.mk (blb BK190 hb); replace HB := Aside0.mk (below_step bel hb); (try clear hb); (try clear hb2); (try clear hk); (try clear hi); obtain ⟨hcz15_0, hcz15_1, -⟩ := cells_2 BK190.out trivial; obtain ⟨hfz15_0, hfz15_1, -⟩ := frz_2 BK190.out) | ((with_reducible refine gate_callee (f := 33) rfl ?_); refine gl_ (some 16) Try.func33 #[.agg #[.int .i64 a0_0, .slice A0_1 l0_1.length c0_1]] (h := ?_); (with_reducible refine (laws_toWheel.calls k a0_0 _ _ l0_1 t192 t193 _ ?side1 ?side2 A7.out).mono ?_); (case side1 => exact kcb); (case side2 => exact HC0_1.out); rintro e w16 ⟨v194, rfl, ho0, hb⟩; refine ⟨_, rfl, ?_⟩; have HO195 := Aside0.mk (Kd.R_lower ho0 (below_size bel)); replace BK190 := Aside0.mk (blb BK190 hb); replace HB := Aside0.mk (below_step bel hb); (try clear hb); (try clear hb2); (try clear hk); (try clear hi); (try clear ho0); obtain ⟨Ao17, co17, eo17⟩ := Kd.R_slice HO195.out; subst eo17) | ((with_reducible refine gate_callee (f := 36) rfl ?_); refine gl_ (some 17) Try.func36 #[.agg #[.int .i64 t192, .slice Ao17 t193.length co17]] (h := ?_); (with_reducible refine (spec_WheelNext.calls k t192 _ _ t193 t196 t197 _ ?side1 ?side2 A8.out).mono ?_); (case side1 => repeat (first | exact (Kd.R_reads' HO195.out).2.2 | (with_reducible refine Kd.C_alloc ?_ _) | (with_reducible refine Kd.C_drewN ?_ _) | (with_reducible refine Kd.C_drew ?_))); (case side2 => exact (Kd.R_reads' HO195.out).2.1); rintro e w18 ⟨rfl, hb⟩; refine ⟨_, rfl, ?_⟩; replace HO195 := Aside0.mk (Kd.R_below (by (with_reducible repeat (first | apply Kd.R_alloc | apply Kd.R_drewN | apply Kd.R_drew)); exact HO195.out) hb); replace BK190 := Aside0.mk (blb BK190 hb); replace HB := Aside0.mk (below_step bel hb); (try clear hb); (try clear hb2); (try clear hk); (try clear hi); obtain ⟨hcz19_0, hcz19_1, -⟩ := cells_2 BK190.out trivial; obtain ⟨hfz19_0, hfz19_1, -⟩ := frz_2 BK190.out) | ((with_reducible refine gate_callee (f := 33) rfl ?_); refine gl_ (some 21) Try.func33 #[.agg #[.int .i64 a0_0, .slice A0_1 l0_1.length c0_1]] (h := ?_); (with_reducible refine (laws_toWheel.calls k a0_0 _ _ l0_1 t198 t199 _ ?side1 ?side2 A9.out).mono ?_); (case side1 => exact kcb); (case side2 => exact HC0_1.out); rintro e w20 ⟨v200, rfl, ho0, hb⟩; refine ⟨_, rfl, ?_⟩; have HO201 := Aside0.mk (Kd.R_lower (Kd.R_new' ho0 (Kd.R_lt (by (with_reducible repeat (first | apply Kd.R_alloc | apply Kd.R_drewN | apply Kd.R_drew)); exact HO195.out))) (below_size bel)); replace HO195 := Aside0.mk (Kd.R_elder' (by (with_reducible repeat (first | apply Kd.R_alloc | apply Kd.R_drewN | apply Kd.R_drew)); exact HO195.out) (Kd.R_base ho0) hb); replace BK190 := Aside0.mk (blb BK190 hb); replace HB := Aside0.mk (below_step bel hb); (try clear hb); (try clear hb2); (try clear hk); (try clear hi); (try clear ho0)) | ((with_reducible refine gate_dst (N := 6) rfl ?_); refine bx_ 6 #[.int .i64 0, .slice none 0 0] 65 (h := ?_); intro gb202 hg w21 hbox hb; have BK202 := Aside0.mk (hbox); have GW202 := Aside0.mk ((by rw [hg]; exact (below_size bel) : w.heap.size ≤ gb202)); have GE202 := Aside0.mk ((by rw [hg]; exact (below_size bel) : w.heap.size ≤ gb202)); have NB190_202 := Aside0.mk ((by rw [hg]; exact Nat.ne_of_lt (blt BK190) : gb190 ≠ gb202)); have NB202_190 := Aside0.mk ((by rw [hg]; exact Nat.ne_of_gt (blt BK190) : gb202 ≠ gb190)); replace HO195 := Aside0.mk (Kd.R_below (by (with_reducible repeat (first | apply Kd.R_alloc | apply Kd.R_drewN | apply Kd.R_drew)); exact HO195.out) hb); replace HO201 := Aside0.mk (Kd.R_below (by (with_reducible repeat (first | apply Kd.R_alloc | apply Kd.R_drewN | apply Kd.R_drew)); exact HO201.out) hb); replace BK190 := Aside0.mk (blb BK190 hb); replace HB := Aside0.mk (below_step bel hb); clear hb hbox hg; have hnb22 := NB202_190.out; have hnc22 := NB190_202.out; obtain ⟨hcz23_0, hcz23_1, -⟩ := cells_2 BK202.out trivial; obtain ⟨hfz23_0, hfz23_1, -⟩ := frz_2 BK202.out; obtain ⟨Ao24, co24, eo24⟩ := Kd.R_slice HO201.out; subst eo24) | ((with_reducible refine gate_callee (f := 37) rfl ?_); refine gl_ (some 24) Try.func37 #[.agg #[.int .i64 t198, .slice Ao24 t199.length co24]] (h := ?_); (with_reducible refine (impl_WheelNext.calls k t198 _ _ t199 t203 t204 _ ?side1 ?side2 A10.out).mono ?_); (case side1 => refine (Kd.R_reads' (e := 93) (base := w.heap.size) (ok := fun k_ => (True ∧ some k_ ≠ (.slice Ao17 t193.length co17 : Value).ownBlock)) (n := t199.length) (c := co24) ?_).2.2; exact (by (with_reducible repeat (first | apply Kd.R_alloc | apply Kd.R_drewN | apply Kd.R_drew)); exact (Kd.R_mono (Kd.R_far (p := ⟨gb202, 1, none⟩) (Kd.R_far (p := ⟨gb202, 0, none⟩) (Kd.R_types HO201.out BK202.out (by decide)) (fun _ hk => hk.2) (.int .i64 t198)) (fun _ hk => hk.2) (.slice Ao24 t199.length co24)) (fun _ h_ => h_.1)))); (case side2 => exact (Kd.R_reads' HO201.out).2.1); rintro e w25 ⟨rfl, hb⟩; refine ⟨_, rfl, ?_⟩; replace HO195 := Aside0.mk (Kd.R_below (by (with_reducible repeat (first | apply Kd.R_alloc | apply Kd.R_drewN | apply Kd.R_drew)); exact (Kd.R_mono (Kd.R_far (p := ⟨gb202, 1, none⟩) (Kd.R_far (p := ⟨gb202, 0, none⟩) (Kd.R_types HO195.out BK202.out (by decide)) (fun _ hk => hk.2) (.int .i64 t198)) (fun _ hk => hk.2) (.slice Ao24 t199.length co24)) (fun _ h_ => h_.1))) hb); replace HO201 := Aside0.mk (Kd.R_below (by (with_reducible repeat (first | apply Kd.R_alloc | apply Kd.R_drewN | apply Kd.R_drew)); exact (Kd.R_mono (Kd.R_far (p := ⟨gb202, 1, none⟩) (Kd.R_far (p := ⟨gb202, 0, none⟩) (Kd.R_types HO201.out BK202.out (by decide)) (fun _ hk => hk.2) (.int .i64 t198)) (fun _ hk => hk.2) (.slice Ao24 t199.length co24)) (fun _ h_ => h_.1))) hb); replace BK190 := Aside0.mk (blk_below (g := gb190) (o := .cells #[.int .i64 a0_0, .slice A0_1 l0_1.length c0_1] 60 (0, 0)) (by (with_reducible repeat (first | refine blk_drewN ?_ _ | refine blk_drew ?_ | refine blk_alloc ?_ _)); refine blk_far ?_ NB190_202.out _; (with_reducible repeat (first | refine blk_drewN ?_ _ | refine blk_drew ?_ | refine blk_alloc ?_ _)); refine blk_far ?_ NB190_202.out _; (with_reducible repeat (first | refine blk_drewN ?_ _ | refine blk_drew ?_ | refine blk_alloc ?_ _)); exact BK190.out) hb); replace BK202 := Aside0.mk (blk_below (g := gb202) (o := .cells #[.int .i64 t198, .slice Ao24 t199.length co24] 65 (0, 0)) (by (with_reducible repeat (first | refine blk_drewN ?_ _ | refine blk_drew ?_ | refine blk_alloc ?_ _)); refine blk_put (cs := #[.int .i64 t198, .slice none 0 0]) ?_ 1 _ rfl; (with_reducible repeat (first | refine blk_drewN ?_ _ | refine blk_drew ?_ | refine blk_alloc ?_ _)); refine blk_put (cs := #[.int .i64 0, .slice none 0 0]) ?_ 0 _ rfl; (with_reducible repeat (first | refine blk_drewN ?_ _ | refine blk_drew ?_ | refine blk_alloc ?_ _)); exact BK202.out) hb); replace HB := Aside0.mk (below_step bel hb); (try clear hb); (try clear hb2); (try clear hk); (try clear hi)))
  (try simp only [Act.put, List.setIfInBounds_toArray, List.set_cons_zero, List.set_cons_succ])
  go_cut [34] (fun v34 wc => ∃ (kq : Nat) (x34_10 : Bool), v34 = .bool x34_10 ∧ Aside0 (laws_FnExactWheelNext.j0 kq x34_10 a0_0 l0_1 t198 t199 = some r) ∧ Aside0 (kq ≤ k) ∧ Aside0 (Kd.R k93 93 wc w.heap.size (fun _ => True) (.slice Ao24 t199.length co24) t199) ∧ Aside0 (wc.heap[gb190]? = some (.cells #[.int .i64 a0_0, (.slice A0_1 l0_1.length c0_1)] 60 (0, 0))) ∧ Aside0 (wc.heap[gb202]? = some (.cells #[.int .i64 t198, (.slice Ao24 t199.length co24)] 65 (0, 0))) ∧ Aside0 (Below w.heap.size w wc))
  case first =>
   have H := HC11.out
   clear HC11
   by_cases c26 : t203 = t196
   ·rw [if_pos c26] at H
    have c26b0 : (t203 == t196) = true := beq_iff_eq.mpr c26
    have c26b1 : (t203 != t196) = false := bne_eq_false_iff_eq.mpr c26
    clear c26
    (first | rw [c26b0] | (simp only [i64_w, i32_w]; rw [c26b0]) | skip)
    have H' := Aside0.mk H
    clear H
    go_wp2
    go_meet
    case rel => exact ⟨_, ((t204 != t197)), (by first | rfl | (simp; done) | (simp [*]; done)), H', ⟨by first | omega | exact Nat.le_refl _⟩, ⟨by (with_reducible repeat (first | apply Kd.R_alloc | apply Kd.R_drewN | apply Kd.R_drew)); exact Kd.R_mono HO201.out (fun _ hk => trivial)⟩, ⟨by (with_reducible repeat (first | refine blk_drewN ?_ _ | refine blk_drew ?_ | refine blk_alloc ?_ _)); exact BK190.out⟩, ⟨by (with_reducible repeat (first | refine blk_drewN ?_ _ | refine blk_drew ?_ | refine blk_alloc ?_ _)); exact BK202.out⟩, ⟨by repeat (first | (with_reducible first | exact HB.out | apply below_alloc | apply pw_below_drewN | apply below_drew1 | refine below_set ?_ GE190.out | refine below_set ?_ GE202.out) | exact HB.out)⟩⟩
   ·rw [if_neg c26] at H
    have c26b0 : (t203 == t196) = false := beq_eq_false_iff_ne.mpr c26
    have c26b1 : (t203 != t196) = true := bne_iff_ne.mpr c26
    (first | rw [c26b0] | (simp only [i64_w, i32_w]; rw [c26b0]) | skip)
    have H' := Aside0.mk H
    clear H
    go_wp2
    go_meet
    case rel => exact ⟨_, (true), (by first | rfl | (simp; done) | (simp [*]; done)), H', ⟨by first | omega | exact Nat.le_refl _⟩, ⟨by (with_reducible repeat (first | apply Kd.R_alloc | apply Kd.R_drewN | apply Kd.R_drew)); exact Kd.R_mono HO201.out (fun _ hk => trivial)⟩, ⟨by (with_reducible repeat (first | refine blk_drewN ?_ _ | refine blk_drew ?_ | refine blk_alloc ?_ _)); exact BK190.out⟩, ⟨by (with_reducible repeat (first | refine blk_drewN ?_ _ | refine blk_drew ?_ | refine blk_alloc ?_ _)); exact BK202.out⟩, ⟨by repeat (first | (with_reducible first | exact HB.out | apply below_alloc | apply pw_below_drewN | apply below_drew1 | refine below_set ?_ GE190.out | refine below_set ?_ GE202.out) | exact HB.out)⟩⟩
  case rest =>
   clear HC11
   try clear c2; try clear p2; try clear c3; try clear c3b0; try clear c8; try clear c22; try clear c26; try clear c26b0; try clear c26b1; try clear hcz13_0; try clear hcz13_1; try clear hcz15_0; try clear hcz15_1; try clear hcz19_0; try clear hcz19_1; try clear hcz23_0; try clear hcz23_1; try clear hcz5_0; try clear hcz5_1; try clear hfz13_0; try clear hfz13_1; try clear hfz15_0; try clear hfz15_1; try clear hfz19_0; try clear hfz19_1; try clear hfz23_0; try clear hfz23_1; try clear hfz5_0; try clear hfz5_1
   obtain ⟨kq, x34_10, rfl, HA, HJ10, HO_203001, BK190, BK202, HB⟩ := hcut
   cases kq with
   | zero => exact absurd HA.out (by simp [laws_FnExactWheelNext.j0])
   | succ kj10 =>
    have H := HA.out
    clear HA
    simp only [laws_FnExactWheelNext.j0] at H
    by_cases c27 : x34_10 = true
    ·subst c27
     have H1 : (some false) = some r := by rw [if_pos rfl] at H; exact H
     clear H
     have H := H1
     clear H1
     obtain rfl := Option.some.inj H
     go_wp2
     go_ret
     exact ⟨by first | rfl | (simp [errW_none, errW_some] <;> rfl) | (simp [*, errW_none, errW_some] <;> rfl), by repeat (first | (with_reducible first | exact HB.out | apply below_alloc | apply pw_below_drewN | apply below_drew1 | refine below_set ?_ GE190.out | refine below_set ?_ GE202.out) | exact HB.out)⟩
    ·replace c27 := Bool.eq_false_iff.mpr c27
     subst c27
     have H1 : ((laws_toWheel.f kj10 a0_0 l0_1).bind fun bt205 => ((laws_eqWheel.f kj10 t198 t199 bt205.1 bt205.2).bind fun t209 => (if t209 = true then (some true) else (some false)))) = some r := by rw [if_neg (show ¬ (false = true) by decide)] at H; exact H
     clear H
     have H := H1
     clear H1
     replace H := Option.bind_eq_some_iff.mp H
     obtain ⟨⟨t205, t206⟩, A280, H⟩ := H
     replace H : ((laws_eqWheel.f kj10 t198 t199 t205 t206).bind fun t209 => (if t209 = true then (some true) else (some false))) = some r := H
     have A28 := Aside0.mk A280
     clear A280
     replace H := Option.bind_eq_some_iff.mp H
     obtain ⟨t209, A290, H⟩ := H
     replace H : (if t209 = true then (some true) else (some false)) = some r := H
     have A29 := Aside0.mk A290
     clear A290
     by_cases c30 : t209 = true
     ·subst c30
      have H1 : (some true) = some r := by rw [if_pos rfl] at H; exact H
      clear H
      have H := H1
      clear H1
      obtain rfl := Option.some.inj H
      try go_wp2
      replace HO_203001 := Aside0.mk (Kd.R_drew HO_203001.out)
      replace BK190 := Aside0.mk (blk_drew BK190.out)
      replace BK202 := Aside0.mk (blk_drew BK202.out)
      replace HB := Aside0.mk (below_drew1 HB.out)
      refine start_ (n := 5) (S := fun w' => w'.cell? ⟨gb202, 0, none⟩ = some (.int .i64 t198) ∧ w'.cell? ⟨gb202, 1, none⟩ = some (.slice Ao24 t199.length co24) ∧ w'.cell? ⟨gb190, 0, none⟩ = some (.int .i64 a0_0) ∧ w'.cell? ⟨gb190, 1, none⟩ = some (.slice A0_1 l0_1.length c0_1)) (ds := []) #[false, false, false, false, false] (by kernel_rfl) rfl rfl (cells_2 BK202.out ⟨(blk_cell BK190.out 0).trans rfl, (blk_cell BK190.out 1).trans rfl⟩) (fun hHeld => ?_)
      generalize wc.drew = w31 at HO_203001 BK190 BK202 HB hHeld ⊢
      refine take_ (i := 0) (N := some 35) (v := ?_) (a' := ?_) #[true, false, false, false, false] rfl rfl (by kernel_rfl) (fun _ _ _ h => h) (Or.inl ⟨by rfl, ?_⟩) hHeld ?_ ?_
      rotate_left
      ·rintro w' ⟨s0, s1, s2, s3⟩
       go_simp
       with_reducible rfl
      rotate_left
      ·simp only [Act.put, List.setIfInBounds_toArray, List.set_cons_zero, List.set_cons_succ, i64_w, i32_w]
       rfl
      refine take_ (i := 1) (N := some 36) (v := ?_) (a' := ?_) #[true, true, false, false, false] rfl rfl (by kernel_rfl) (fun _ _ _ h => h) (Or.inl ⟨by rfl, ?_⟩) hHeld ?_ ?_
      rotate_left
      ·rintro w' ⟨s0, s1, s2, s3⟩
       go_simp
       with_reducible rfl
      rotate_left
      ·simp only [Act.put, List.setIfInBounds_toArray, List.set_cons_zero, List.set_cons_succ, i64_w, i32_w]
       rfl
      refine one_ (i := 2) (N := some 37) #[true, true, true, false, false] rfl rfl (by kernel_rfl) (by decide) (fun K hK => ?_)
      refine gs_ Try.func33 #[.agg #[.int .i64 a0_0, .slice A0_1 l0_1.length c0_1]] (h := ?_)
      with_reducible refine (laws_toWheel.calls kj10 a0_0 _ _ l0_1 t205 t206 _ ?side1 ?side2 A28.out).mono ?_
      (case side1 => exact kcb)
      (case side2 => exact HC0_1.out)
      rintro e w32 ⟨v207, rfl, ho0, hb⟩
      refine ⟨_, rfl, ?_⟩
      have HO208 := Aside0.mk (Kd.R_lower (Kd.R_new' ho0 (Kd.R_lt (by (with_reducible repeat (first | apply Kd.R_alloc | apply Kd.R_drewN | apply Kd.R_drew)); exact HO_203001.out))) (below_size bel))
      replace HO_203001 := Aside0.mk (Kd.R_elder' (by (with_reducible repeat (first | apply Kd.R_alloc | apply Kd.R_drewN | apply Kd.R_drew)); exact HO_203001.out) (Kd.R_base ho0) hb)
      replace BK190 := Aside0.mk (blb BK190 hb)
      replace BK202 := Aside0.mk (blb BK202 hb)
      replace HB := Aside0.mk (below_step bel hb)
      (try clear hb)
      (try clear hb2)
      (try clear hk)
      (try clear hi)
      (try clear ho0)
      obtain ⟨Ao33, co33, eo33⟩ := Kd.R_slice HO208.out
      (first | subst eo33 | (injection eo33 with f1_ f2_ f3_; have f4_ := f1_.symm; have f5_ := f3_.symm; clear f1_ f2_ f3_; subst f4_; subst f5_))
      refine hK.out _ _ (cells_2 BK202.out ⟨(blk_cell BK190.out 0).trans rfl, (blk_cell BK190.out 1).trans rfl⟩) (fun hHeld => ?_)
      clear hK K
      refine norm_ (a' := ?_) ?_ ?_
      rotate_left
      ·show Act.put _ (some 37) _ = _
       simp only [Act.put, List.setIfInBounds_toArray, List.set_cons_zero, List.set_cons_succ, i64_w, i32_w]
       rfl
      refine one_ (i := 3) (N := some 38) #[true, true, true, true, false] rfl rfl (by kernel_rfl) (by decide) (fun K hK => ?_)
      refine gs_ Try.func35 #[.agg #[.int .i64 t198, .slice Ao24 t199.length co24], .agg #[.int .i64 t205, .slice Ao33 t206.length co33]] (h := ?_)
      with_reducible refine (laws_eqWheel.calls kj10 t198 _ _ t199 t205 _ _ t206 true _ ?side1 ?side2 ?side3 ?side4 A29.out).mono ?_
      (case side1 => repeat (first | exact (Kd.R_reads' HO_203001.out).2.2 | (with_reducible refine Kd.C_alloc ?_ _) | (with_reducible refine Kd.C_drewN ?_ _) | (with_reducible refine Kd.C_drew ?_)))
      (case side2 => exact (Kd.R_reads' HO_203001.out).2.1)
      (case side3 => repeat (first | exact (Kd.R_reads' HO208.out).2.2 | (with_reducible refine Kd.C_alloc ?_ _) | (with_reducible refine Kd.C_drewN ?_ _) | (with_reducible refine Kd.C_drew ?_)))
      (case side4 => exact (Kd.R_reads' HO208.out).2.1)
      rintro e w34 ⟨rfl, hb⟩
      refine ⟨_, rfl, ?_⟩
      replace HO_203001 := Aside0.mk (Kd.R_below (by (with_reducible repeat (first | apply Kd.R_alloc | apply Kd.R_drewN | apply Kd.R_drew)); exact HO_203001.out) hb)
      replace HO208 := Aside0.mk (Kd.R_below (by (with_reducible repeat (first | apply Kd.R_alloc | apply Kd.R_drewN | apply Kd.R_drew)); exact HO208.out) hb)
      replace BK190 := Aside0.mk (blb BK190 hb)
      replace BK202 := Aside0.mk (blb BK202 hb)
      replace HB := Aside0.mk (below_step bel hb)
      (try clear hb)
      (try clear hb2)
      (try clear hk)
      (try clear hi)
      refine hK.out _ _ (cells_2 BK202.out ⟨(blk_cell BK190.out 0).trans rfl, (blk_cell BK190.out 1).trans rfl⟩) (fun hHeld => ?_)
      clear hK K
      refine norm_ (a' := ?_) ?_ ?_
      rotate_left
      ·show Act.put _ (some 38) _ = _
       simp only [Act.put, List.setIfInBounds_toArray, List.set_cons_zero, List.set_cons_succ, i64_w, i32_w]
       rfl
      refine pure_ (i := 4) (N := some 39) (v := ?_) (a' := ?_) #[true, true, true, true, true] rfl rfl (by kernel_rfl) (fun _ _ _ h => h) (Or.inl ⟨by rfl, ?_⟩) ?_ ?_
      rotate_left
      ·intro w'
       go_simp
       with_reducible rfl
      rotate_left
      ·simp only [Act.put, List.setIfInBounds_toArray, List.set_cons_zero, List.set_cons_succ, i64_w, i32_w]
       rfl
      refine done_ (by kernel_rfl) ?_
      try go_wp2
      go_ret
      exact ⟨by first | rfl | (simp [errW_none, errW_some] <;> rfl) | (simp [*, errW_none, errW_some] <;> rfl), by repeat (first | (with_reducible first | exact HB.out | apply below_alloc | apply pw_below_drewN | apply below_drew1 | refine below_set ?_ GE190.out | refine below_set ?_ GE202.out) | exact HB.out)⟩
     ·replace c30 := Bool.eq_false_iff.mpr c30
      subst c30
      have H1 : (some false) = some r := by rw [if_neg (show ¬ (false = true) by decide)] at H; exact H
      clear H
      have H := H1
      clear H1
      obtain rfl := Option.some.inj H
      try go_wp2
      replace HO_203001 := Aside0.mk (Kd.R_drew HO_203001.out)
      replace BK190 := Aside0.mk (blk_drew BK190.out)
      replace BK202 := Aside0.mk (blk_drew BK202.out)
      replace HB := Aside0.mk (below_drew1 HB.out)
      refine start_ (n := 5) (S := fun w' => w'.cell? ⟨gb202, 0, none⟩ = some (.int .i64 t198) ∧ w'.cell? ⟨gb202, 1, none⟩ = some (.slice Ao24 t199.length co24) ∧ w'.cell? ⟨gb190, 0, none⟩ = some (.int .i64 a0_0) ∧ w'.cell? ⟨gb190, 1, none⟩ = some (.slice A0_1 l0_1.length c0_1)) (ds := []) #[false, false, false, false, false] (by kernel_rfl) rfl rfl (cells_2 BK202.out ⟨(blk_cell BK190.out 0).trans rfl, (blk_cell BK190.out 1).trans rfl⟩) (fun hHeld => ?_)
      generalize wc.drew = w35 at HO_203001 BK190 BK202 HB hHeld ⊢
      refine take_ (i := 0) (N := some 35) (v := ?_) (a' := ?_) #[true, false, false, false, false] rfl rfl (by kernel_rfl) (fun _ _ _ h => h) (Or.inl ⟨by rfl, ?_⟩) hHeld ?_ ?_
      rotate_left
      ·rintro w' ⟨s0, s1, s2, s3⟩
       go_simp
       with_reducible rfl
      rotate_left
      ·simp only [Act.put, List.setIfInBounds_toArray, List.set_cons_zero, List.set_cons_succ, i64_w, i32_w]
       rfl
      refine take_ (i := 1) (N := some 36) (v := ?_) (a' := ?_) #[true, true, false, false, false] rfl rfl (by kernel_rfl) (fun _ _ _ h => h) (Or.inl ⟨by rfl, ?_⟩) hHeld ?_ ?_
      rotate_left
      ·rintro w' ⟨s0, s1, s2, s3⟩
       go_simp
       with_reducible rfl
      rotate_left
      ·simp only [Act.put, List.setIfInBounds_toArray, List.set_cons_zero, List.set_cons_succ, i64_w, i32_w]
       rfl
      refine one_ (i := 2) (N := some 37) #[true, true, true, false, false] rfl rfl (by kernel_rfl) (by decide) (fun K hK => ?_)
      refine gs_ Try.func33 #[.agg #[.int .i64 a0_0, .slice A0_1 l0_1.length c0_1]] (h := ?_)
      with_reducible refine (laws_toWheel.calls kj10 a0_0 _ _ l0_1 t205 t206 _ ?side1 ?side2 A28.out).mono ?_
      (case side1 => exact kcb)
      (case side2 => exact HC0_1.out)
      rintro e w36 ⟨v207, rfl, ho0, hb⟩
      refine ⟨_, rfl, ?_⟩
      have HO208 := Aside0.mk (Kd.R_lower (Kd.R_new' ho0 (Kd.R_lt (by (with_reducible repeat (first | apply Kd.R_alloc | apply Kd.R_drewN | apply Kd.R_drew)); exact HO_203001.out))) (below_size bel))
      replace HO_203001 := Aside0.mk (Kd.R_elder' (by (with_reducible repeat (first | apply Kd.R_alloc | apply Kd.R_drewN | apply Kd.R_drew)); exact HO_203001.out) (Kd.R_base ho0) hb)
      replace BK190 := Aside0.mk (blb BK190 hb)
      replace BK202 := Aside0.mk (blb BK202 hb)
      replace HB := Aside0.mk (below_step bel hb)
      (try clear hb)
      (try clear hb2)
      (try clear hk)
      (try clear hi)
      (try clear ho0)
      obtain ⟨Ao37, co37, eo37⟩ := Kd.R_slice HO208.out
      (first | subst eo37 | (injection eo37 with f1_ f2_ f3_; have f4_ := f1_.symm; have f5_ := f3_.symm; clear f1_ f2_ f3_; subst f4_; subst f5_))
      refine hK.out _ _ (cells_2 BK202.out ⟨(blk_cell BK190.out 0).trans rfl, (blk_cell BK190.out 1).trans rfl⟩) (fun hHeld => ?_)
      clear hK K
      refine norm_ (a' := ?_) ?_ ?_
      rotate_left
      ·show Act.put _ (some 37) _ = _
       simp only [Act.put, List.setIfInBounds_toArray, List.set_cons_zero, List.set_cons_succ, i64_w, i32_w]
       rfl
      refine one_ (i := 3) (N := some 38) #[true, true, true, true, false] rfl rfl (by kernel_rfl) (by decide) (fun K hK => ?_)
      refine gs_ Try.func35 #[.agg #[.int .i64 t198, .slice Ao24 t199.length co24], .agg #[.int .i64 t205, .slice Ao37 t206.length co37]] (h := ?_)
      with_reducible refine (laws_eqWheel.calls kj10 t198 _ _ t199 t205 _ _ t206 false _ ?side1 ?side2 ?side3 ?side4 A29.out).mono ?_
      (case side1 => repeat (first | exact (Kd.R_reads' HO_203001.out).2.2 | (with_reducible refine Kd.C_alloc ?_ _) | (with_reducible refine Kd.C_drewN ?_ _) | (with_reducible refine Kd.C_drew ?_)))
      (case side2 => exact (Kd.R_reads' HO_203001.out).2.1)
      (case side3 => repeat (first | exact (Kd.R_reads' HO208.out).2.2 | (with_reducible refine Kd.C_alloc ?_ _) | (with_reducible refine Kd.C_drewN ?_ _) | (with_reducible refine Kd.C_drew ?_)))
      (case side4 => exact (Kd.R_reads' HO208.out).2.1)
      rintro e w38 ⟨rfl, hb⟩
      refine ⟨_, rfl, ?_⟩
      replace HO_203001 := Aside0.mk (Kd.R_below (by (with_reducible repeat (first | apply Kd.R_alloc | apply Kd.R_drewN | apply Kd.R_drew)); exact HO_203001.out) hb)
      replace HO208 := Aside0.mk (Kd.R_below (by (with_reducible repeat (first | apply Kd.R_alloc | apply Kd.R_drewN | apply Kd.R_drew)); exact HO208.out) hb)
      replace BK190 := Aside0.mk (blb BK190 hb)
      replace BK202 := Aside0.mk (blb BK202 hb)
      replace HB := Aside0.mk (below_step bel hb)
      (try clear hb)
      (try clear hb2)
      (try clear hk)
      (try clear hi)
      refine hK.out _ _ (cells_2 BK202.out ⟨(blk_cell BK190.out 0).trans rfl, (blk_cell BK190.out 1).trans rfl⟩) (fun hHeld => ?_)
      clear hK K
      refine norm_ (a' := ?_) ?_ ?_
      rotate_left
      ·show Act.put _ (some 38) _ = _
       simp only [Act.put, List.setIfInBounds_toArray, List.set_cons_zero, List.set_cons_succ, i64_w, i32_w]
       rfl
      refine pure_ (i := 4) (N := some 39) (v := ?_) (a' := ?_) #[true, true, true, true, true] rfl rfl (by kernel_rfl) (fun _ _ _ h => h) (Or.inl ⟨by rfl, ?_⟩) ?_ ?_
      rotate_left
      ·intro w'
       go_simp
       with_reducible rfl
      rotate_left
      ·simp only [Act.put, List.setIfInBounds_toArray, List.set_cons_zero, List.set_cons_succ, i64_w, i32_w]
       rfl
      refine done_ (by kernel_rfl) ?_
      try go_wp2
      go_ret
      exact ⟨by first | rfl | (simp [errW_none, errW_some] <;> rfl) | (simp [*, errW_none, errW_some] <;> rfl), by repeat (first | (with_reducible first | exact HB.out | apply below_alloc | apply pw_below_drewN | apply below_drew1 | refine below_set ?_ GE190.out | refine below_set ?_ GE202.out) | exact HB.out)⟩

/-- THE ONE PURE STATEMENT of laws_FnExactWheelNext. -/
def laws_FnExactWheelNext.Pure : Prop := ∀ (x0 : S60), okS60 x0 → ∃ k, laws_FnExactWheelNext.f k x0.f0 x0.f1 = some true
theorem laws_FnExactWheelNext.walk (P : laws_FnExactWheelNext.Pure) (x0 : S60) (cs0 : List Value) (w : World) (w0 : k60.K w x0 cs0) (o0 : okS60 x0) :
  Calls Try.prog 8 #[.agg ⟨cs0⟩] w fun e w' => e = .returned (.bool true) ∧ Below w.heap.size w w' := by
 obtain ⟨A0_1, c0_1, rfl, m0_1, g0_1⟩ := k60_open w0
 obtain ⟨k, h⟩ := P x0 o0
 refine (laws_FnExactWheelNext.calls k x0.f0 _ _ x0.f1 true w g0_1 m0_1 h).mono ?_
 rintro e w' ⟨rfl, hd⟩
 exact ⟨rfl, hd⟩

/-! ### spec_WheelLeft: function 38 -/
def spec_WheelLeft.f (k : Nat) (a0_0 : Int) (l0_1 : List (S93)) (a1 : Int) : Option (Int × Bool) := (spec_WheelOk.f k a0_0 l0_1).bind fun t211 => (if t211 = true then ((spec_l7find.f k l0_1 a1).bind fun t212 => (if t212 < 0 then (some (0, false)) else (if 0 ≤ t212 then (if t212 < (l0_1.length : Int) then (some (wrap64 (((rd_T93 l0_1 t212).f1) - a0_0), true)) else (none)) else (none)))) else (some (0, false)))
theorem spec_WheelLeft.mono : ∀ a0 a1 a2 k, LeO (spec_WheelLeft.f k a0 a1 a2) (spec_WheelLeft.f (k + 1) a0 a1 a2) := by
 intro a0 a1 a2 k
 unfold spec_WheelLeft.f
 repeat' first
   | (with_reducible exact spec_WheelOk.mono _ _ _)
   | (with_reducible exact spec_l7find.mono _ _ _)
   | (with_reducible exact LeO.refl _)
   | (with_reducible exact LeO.none _)
   | (with_reducible refine LeO.ite ?_ ?_)
   | (with_reducible refine LeO.bind ?_ (fun _ => ?_))
   | exact spec_WheelOk.mono _ _ _
   | exact spec_l7find.mono _ _ _
   | exact LeO.none _
   | refine LeO.ite ?_ ?_
   | refine LeO.bind ?_ (fun _ => ?_)
set_option maxHeartbeats 8000000 in
set_option maxRecDepth 100000 in
theorem spec_WheelLeft.calls (k : Nat) (a0_0 : Int) (A0_1 : Option Addr) (c0_1 : Nat) (l0_1 : List (S93)) (a1 : Int) (r1 : Int) (r2 : Bool) (w : World) (hr0_1 : Kd.C k93 w A0_1 l0_1.length l0_1) (hc0_1 : l0_1.length ≤ c0_1) (h : spec_WheelLeft.f k a0_0 l0_1 a1 = some (r1, r2)) :
  Calls Try.prog 38 #[.agg #[.int .i64 a0_0, .slice A0_1 l0_1.length c0_1], .int .i64 a1] w fun e w' => e = .returned (.tuple #[.int .i64 r1, .bool r2]) ∧ Below w.heap.size w w' := by
 have hu65 := Try.underlying65
 have HR0_1 := Aside0.mk hr0_1
 have HC0_1 := Aside0.mk hc0_1
 clear hr0_1 hc0_1
 have HB := Aside0.mk (Below.refl w.heap.size w)
 have H : ((spec_WheelOk.f k a0_0 l0_1).bind fun t211 => (if t211 = true then ((spec_l7find.f k l0_1 a1).bind fun t212 => (if t212 < 0 then (some (0, false)) else (if 0 ≤ t212 then (if t212 < (l0_1.length : Int) then (some (wrap64 (((rd_T93 l0_1 t212).f1) - a0_0), true)) else (none)) else (none)))) else (some (0, false)))) = some (r1, r2) := h
 clear h
 replace H := Option.bind_eq_some_iff.mp H
 obtain ⟨t211, A30, H⟩ := H
 replace H : (if t211 = true then ((spec_l7find.f k l0_1 a1).bind fun t212 => (if t212 < 0 then (some (0, false)) else (if 0 ≤ t212 then (if t212 < (l0_1.length : Int) then (some (wrap64 (((rd_T93 l0_1 t212).f1) - a0_0), true)) else (none)) else (none)))) else (some (0, false))) = some (r1, r2) := H
 have A3 := Aside0.mk A30
 clear A30
 by_cases c4 : t211 = true
 ·subst c4
  have H1 : ((spec_l7find.f k l0_1 a1).bind fun t212 => (if t212 < 0 then (some (0, false)) else (if 0 ≤ t212 then (if t212 < (l0_1.length : Int) then (some (wrap64 (((rd_T93 l0_1 t212).f1) - a0_0), true)) else (none)) else (none)))) = some (r1, r2) := by rw [if_pos rfl] at H; exact H
  clear H
  have H := H1
  clear H1
  replace H := Option.bind_eq_some_iff.mp H
  obtain ⟨t212, A50, H⟩ := H
  replace H : (if t212 < 0 then (some (0, false)) else (if 0 ≤ t212 then (if t212 < (l0_1.length : Int) then (some (wrap64 (((rd_T93 l0_1 t212).f1) - a0_0), true)) else (none)) else (none))) = some (r1, r2) := H
  have A5 := Aside0.mk A50
  clear A50
  by_cases c6 : t212 < 0
  ·rw [if_pos c6] at H
   have c6b0 : decide (t212 < 0) = true := decide_eq_true c6
   clear c6
   simp only [Option.some.injEq, Prod.mk.injEq] at H
   obtain ⟨rfl, rfl⟩ := H
   go_enter Try.func38, Try.ntmps38
   go_wp2_with (first | ((with_reducible refine gate_dst (N := 2) rfl ?_); refine bx_ 2 #[.int .i64 a0_0, .slice A0_1 l0_1.length c0_1] 65 (h := ?_); intro gb210 hg w7 hbox hb; have BK210 := Aside0.mk (hbox); have GW210 := Aside0.mk ((by rw [hg]; exact (below_size bel) : w.heap.size ≤ gb210)); have GE210 := Aside0.mk ((by rw [hg]; exact (below_size bel) : w.heap.size ≤ gb210)); replace HB := Aside0.mk (below_step bel hb); clear hb hbox hg; obtain ⟨hcz8_0, hcz8_1, -⟩ := cells_2 BK210.out trivial; obtain ⟨hfz8_0, hfz8_1, -⟩ := frz_2 BK210.out) | (go_at_call 32; (with_reducible refine (spec_WheelOk.calls k a0_0 _ _ l0_1 true _ ?side1 ?side2 A3.out).mono ?_); (case side1 => exact kcb); (case side2 => exact HC0_1.out); rintro e w9 ⟨rfl, hb⟩; replace BK210 := Aside0.mk (blb BK210 hb); replace HB := Aside0.mk (below_step bel hb); (try clear hb); (try clear hb2); (try clear hk); (try clear hi); obtain ⟨hcz10_0, hcz10_1, -⟩ := cells_2 BK210.out trivial; obtain ⟨hfz10_0, hfz10_1, -⟩ := frz_2 BK210.out) | (go_at_call 61; (with_reducible refine (spec_l7find.calls k _ _ l0_1 a1 t212 _ ?side1 ?side2 A5.out).mono ?_); (case side1 => exact kcb); (case side2 => exact HC0_1.out); rintro e w' ⟨rfl, ⟨nd, rfl⟩⟩; (try first | exact ⟨rfl, _, World.drewN_drewN _ _ _⟩ | exact ⟨rfl, _, Eq.trans (World.drewN_drewN _ _ _) (congrArg (World.drewN _) (Nat.add_assoc _ _ _))⟩)))
   repeat (go_quiet (first | ((with_reducible refine gate_dst (N := 2) rfl ?_); refine bx_ 2 #[.int .i64 a0_0, .slice A0_1 l0_1.length c0_1] 65 (h := ?_); intro gb210 hg w7 hbox hb; have BK210 := Aside0.mk (hbox); have GW210 := Aside0.mk ((by rw [hg]; exact (below_size bel) : w.heap.size ≤ gb210)); have GE210 := Aside0.mk ((by rw [hg]; exact (below_size bel) : w.heap.size ≤ gb210)); replace HB := Aside0.mk (below_step bel hb); clear hb hbox hg; obtain ⟨hcz8_0, hcz8_1, -⟩ := cells_2 BK210.out trivial; obtain ⟨hfz8_0, hfz8_1, -⟩ := frz_2 BK210.out) | (go_at_call 32; (with_reducible refine (spec_WheelOk.calls k a0_0 _ _ l0_1 true _ ?side1 ?side2 A3.out).mono ?_); (case side1 => exact kcb); (case side2 => exact HC0_1.out); rintro e w9 ⟨rfl, hb⟩; replace BK210 := Aside0.mk (blb BK210 hb); replace HB := Aside0.mk (below_step bel hb); (try clear hb); (try clear hb2); (try clear hk); (try clear hi); obtain ⟨hcz10_0, hcz10_1, -⟩ := cells_2 BK210.out trivial; obtain ⟨hfz10_0, hfz10_1, -⟩ := frz_2 BK210.out) | (go_at_call 61; (with_reducible refine (spec_l7find.calls k _ _ l0_1 a1 t212 _ ?side1 ?side2 A5.out).mono ?_); (case side1 => exact kcb); (case side2 => exact HC0_1.out); rintro e w' ⟨rfl, ⟨nd, rfl⟩⟩; (try first | exact ⟨rfl, _, World.drewN_drewN _ _ _⟩ | exact ⟨rfl, _, Eq.trans (World.drewN_drewN _ _ _) (congrArg (World.drewN _) (Nat.add_assoc _ _ _))⟩))); try go_wp2_with (first | ((with_reducible refine gate_dst (N := 2) rfl ?_); refine bx_ 2 #[.int .i64 a0_0, .slice A0_1 l0_1.length c0_1] 65 (h := ?_); intro gb210 hg w7 hbox hb; have BK210 := Aside0.mk (hbox); have GW210 := Aside0.mk ((by rw [hg]; exact (below_size bel) : w.heap.size ≤ gb210)); have GE210 := Aside0.mk ((by rw [hg]; exact (below_size bel) : w.heap.size ≤ gb210)); replace HB := Aside0.mk (below_step bel hb); clear hb hbox hg; obtain ⟨hcz8_0, hcz8_1, -⟩ := cells_2 BK210.out trivial; obtain ⟨hfz8_0, hfz8_1, -⟩ := frz_2 BK210.out) | (go_at_call 32; (with_reducible refine (spec_WheelOk.calls k a0_0 _ _ l0_1 true _ ?side1 ?side2 A3.out).mono ?_); (case side1 => exact kcb); (case side2 => exact HC0_1.out); rintro e w9 ⟨rfl, hb⟩; replace BK210 := Aside0.mk (blb BK210 hb); replace HB := Aside0.mk (below_step bel hb); (try clear hb); (try clear hb2); (try clear hk); (try clear hi); obtain ⟨hcz10_0, hcz10_1, -⟩ := cells_2 BK210.out trivial; obtain ⟨hfz10_0, hfz10_1, -⟩ := frz_2 BK210.out) | (go_at_call 61; (with_reducible refine (spec_l7find.calls k _ _ l0_1 a1 t212 _ ?side1 ?side2 A5.out).mono ?_); (case side1 => exact kcb); (case side2 => exact HC0_1.out); rintro e w' ⟨rfl, ⟨nd, rfl⟩⟩; (try first | exact ⟨rfl, _, World.drewN_drewN _ _ _⟩ | exact ⟨rfl, _, Eq.trans (World.drewN_drewN _ _ _) (congrArg (World.drewN _) (Nat.add_assoc _ _ _))⟩))))
   go_ret2
   exact ⟨by first | rfl | (simp [errW_none, errW_some] <;> rfl) | (simp [*, errW_none, errW_some] <;> rfl), by repeat (first | (with_reducible first | exact HB.out | apply below_alloc | apply pw_below_drewN | apply below_drew1 | refine below_set ?_ GE210.out) | exact HB.out)⟩
  ·rw [if_neg c6] at H
   have c6b0 : decide (t212 < 0) = false := decide_eq_false c6
   clear c6
   by_cases c11 : 0 ≤ t212
   ·rw [if_pos c11] at H
    have c11b0 : decide (0 ≤ t212) = true := decide_eq_true c11
    clear c11
    by_cases c12 : t212 < (l0_1.length : Int)
    ·rw [if_pos c12] at H
     have c12b0 : decide (t212 < (l0_1.length : Int)) = true := decide_eq_true c12
     clear c12
     simp only [Option.some.injEq, Prod.mk.injEq] at H
     obtain ⟨rfl, rfl⟩ := H
     go_enter Try.func38, Try.ntmps38
     go_wp2_with (first | ((with_reducible refine gate_dst (N := 2) rfl ?_); refine bx_ 2 #[.int .i64 a0_0, .slice A0_1 l0_1.length c0_1] 65 (h := ?_); intro gb210 hg w13 hbox hb; have BK210 := Aside0.mk (hbox); have GW210 := Aside0.mk ((by rw [hg]; exact (below_size bel) : w.heap.size ≤ gb210)); have GE210 := Aside0.mk ((by rw [hg]; exact (below_size bel) : w.heap.size ≤ gb210)); replace HB := Aside0.mk (below_step bel hb); clear hb hbox hg; obtain ⟨hcz14_0, hcz14_1, -⟩ := cells_2 BK210.out trivial; obtain ⟨hfz14_0, hfz14_1, -⟩ := frz_2 BK210.out) | (go_at_call 32; (with_reducible refine (spec_WheelOk.calls k a0_0 _ _ l0_1 true _ ?side1 ?side2 A3.out).mono ?_); (case side1 => exact kcb); (case side2 => exact HC0_1.out); rintro e w15 ⟨rfl, hb⟩; replace BK210 := Aside0.mk (blb BK210 hb); replace HB := Aside0.mk (below_step bel hb); (try clear hb); (try clear hb2); (try clear hk); (try clear hi); obtain ⟨hcz16_0, hcz16_1, -⟩ := cells_2 BK210.out trivial; obtain ⟨hfz16_0, hfz16_1, -⟩ := frz_2 BK210.out) | (go_at_call 61; (with_reducible refine (spec_l7find.calls k _ _ l0_1 a1 t212 _ ?side1 ?side2 A5.out).mono ?_); (case side1 => exact kcb); (case side2 => exact HC0_1.out); rintro e w' ⟨rfl, ⟨nd, rfl⟩⟩; (try first | exact ⟨rfl, _, World.drewN_drewN _ _ _⟩ | exact ⟨rfl, _, Eq.trans (World.drewN_drewN _ _ _) (congrArg (World.drewN _) (Nat.add_assoc _ _ _))⟩); have p213 : 0 ≤ (t212 : Int) := od; have q213 : t212 < (l0_1.length : Int) := od; obtain ⟨ad213, e213, hx213_0, hx213_1⟩ := at_T93 HR0_1.out t212 p213 q213; cases e213; replace hx213_0 := hxb HB hx213_0; replace hx213_1 := hxb HB hx213_1; replace p213 := eq_true p213; replace q213 := eq_true q213))
     repeat (go_quiet (first | ((with_reducible refine gate_dst (N := 2) rfl ?_); refine bx_ 2 #[.int .i64 a0_0, .slice A0_1 l0_1.length c0_1] 65 (h := ?_); intro gb210 hg w13 hbox hb; have BK210 := Aside0.mk (hbox); have GW210 := Aside0.mk ((by rw [hg]; exact (below_size bel) : w.heap.size ≤ gb210)); have GE210 := Aside0.mk ((by rw [hg]; exact (below_size bel) : w.heap.size ≤ gb210)); replace HB := Aside0.mk (below_step bel hb); clear hb hbox hg; obtain ⟨hcz14_0, hcz14_1, -⟩ := cells_2 BK210.out trivial; obtain ⟨hfz14_0, hfz14_1, -⟩ := frz_2 BK210.out) | (go_at_call 32; (with_reducible refine (spec_WheelOk.calls k a0_0 _ _ l0_1 true _ ?side1 ?side2 A3.out).mono ?_); (case side1 => exact kcb); (case side2 => exact HC0_1.out); rintro e w15 ⟨rfl, hb⟩; replace BK210 := Aside0.mk (blb BK210 hb); replace HB := Aside0.mk (below_step bel hb); (try clear hb); (try clear hb2); (try clear hk); (try clear hi); obtain ⟨hcz16_0, hcz16_1, -⟩ := cells_2 BK210.out trivial; obtain ⟨hfz16_0, hfz16_1, -⟩ := frz_2 BK210.out) | (go_at_call 61; (with_reducible refine (spec_l7find.calls k _ _ l0_1 a1 t212 _ ?side1 ?side2 A5.out).mono ?_); (case side1 => exact kcb); (case side2 => exact HC0_1.out); rintro e w' ⟨rfl, ⟨nd, rfl⟩⟩; (try first | exact ⟨rfl, _, World.drewN_drewN _ _ _⟩ | exact ⟨rfl, _, Eq.trans (World.drewN_drewN _ _ _) (congrArg (World.drewN _) (Nat.add_assoc _ _ _))⟩); have p213 : 0 ≤ (t212 : Int) := od; have q213 : t212 < (l0_1.length : Int) := od; obtain ⟨ad213, e213, hx213_0, hx213_1⟩ := at_T93 HR0_1.out t212 p213 q213; cases e213; replace hx213_0 := hxb HB hx213_0; replace hx213_1 := hxb HB hx213_1; replace p213 := eq_true p213; replace q213 := eq_true q213)); try go_wp2_with (first | ((with_reducible refine gate_dst (N := 2) rfl ?_); refine bx_ 2 #[.int .i64 a0_0, .slice A0_1 l0_1.length c0_1] 65 (h := ?_); intro gb210 hg w13 hbox hb; have BK210 := Aside0.mk (hbox); have GW210 := Aside0.mk ((by rw [hg]; exact (below_size bel) : w.heap.size ≤ gb210)); have GE210 := Aside0.mk ((by rw [hg]; exact (below_size bel) : w.heap.size ≤ gb210)); replace HB := Aside0.mk (below_step bel hb); clear hb hbox hg; obtain ⟨hcz14_0, hcz14_1, -⟩ := cells_2 BK210.out trivial; obtain ⟨hfz14_0, hfz14_1, -⟩ := frz_2 BK210.out) | (go_at_call 32; (with_reducible refine (spec_WheelOk.calls k a0_0 _ _ l0_1 true _ ?side1 ?side2 A3.out).mono ?_); (case side1 => exact kcb); (case side2 => exact HC0_1.out); rintro e w15 ⟨rfl, hb⟩; replace BK210 := Aside0.mk (blb BK210 hb); replace HB := Aside0.mk (below_step bel hb); (try clear hb); (try clear hb2); (try clear hk); (try clear hi); obtain ⟨hcz16_0, hcz16_1, -⟩ := cells_2 BK210.out trivial; obtain ⟨hfz16_0, hfz16_1, -⟩ := frz_2 BK210.out) | (go_at_call 61; (with_reducible refine (spec_l7find.calls k _ _ l0_1 a1 t212 _ ?side1 ?side2 A5.out).mono ?_); (case side1 => exact kcb); (case side2 => exact HC0_1.out); rintro e w' ⟨rfl, ⟨nd, rfl⟩⟩; (try first | exact ⟨rfl, _, World.drewN_drewN _ _ _⟩ | exact ⟨rfl, _, Eq.trans (World.drewN_drewN _ _ _) (congrArg (World.drewN _) (Nat.add_assoc _ _ _))⟩); have p213 : 0 ≤ (t212 : Int) := od; have q213 : t212 < (l0_1.length : Int) := od; obtain ⟨ad213, e213, hx213_0, hx213_1⟩ := at_T93 HR0_1.out t212 p213 q213; cases e213; replace hx213_0 := hxb HB hx213_0; replace hx213_1 := hxb HB hx213_1; replace p213 := eq_true p213; replace q213 := eq_true q213)))
     go_ret2
     exact ⟨by first | rfl | (simp [errW_none, errW_some] <;> rfl) | (simp [*, errW_none, errW_some] <;> rfl), by repeat (first | (with_reducible first | exact HB.out | apply below_alloc | apply pw_below_drewN | apply below_drew1 | refine below_set ?_ GE210.out) | exact HB.out)⟩
    ·rw [if_neg c12] at H
     exact absurd H (by simp)
   ·rw [if_neg c11] at H
    exact absurd H (by simp)
 ·replace c4 := Bool.eq_false_iff.mpr c4
  subst c4
  have H1 : (some (0, false)) = some (r1, r2) := by rw [if_neg (show ¬ (false = true) by decide)] at H; exact H
  clear H
  have H := H1
  clear H1
  simp only [Option.some.injEq, Prod.mk.injEq] at H
  obtain ⟨rfl, rfl⟩ := H
  go_enter Try.func38, Try.ntmps38
  go_wp2_with (first | ((with_reducible refine gate_dst (N := 2) rfl ?_); refine bx_ 2 #[.int .i64 a0_0, .slice A0_1 l0_1.length c0_1] 65 (h := ?_); intro gb210 hg w17 hbox hb; have BK210 := Aside0.mk (hbox); have GW210 := Aside0.mk ((by rw [hg]; exact (below_size bel) : w.heap.size ≤ gb210)); have GE210 := Aside0.mk ((by rw [hg]; exact (below_size bel) : w.heap.size ≤ gb210)); replace HB := Aside0.mk (below_step bel hb); clear hb hbox hg; obtain ⟨hcz18_0, hcz18_1, -⟩ := cells_2 BK210.out trivial; obtain ⟨hfz18_0, hfz18_1, -⟩ := frz_2 BK210.out) | (go_at_call 32; (with_reducible refine (spec_WheelOk.calls k a0_0 _ _ l0_1 false _ ?side1 ?side2 A3.out).mono ?_); (case side1 => exact kcb); (case side2 => exact HC0_1.out); rintro e w19 ⟨rfl, hb⟩; replace BK210 := Aside0.mk (blb BK210 hb); replace HB := Aside0.mk (below_step bel hb); (try clear hb); (try clear hb2); (try clear hk); (try clear hi)))
  repeat (go_quiet (first | ((with_reducible refine gate_dst (N := 2) rfl ?_); refine bx_ 2 #[.int .i64 a0_0, .slice A0_1 l0_1.length c0_1] 65 (h := ?_); intro gb210 hg w17 hbox hb; have BK210 := Aside0.mk (hbox); have GW210 := Aside0.mk ((by rw [hg]; exact (below_size bel) : w.heap.size ≤ gb210)); have GE210 := Aside0.mk ((by rw [hg]; exact (below_size bel) : w.heap.size ≤ gb210)); replace HB := Aside0.mk (below_step bel hb); clear hb hbox hg; obtain ⟨hcz18_0, hcz18_1, -⟩ := cells_2 BK210.out trivial; obtain ⟨hfz18_0, hfz18_1, -⟩ := frz_2 BK210.out) | (go_at_call 32; (with_reducible refine (spec_WheelOk.calls k a0_0 _ _ l0_1 false _ ?side1 ?side2 A3.out).mono ?_); (case side1 => exact kcb); (case side2 => exact HC0_1.out); rintro e w19 ⟨rfl, hb⟩; replace BK210 := Aside0.mk (blb BK210 hb); replace HB := Aside0.mk (below_step bel hb); (try clear hb); (try clear hb2); (try clear hk); (try clear hi))); try go_wp2_with (first | ((with_reducible refine gate_dst (N := 2) rfl ?_); refine bx_ 2 #[.int .i64 a0_0, .slice A0_1 l0_1.length c0_1] 65 (h := ?_); intro gb210 hg w17 hbox hb; have BK210 := Aside0.mk (hbox); have GW210 := Aside0.mk ((by rw [hg]; exact (below_size bel) : w.heap.size ≤ gb210)); have GE210 := Aside0.mk ((by rw [hg]; exact (below_size bel) : w.heap.size ≤ gb210)); replace HB := Aside0.mk (below_step bel hb); clear hb hbox hg; obtain ⟨hcz18_0, hcz18_1, -⟩ := cells_2 BK210.out trivial; obtain ⟨hfz18_0, hfz18_1, -⟩ := frz_2 BK210.out) | (go_at_call 32; (with_reducible refine (spec_WheelOk.calls k a0_0 _ _ l0_1 false _ ?side1 ?side2 A3.out).mono ?_); (case side1 => exact kcb); (case side2 => exact HC0_1.out); rintro e w19 ⟨rfl, hb⟩; replace BK210 := Aside0.mk (blb BK210 hb); replace HB := Aside0.mk (below_step bel hb); (try clear hb); (try clear hb2); (try clear hk); (try clear hi))))
  go_ret2
  exact ⟨by first | rfl | (simp [errW_none, errW_some] <;> rfl) | (simp [*, errW_none, errW_some] <;> rfl), by repeat (first | (with_reducible first | exact HB.out | apply below_alloc | apply pw_below_drewN | apply below_drew1 | refine below_set ?_ GE210.out) | exact HB.out)⟩

/-! ### impl_WheelLeft: function 39 -/
def impl_WheelLeft.f (k : Nat) (a0_0 : Int) (l0_1 : List (S93)) (a1 : Int) : Option (Int × Bool) := (impl_WheelOk.f k a0_0 l0_1).bind fun t215 => (if t215 = true then ((impl_Wheel_timer.f a0_0 l0_1 a1).bind fun t216 => (if t216 < 0 then (some (0, false)) else (if 0 ≤ t216 then (if t216 < (l0_1.length : Int) then (some (wrap64 (((rd_T93 l0_1 t216).f1) - a0_0), true)) else (none)) else (none)))) else (some (0, false)))
theorem impl_WheelLeft.mono : ∀ a0 a1 a2 k, LeO (impl_WheelLeft.f k a0 a1 a2) (impl_WheelLeft.f (k + 1) a0 a1 a2) := by
 intro a0 a1 a2 k
 unfold impl_WheelLeft.f
 repeat' first
   | (with_reducible exact impl_WheelOk.mono _ _ _)
   | (with_reducible exact LeO.refl _)
   | (with_reducible exact LeO.none _)
   | (with_reducible refine LeO.ite ?_ ?_)
   | (with_reducible refine LeO.bind ?_ (fun _ => ?_))
   | exact impl_WheelOk.mono _ _ _
   | exact LeO.none _
   | refine LeO.ite ?_ ?_
   | refine LeO.bind ?_ (fun _ => ?_)
set_option maxHeartbeats 8000000 in
set_option maxRecDepth 100000 in
theorem impl_WheelLeft.calls (k : Nat) (a0_0 : Int) (A0_1 : Option Addr) (c0_1 : Nat) (l0_1 : List (S93)) (a1 : Int) (r1 : Int) (r2 : Bool) (w : World) (hr0_1 : Kd.C k93 w A0_1 l0_1.length l0_1) (hc0_1 : l0_1.length ≤ c0_1) (h : impl_WheelLeft.f k a0_0 l0_1 a1 = some (r1, r2)) :
  Calls Try.prog 39 #[.agg #[.int .i64 a0_0, .slice A0_1 l0_1.length c0_1], .int .i64 a1] w fun e w' => e = .returned (.tuple #[.int .i64 r1, .bool r2]) ∧ Below w.heap.size w w' := by
 have hu65 := Try.underlying65
 have HR0_1 := Aside0.mk hr0_1
 have HC0_1 := Aside0.mk hc0_1
 clear hr0_1 hc0_1
 have HB := Aside0.mk (Below.refl w.heap.size w)
 have H : ((impl_WheelOk.f k a0_0 l0_1).bind fun t215 => (if t215 = true then ((impl_Wheel_timer.f a0_0 l0_1 a1).bind fun t216 => (if t216 < 0 then (some (0, false)) else (if 0 ≤ t216 then (if t216 < (l0_1.length : Int) then (some (wrap64 (((rd_T93 l0_1 t216).f1) - a0_0), true)) else (none)) else (none)))) else (some (0, false)))) = some (r1, r2) := h
 clear h
 replace H := Option.bind_eq_some_iff.mp H
 obtain ⟨t215, A30, H⟩ := H
 replace H : (if t215 = true then ((impl_Wheel_timer.f a0_0 l0_1 a1).bind fun t216 => (if t216 < 0 then (some (0, false)) else (if 0 ≤ t216 then (if t216 < (l0_1.length : Int) then (some (wrap64 (((rd_T93 l0_1 t216).f1) - a0_0), true)) else (none)) else (none)))) else (some (0, false))) = some (r1, r2) := H
 have A3 := Aside0.mk A30
 clear A30
 by_cases c4 : t215 = true
 ·subst c4
  have H1 : ((impl_Wheel_timer.f a0_0 l0_1 a1).bind fun t216 => (if t216 < 0 then (some (0, false)) else (if 0 ≤ t216 then (if t216 < (l0_1.length : Int) then (some (wrap64 (((rd_T93 l0_1 t216).f1) - a0_0), true)) else (none)) else (none)))) = some (r1, r2) := by rw [if_pos rfl] at H; exact H
  clear H
  have H := H1
  clear H1
  replace H := Option.bind_eq_some_iff.mp H
  obtain ⟨t216, A50, H⟩ := H
  replace H : (if t216 < 0 then (some (0, false)) else (if 0 ≤ t216 then (if t216 < (l0_1.length : Int) then (some (wrap64 (((rd_T93 l0_1 t216).f1) - a0_0), true)) else (none)) else (none))) = some (r1, r2) := H
  have A5 := Aside0.mk A50
  clear A50
  by_cases c6 : t216 < 0
  ·rw [if_pos c6] at H
   have c6b0 : decide (t216 < 0) = true := decide_eq_true c6
   clear c6
   simp only [Option.some.injEq, Prod.mk.injEq] at H
   obtain ⟨rfl, rfl⟩ := H
   go_enter Try.func39, Try.ntmps39
   go_wp2_with (first | ((with_reducible refine gate_dst (N := 2) rfl ?_); refine bx_ 2 #[.int .i64 a0_0, .slice A0_1 l0_1.length c0_1] 65 (h := ?_); intro gb214 hg w7 hbox hb; have BK214 := Aside0.mk (hbox); have GW214 := Aside0.mk ((by rw [hg]; exact (below_size bel) : w.heap.size ≤ gb214)); have GE214 := Aside0.mk ((by rw [hg]; exact (below_size bel) : w.heap.size ≤ gb214)); replace HB := Aside0.mk (below_step bel hb); clear hb hbox hg; obtain ⟨hcz8_0, hcz8_1, -⟩ := cells_2 BK214.out trivial; obtain ⟨hfz8_0, hfz8_1, -⟩ := frz_2 BK214.out) | (go_at_call 34; (with_reducible refine (impl_WheelOk.calls k a0_0 _ _ l0_1 true _ ?side1 ?side2 A3.out).mono ?_); (case side1 => exact kcb); (case side2 => exact HC0_1.out); rintro e w9 ⟨rfl, hb⟩; replace BK214 := Aside0.mk (blb BK214 hb); replace HB := Aside0.mk (below_step bel hb); (try clear hb); (try clear hb2); (try clear hk); (try clear hi); obtain ⟨hcz10_0, hcz10_1, -⟩ := cells_2 BK214.out trivial; obtain ⟨hfz10_0, hfz10_1, -⟩ := frz_2 BK214.out) | (go_at_call 64; (with_reducible refine (impl_Wheel_timer.calls a0_0 _ _ l0_1 a1 t216 _ ?side1 ?side2 A5.out).mono ?_); (case side1 => exact kcb); (case side2 => exact HC0_1.out); rintro e w11 ⟨rfl, hb⟩; replace BK214 := Aside0.mk (blb BK214 hb); replace HB := Aside0.mk (below_step bel hb); (try clear hb); (try clear hb2); (try clear hk); (try clear hi)))
   repeat (go_quiet (first | ((with_reducible refine gate_dst (N := 2) rfl ?_); refine bx_ 2 #[.int .i64 a0_0, .slice A0_1 l0_1.length c0_1] 65 (h := ?_); intro gb214 hg w7 hbox hb; have BK214 := Aside0.mk (hbox); have GW214 := Aside0.mk ((by rw [hg]; exact (below_size bel) : w.heap.size ≤ gb214)); have GE214 := Aside0.mk ((by rw [hg]; exact (below_size bel) : w.heap.size ≤ gb214)); replace HB := Aside0.mk (below_step bel hb); clear hb hbox hg; obtain ⟨hcz8_0, hcz8_1, -⟩ := cells_2 BK214.out trivial; obtain ⟨hfz8_0, hfz8_1, -⟩ := frz_2 BK214.out) | (go_at_call 34; (with_reducible refine (impl_WheelOk.calls k a0_0 _ _ l0_1 true _ ?side1 ?side2 A3.out).mono ?_); (case side1 => exact kcb); (case side2 => exact HC0_1.out); rintro e w9 ⟨rfl, hb⟩; replace BK214 := Aside0.mk (blb BK214 hb); replace HB := Aside0.mk (below_step bel hb); (try clear hb); (try clear hb2); (try clear hk); (try clear hi); obtain ⟨hcz10_0, hcz10_1, -⟩ := cells_2 BK214.out trivial; obtain ⟨hfz10_0, hfz10_1, -⟩ := frz_2 BK214.out) | (go_at_call 64; (with_reducible refine (impl_Wheel_timer.calls a0_0 _ _ l0_1 a1 t216 _ ?side1 ?side2 A5.out).mono ?_); (case side1 => exact kcb); (case side2 => exact HC0_1.out); rintro e w11 ⟨rfl, hb⟩; replace BK214 := Aside0.mk (blb BK214 hb); replace HB := Aside0.mk (below_step bel hb); (try clear hb); (try clear hb2); (try clear hk); (try clear hi))); try go_wp2_with (first | ((with_reducible refine gate_dst (N := 2) rfl ?_); refine bx_ 2 #[.int .i64 a0_0, .slice A0_1 l0_1.length c0_1] 65 (h := ?_); intro gb214 hg w7 hbox hb; have BK214 := Aside0.mk (hbox); have GW214 := Aside0.mk ((by rw [hg]; exact (below_size bel) : w.heap.size ≤ gb214)); have GE214 := Aside0.mk ((by rw [hg]; exact (below_size bel) : w.heap.size ≤ gb214)); replace HB := Aside0.mk (below_step bel hb); clear hb hbox hg; obtain ⟨hcz8_0, hcz8_1, -⟩ := cells_2 BK214.out trivial; obtain ⟨hfz8_0, hfz8_1, -⟩ := frz_2 BK214.out) | (go_at_call 34; (with_reducible refine (impl_WheelOk.calls k a0_0 _ _ l0_1 true _ ?side1 ?side2 A3.out).mono ?_); (case side1 => exact kcb); (case side2 => exact HC0_1.out); rintro e w9 ⟨rfl, hb⟩; replace BK214 := Aside0.mk (blb BK214 hb); replace HB := Aside0.mk (below_step bel hb); (try clear hb); (try clear hb2); (try clear hk); (try clear hi); obtain ⟨hcz10_0, hcz10_1, -⟩ := cells_2 BK214.out trivial; obtain ⟨hfz10_0, hfz10_1, -⟩ := frz_2 BK214.out) | (go_at_call 64; (with_reducible refine (impl_Wheel_timer.calls a0_0 _ _ l0_1 a1 t216 _ ?side1 ?side2 A5.out).mono ?_); (case side1 => exact kcb); (case side2 => exact HC0_1.out); rintro e w11 ⟨rfl, hb⟩; replace BK214 := Aside0.mk (blb BK214 hb); replace HB := Aside0.mk (below_step bel hb); (try clear hb); (try clear hb2); (try clear hk); (try clear hi))))
   go_ret2
   exact ⟨by first | rfl | (simp [errW_none, errW_some] <;> rfl) | (simp [*, errW_none, errW_some] <;> rfl), by repeat (first | (with_reducible first | exact HB.out | apply below_alloc | apply pw_below_drewN | apply below_drew1 | refine below_set ?_ GE214.out) | exact HB.out)⟩
  ·rw [if_neg c6] at H
   have c6b0 : decide (t216 < 0) = false := decide_eq_false c6
   clear c6
   by_cases c12 : 0 ≤ t216
   ·rw [if_pos c12] at H
    have c12b0 : decide (0 ≤ t216) = true := decide_eq_true c12
    clear c12
    by_cases c13 : t216 < (l0_1.length : Int)
    ·rw [if_pos c13] at H
     have c13b0 : decide (t216 < (l0_1.length : Int)) = true := decide_eq_true c13
     clear c13
     simp only [Option.some.injEq, Prod.mk.injEq] at H
     obtain ⟨rfl, rfl⟩ := H
     go_enter Try.func39, Try.ntmps39
     go_wp2_with (first | ((with_reducible refine gate_dst (N := 2) rfl ?_); refine bx_ 2 #[.int .i64 a0_0, .slice A0_1 l0_1.length c0_1] 65 (h := ?_); intro gb214 hg w14 hbox hb; have BK214 := Aside0.mk (hbox); have GW214 := Aside0.mk ((by rw [hg]; exact (below_size bel) : w.heap.size ≤ gb214)); have GE214 := Aside0.mk ((by rw [hg]; exact (below_size bel) : w.heap.size ≤ gb214)); replace HB := Aside0.mk (below_step bel hb); clear hb hbox hg; obtain ⟨hcz15_0, hcz15_1, -⟩ := cells_2 BK214.out trivial; obtain ⟨hfz15_0, hfz15_1, -⟩ := frz_2 BK214.out) | (go_at_call 34; (with_reducible refine (impl_WheelOk.calls k a0_0 _ _ l0_1 true _ ?side1 ?side2 A3.out).mono ?_); (case side1 => exact kcb); (case side2 => exact HC0_1.out); rintro e w16 ⟨rfl, hb⟩; replace BK214 := Aside0.mk (blb BK214 hb); replace HB := Aside0.mk (below_step bel hb); (try clear hb); (try clear hb2); (try clear hk); (try clear hi); obtain ⟨hcz17_0, hcz17_1, -⟩ := cells_2 BK214.out trivial; obtain ⟨hfz17_0, hfz17_1, -⟩ := frz_2 BK214.out) | (go_at_call 64; (with_reducible refine (impl_Wheel_timer.calls a0_0 _ _ l0_1 a1 t216 _ ?side1 ?side2 A5.out).mono ?_); (case side1 => exact kcb); (case side2 => exact HC0_1.out); rintro e w18 ⟨rfl, hb⟩; replace BK214 := Aside0.mk (blb BK214 hb); replace HB := Aside0.mk (below_step bel hb); (try clear hb); (try clear hb2); (try clear hk); (try clear hi); obtain ⟨hcz19_0, hcz19_1, -⟩ := cells_2 BK214.out trivial; obtain ⟨hfz19_0, hfz19_1, -⟩ := frz_2 BK214.out; have p217 : 0 ≤ (t216 : Int) := od; have q217 : t216 < (l0_1.length : Int) := od; obtain ⟨ad217, e217, hx217_0, hx217_1⟩ := at_T93 HR0_1.out t216 p217 q217; cases e217; replace hx217_0 := hxb HB hx217_0; replace hx217_1 := hxb HB hx217_1; replace p217 := eq_true p217; replace q217 := eq_true q217))
     repeat (go_quiet (first | ((with_reducible refine gate_dst (N := 2) rfl ?_); refine bx_ 2 #[.int .i64 a0_0, .slice A0_1 l0_1.length c0_1] 65 (h := ?_); intro gb214 hg w14 hbox hb; have BK214 := Aside0.mk (hbox); have GW214 := Aside0.mk ((by rw [hg]; exact (below_size bel) : w.heap.size ≤ gb214)); have GE214 := Aside0.mk ((by rw [hg]; exact (below_size bel) : w.heap.size ≤ gb214)); replace HB := Aside0.mk (below_step bel hb); clear hb hbox hg; obtain ⟨hcz15_0, hcz15_1, -⟩ := cells_2 BK214.out trivial; obtain ⟨hfz15_0, hfz15_1, -⟩ := frz_2 BK214.out) | (go_at_call 34; (with_reducible refine (impl_WheelOk.calls k a0_0 _ _ l0_1 true _ ?side1 ?side2 A3.out).mono ?_); (case side1 => exact kcb); (case side2 => exact HC0_1.out); rintro e w16 ⟨rfl, hb⟩; replace BK214 := Aside0.mk (blb BK214 hb); replace HB := Aside0.mk (below_step bel hb); (try clear hb); (try clear hb2); (try clear hk); (try clear hi); obtain ⟨hcz17_0, hcz17_1, -⟩ := cells_2 BK214.out trivial; obtain ⟨hfz17_0, hfz17_1, -⟩ := frz_2 BK214.out) | (go_at_call 64; (with_reducible refine (impl_Wheel_timer.calls a0_0 _ _ l0_1 a1 t216 _ ?side1 ?side2 A5.out).mono ?_); (case side1 => exact kcb); (case side2 => exact HC0_1.out); rintro e w18 ⟨rfl, hb⟩; replace BK214 := Aside0.mk (blb BK214 hb); replace HB := Aside0.mk (below_step bel hb); (try clear hb); (try clear hb2); (try clear hk); (try clear hi); obtain ⟨hcz19_0, hcz19_1, -⟩ := cells_2 BK214.out trivial; obtain ⟨hfz19_0, hfz19_1, -⟩ := frz_2 BK214.out; have p217 : 0 ≤ (t216 : Int) := od; have q217 : t216 < (l0_1.length : Int) := od; obtain ⟨ad217, e217, hx217_0, hx217_1⟩ := at_T93 HR0_1.out t216 p217 q217; cases e217; replace hx217_0 := hxb HB hx217_0; replace hx217_1 := hxb HB hx217_1; replace p217 := eq_true p217; replace q217 := eq_true q217)); try go_wp2_with (first | ((with_reducible refine gate_dst (N := 2) rfl ?_); refine bx_ 2 #[.int .i64 a0_0, .slice A0_1 l0_1.length c0_1] 65 (h := ?_); intro gb214 hg w14 hbox hb; have BK214 := Aside0.mk (hbox); have GW214 := Aside0.mk ((by rw [hg]; exact (below_size bel) : w.heap.size ≤ gb214)); have GE214 := Aside0.mk ((by rw [hg]; exact (below_size bel) : w.heap.size ≤ gb214)); replace HB := Aside0.mk (below_step bel hb); clear hb hbox hg; obtain ⟨hcz15_0, hcz15_1, -⟩ := cells_2 BK214.out trivial; obtain ⟨hfz15_0, hfz15_1, -⟩ := frz_2 BK214.out) | (go_at_call 34; (with_reducible refine (impl_WheelOk.calls k a0_0 _ _ l0_1 true _ ?side1 ?side2 A3.out).mono ?_); (case side1 => exact kcb); (case side2 => exact HC0_1.out); rintro e w16 ⟨rfl, hb⟩; replace BK214 := Aside0.mk (blb BK214 hb); replace HB := Aside0.mk (below_step bel hb); (try clear hb); (try clear hb2); (try clear hk); (try clear hi); obtain ⟨hcz17_0, hcz17_1, -⟩ := cells_2 BK214.out trivial; obtain ⟨hfz17_0, hfz17_1, -⟩ := frz_2 BK214.out) | (go_at_call 64; (with_reducible refine (impl_Wheel_timer.calls a0_0 _ _ l0_1 a1 t216 _ ?side1 ?side2 A5.out).mono ?_); (case side1 => exact kcb); (case side2 => exact HC0_1.out); rintro e w18 ⟨rfl, hb⟩; replace BK214 := Aside0.mk (blb BK214 hb); replace HB := Aside0.mk (below_step bel hb); (try clear hb); (try clear hb2); (try clear hk); (try clear hi); obtain ⟨hcz19_0, hcz19_1, -⟩ := cells_2 BK214.out trivial; obtain ⟨hfz19_0, hfz19_1, -⟩ := frz_2 BK214.out; have p217 : 0 ≤ (t216 : Int) := od; have q217 : t216 < (l0_1.length : Int) := od; obtain ⟨ad217, e217, hx217_0, hx217_1⟩ := at_T93 HR0_1.out t216 p217 q217; cases e217; replace hx217_0 := hxb HB hx217_0; replace hx217_1 := hxb HB hx217_1; replace p217 := eq_true p217; replace q217 := eq_true q217)))
     go_ret2
     exact ⟨by first | rfl | (simp [errW_none, errW_some] <;> rfl) | (simp [*, errW_none, errW_some] <;> rfl), by repeat (first | (with_reducible first | exact HB.out | apply below_alloc | apply pw_below_drewN | apply below_drew1 | refine below_set ?_ GE214.out) | exact HB.out)⟩
    ·rw [if_neg c13] at H
     exact absurd H (by simp)
   ·rw [if_neg c12] at H
    exact absurd H (by simp)
 ·replace c4 := Bool.eq_false_iff.mpr c4
  subst c4
  have H1 : (some (0, false)) = some (r1, r2) := by rw [if_neg (show ¬ (false = true) by decide)] at H; exact H
  clear H
  have H := H1
  clear H1
  simp only [Option.some.injEq, Prod.mk.injEq] at H
  obtain ⟨rfl, rfl⟩ := H
  go_enter Try.func39, Try.ntmps39
  go_wp2_with (first | ((with_reducible refine gate_dst (N := 2) rfl ?_); refine bx_ 2 #[.int .i64 a0_0, .slice A0_1 l0_1.length c0_1] 65 (h := ?_); intro gb214 hg w20 hbox hb; have BK214 := Aside0.mk (hbox); have GW214 := Aside0.mk ((by rw [hg]; exact (below_size bel) : w.heap.size ≤ gb214)); have GE214 := Aside0.mk ((by rw [hg]; exact (below_size bel) : w.heap.size ≤ gb214)); replace HB := Aside0.mk (below_step bel hb); clear hb hbox hg; obtain ⟨hcz21_0, hcz21_1, -⟩ := cells_2 BK214.out trivial; obtain ⟨hfz21_0, hfz21_1, -⟩ := frz_2 BK214.out) | (go_at_call 34; (with_reducible refine (impl_WheelOk.calls k a0_0 _ _ l0_1 false _ ?side1 ?side2 A3.out).mono ?_); (case side1 => exact kcb); (case side2 => exact HC0_1.out); rintro e w22 ⟨rfl, hb⟩; replace BK214 := Aside0.mk (blb BK214 hb); replace HB := Aside0.mk (below_step bel hb); (try clear hb); (try clear hb2); (try clear hk); (try clear hi)))
  repeat (go_quiet (first | ((with_reducible refine gate_dst (N := 2) rfl ?_); refine bx_ 2 #[.int .i64 a0_0, .slice A0_1 l0_1.length c0_1] 65 (h := ?_); intro gb214 hg w20 hbox hb; have BK214 := Aside0.mk (hbox); have GW214 := Aside0.mk ((by rw [hg]; exact (below_size bel) : w.heap.size ≤ gb214)); have GE214 := Aside0.mk ((by rw [hg]; exact (below_size bel) : w.heap.size ≤ gb214)); replace HB := Aside0.mk (below_step bel hb); clear hb hbox hg; obtain ⟨hcz21_0, hcz21_1, -⟩ := cells_2 BK214.out trivial; obtain ⟨hfz21_0, hfz21_1, -⟩ := frz_2 BK214.out) | (go_at_call 34; (with_reducible refine (impl_WheelOk.calls k a0_0 _ _ l0_1 false _ ?side1 ?side2 A3.out).mono ?_); (case side1 => exact kcb); (case side2 => exact HC0_1.out); rintro e w22 ⟨rfl, hb⟩; replace BK214 := Aside0.mk (blb BK214 hb); replace HB := Aside0.mk (below_step bel hb); (try clear hb); (try clear hb2); (try clear hk); (try clear hi))); try go_wp2_with (first | ((with_reducible refine gate_dst (N := 2) rfl ?_); refine bx_ 2 #[.int .i64 a0_0, .slice A0_1 l0_1.length c0_1] 65 (h := ?_); intro gb214 hg w20 hbox hb; have BK214 := Aside0.mk (hbox); have GW214 := Aside0.mk ((by rw [hg]; exact (below_size bel) : w.heap.size ≤ gb214)); have GE214 := Aside0.mk ((by rw [hg]; exact (below_size bel) : w.heap.size ≤ gb214)); replace HB := Aside0.mk (below_step bel hb); clear hb hbox hg; obtain ⟨hcz21_0, hcz21_1, -⟩ := cells_2 BK214.out trivial; obtain ⟨hfz21_0, hfz21_1, -⟩ := frz_2 BK214.out) | (go_at_call 34; (with_reducible refine (impl_WheelOk.calls k a0_0 _ _ l0_1 false _ ?side1 ?side2 A3.out).mono ?_); (case side1 => exact kcb); (case side2 => exact HC0_1.out); rintro e w22 ⟨rfl, hb⟩; replace BK214 := Aside0.mk (blb BK214 hb); replace HB := Aside0.mk (below_step bel hb); (try clear hb); (try clear hb2); (try clear hk); (try clear hi))))
  go_ret2
  exact ⟨by first | rfl | (simp [errW_none, errW_some] <;> rfl) | (simp [*, errW_none, errW_some] <;> rfl), by repeat (first | (with_reducible first | exact HB.out | apply below_alloc | apply pw_below_drewN | apply below_drew1 | refine below_set ?_ GE214.out) | exact HB.out)⟩

/-! ### laws_FnExactWheelLeft: function 9 -/
def laws_FnExactWheelLeft.j0 : Nat → Bool → Int → List (S104) → Int → List (S93) → Option (Bool)
 | 0, _, _, _, _, _ => none
 | k + 1, x38, x219000, x219001, x231000, x231001 => if x38 = true then (some false) else ((laws_toWheel.f k x219000 x219001).bind fun bt233 => ((laws_eqWheel.f k x231000 x231001 bt233.1 bt233.2).bind fun t237 => (if t237 = true then (some true) else (some false))))
def laws_FnExactWheelLeft.f (k : Nat) (a0_0 : Int) (l0_1 : List (S104)) (a1 : Int) : Option (Bool) := (laws_szWheel.f a0_0 l0_1 1048576).bind fun t219 => (if t219 < 0 then (some true) else ((laws_toWheel.f k a0_0 l0_1).bind fun bt220 => ((spec_WheelLeft.f k bt220.1 bt220.2 a1).bind fun bt224 => ((laws_toWheel.f k a0_0 l0_1).bind fun bt226 => ((impl_WheelLeft.f k bt226.1 bt226.2 a1).bind fun bt231 => (if bt231.1 = bt224.1 then (laws_FnExactWheelLeft.j0 k (bt231.2 != bt224.2) a0_0 l0_1 bt226.1 bt226.2) else (laws_FnExactWheelLeft.j0 k true a0_0 l0_1 bt226.1 bt226.2)))))))
theorem laws_FnExactWheelLeft.mono_l : ∀ k, (∀ y0 y1 y2 y3 y4, LeO (laws_FnExactWheelLeft.j0 k y0 y1 y2 y3 y4) (laws_FnExactWheelLeft.j0 (k + 1) y0 y1 y2 y3 y4))
 | 0 => fun _ _ _ _ _ r h => by simp [laws_FnExactWheelLeft.j0] at h
 | k + 1 => by
  have ih0 := laws_FnExactWheelLeft.mono_l k
  ·intro y0 y1 y2 y3 y4
   unfold laws_FnExactWheelLeft.j0
   repeat' first
   | (with_reducible exact ih0 _ _ _ _ _)
   | (with_reducible exact impl_WheelLeft.mono _ _ _ _)
   | (with_reducible exact laws_eqWheel.mono _ _ _ _ _)
   | (with_reducible exact laws_toWheel.mono _ _ _)
   | (with_reducible exact spec_WheelLeft.mono _ _ _ _)
   | (with_reducible exact LeO.refl _)
   | (with_reducible exact LeO.none _)
   | (with_reducible refine LeO.ite ?_ ?_)
   | (with_reducible refine LeO.bind ?_ (fun _ => ?_))
   | exact ih0 _ _ _ _ _
   | exact impl_WheelLeft.mono _ _ _ _
   | exact laws_eqWheel.mono _ _ _ _ _
   | exact laws_toWheel.mono _ _ _
   | exact spec_WheelLeft.mono _ _ _ _
   | exact LeO.none _
   | refine LeO.ite ?_ ?_
   | refine LeO.bind ?_ (fun _ => ?_)
theorem laws_FnExactWheelLeft.mono : ∀ a0 a1 a2 k, LeO (laws_FnExactWheelLeft.f k a0 a1 a2) (laws_FnExactWheelLeft.f (k + 1) a0 a1 a2) := by
 intro a0 a1 a2 k
 have ih0 := laws_FnExactWheelLeft.mono_l k
 unfold laws_FnExactWheelLeft.f
 repeat' first
   | (with_reducible exact ih0 _ _ _ _ _)
   | (with_reducible exact impl_WheelLeft.mono _ _ _ _)
   | (with_reducible exact laws_eqWheel.mono _ _ _ _ _)
   | (with_reducible exact laws_toWheel.mono _ _ _)
   | (with_reducible exact spec_WheelLeft.mono _ _ _ _)
   | (with_reducible exact LeO.refl _)
   | (with_reducible exact LeO.none _)
   | (with_reducible refine LeO.ite ?_ ?_)
   | (with_reducible refine LeO.bind ?_ (fun _ => ?_))
   | exact ih0 _ _ _ _ _
   | exact impl_WheelLeft.mono _ _ _ _
   | exact laws_eqWheel.mono _ _ _ _ _
   | exact laws_toWheel.mono _ _ _
   | exact spec_WheelLeft.mono _ _ _ _
   | exact LeO.none _
   | refine LeO.ite ?_ ?_
   | refine LeO.bind ?_ (fun _ => ?_)
set_option maxHeartbeats 8000000 in
set_option maxRecDepth 100000 in
theorem laws_FnExactWheelLeft.calls (k : Nat) (a0_0 : Int) (A0_1 : Option Addr) (c0_1 : Nat) (l0_1 : List (S104)) (a1 : Int) (r : Bool) (w : World) (hr0_1 : Kd.C k104 w A0_1 l0_1.length l0_1) (hc0_1 : l0_1.length ≤ c0_1) (h : laws_FnExactWheelLeft.f k a0_0 l0_1 a1 = some r) :
  Calls Try.prog 9 #[.agg #[.int .i64 a0_0, .slice A0_1 l0_1.length c0_1], .int .i64 a1] w fun e w' => e = .returned (.bool r) ∧ Below w.heap.size w w' := by
 have hu60 := Try.underlying60
 have hu65 := Try.underlying65
 have HR0_1 := Aside0.mk hr0_1
 have HC0_1 := Aside0.mk hc0_1
 clear hr0_1 hc0_1
 have HB := Aside0.mk (Below.refl w.heap.size w)
 have H : ((laws_szWheel.f a0_0 l0_1 1048576).bind fun t219 => (if t219 < 0 then (some true) else ((laws_toWheel.f k a0_0 l0_1).bind fun bt220 => ((spec_WheelLeft.f k bt220.1 bt220.2 a1).bind fun bt224 => ((laws_toWheel.f k a0_0 l0_1).bind fun bt226 => ((impl_WheelLeft.f k bt226.1 bt226.2 a1).bind fun bt231 => (if bt231.1 = bt224.1 then (laws_FnExactWheelLeft.j0 k (bt231.2 != bt224.2) a0_0 l0_1 bt226.1 bt226.2) else (laws_FnExactWheelLeft.j0 k true a0_0 l0_1 bt226.1 bt226.2)))))))) = some r := h
 clear h
 replace H := Option.bind_eq_some_iff.mp H
 obtain ⟨t219, A30, H⟩ := H
 replace H : (if t219 < 0 then (some true) else ((laws_toWheel.f k a0_0 l0_1).bind fun bt220 => ((spec_WheelLeft.f k bt220.1 bt220.2 a1).bind fun bt224 => ((laws_toWheel.f k a0_0 l0_1).bind fun bt226 => ((impl_WheelLeft.f k bt226.1 bt226.2 a1).bind fun bt231 => (if bt231.1 = bt224.1 then (laws_FnExactWheelLeft.j0 k (bt231.2 != bt224.2) a0_0 l0_1 bt226.1 bt226.2) else (laws_FnExactWheelLeft.j0 k true a0_0 l0_1 bt226.1 bt226.2))))))) = some r := H
 have A3 := Aside0.mk A30
 clear A30
 by_cases c4 : t219 < 0
 ·rw [if_pos c4] at H
  have c4b0 : decide (t219 < 0) = true := decide_eq_true c4
  clear c4
  obtain rfl := Option.some.inj H
  go_enter Try.func9, Try.ntmps9
  go_wp2_with (first | ((with_reducible refine gate_dst (N := 2) rfl ?_); refine bx_ 2 #[.int .i64 a0_0, .slice A0_1 l0_1.length c0_1] 60 (h := ?_); intro gb218 hg w5 hbox hb; have BK218 := Aside0.mk (hbox); have GW218 := Aside0.mk ((by rw [hg]; exact (below_size bel) : w.heap.size ≤ gb218)); have GE218 := Aside0.mk ((by rw [hg]; exact (below_size bel) : w.heap.size ≤ gb218)); replace HB := Aside0.mk (below_step bel hb); clear hb hbox hg; obtain ⟨hcz6_0, hcz6_1, -⟩ := cells_2 BK218.out trivial; obtain ⟨hfz6_0, hfz6_1, -⟩ := frz_2 BK218.out) | ((with_reducible refine gate_callee (f := 31) rfl ?_); refine gl_ (some 13) Try.func31 #[.agg #[.int .i64 a0_0, .slice A0_1 l0_1.length c0_1], .int .i64 1048576] (h := ?_); (with_reducible refine (laws_szWheel.calls a0_0 _ _ l0_1 1048576 t219 _ ?side1 ?side2 A3.out).mono ?_); (case side1 => exact kcb); (case side2 => exact HC0_1.out); rintro e w7 ⟨rfl, hb⟩; refine ⟨_, rfl, ?_⟩; replace BK218 := Aside0.mk (blb BK218 hb); replace HB := Aside0.mk (below_step bel hb); (try clear hb); (try clear hb2); (try clear hk); (try clear hi)))
  go_ret
  exact ⟨by first | rfl | (simp [errW_none, errW_some] <;> rfl) | (simp [*, errW_none, errW_some] <;> rfl), by repeat (first | (with_reducible first | exact HB.out | apply below_alloc | apply pw_below_drewN | apply below_drew1 | refine below_set ?_ GE218.out) | exact HB.out)⟩
 ·rw [if_neg c4] at H
  have c4b0 : decide (t219 < 0) = false := decide_eq_false c4
  clear c4
  replace H := Option.bind_eq_some_iff.mp H
  obtain ⟨⟨t220, t221⟩, A80, H⟩ := H
  replace H : ((spec_WheelLeft.f k t220 t221 a1).bind fun bt224 => ((laws_toWheel.f k a0_0 l0_1).bind fun bt226 => ((impl_WheelLeft.f k bt226.1 bt226.2 a1).bind fun bt231 => (if bt231.1 = bt224.1 then (laws_FnExactWheelLeft.j0 k (bt231.2 != bt224.2) a0_0 l0_1 bt226.1 bt226.2) else (laws_FnExactWheelLeft.j0 k true a0_0 l0_1 bt226.1 bt226.2))))) = some r := H
  have A8 := Aside0.mk A80
  clear A80
  replace H := Option.bind_eq_some_iff.mp H
  obtain ⟨⟨t224, t225⟩, A90, H⟩ := H
  replace H : ((laws_toWheel.f k a0_0 l0_1).bind fun bt226 => ((impl_WheelLeft.f k bt226.1 bt226.2 a1).bind fun bt231 => (if bt231.1 = t224 then (laws_FnExactWheelLeft.j0 k (bt231.2 != t225) a0_0 l0_1 bt226.1 bt226.2) else (laws_FnExactWheelLeft.j0 k true a0_0 l0_1 bt226.1 bt226.2)))) = some r := H
  have A9 := Aside0.mk A90
  clear A90
  replace H := Option.bind_eq_some_iff.mp H
  obtain ⟨⟨t226, t227⟩, A100, H⟩ := H
  replace H : ((impl_WheelLeft.f k t226 t227 a1).bind fun bt231 => (if bt231.1 = t224 then (laws_FnExactWheelLeft.j0 k (bt231.2 != t225) a0_0 l0_1 t226 t227) else (laws_FnExactWheelLeft.j0 k true a0_0 l0_1 t226 t227))) = some r := H
  have A10 := Aside0.mk A100
  clear A100
  replace H := Option.bind_eq_some_iff.mp H
  obtain ⟨⟨t231, t232⟩, A110, H⟩ := H
  replace H : (if t231 = t224 then (laws_FnExactWheelLeft.j0 k (t232 != t225) a0_0 l0_1 t226 t227) else (laws_FnExactWheelLeft.j0 k true a0_0 l0_1 t226 t227)) = some r := H
  have A11 := Aside0.mk A110
  clear A110
  have HC12 := Aside0.mk H
  clear H
  go_enter Try.func9, Try.ntmps9
  go_upto_region 8 with (first | ((with_reducible refine gate_dst (N := 2) rfl ?_); refine bx_ 2 #[.int .i64 a0_0, .slice A0_1 l0_1.length c0_1] 60 (h := ?_); intro gb218 hg w13 hbox hb; have BK218 := Aside0.mk (hbox); have GW218 := Aside0.mk ((by rw [hg]; exact (below_size bel) : w.heap.size ≤ gb218)); have GE218 := Aside0.mk ((by rw [hg]; exact (below_size bel) : w.heap.size ≤ gb218)); replace HB := Aside0.mk (below_step bel hb); clear hb hbox hg; obtain ⟨hcz14_0, hcz14_1, -⟩ := cells_2 BK218.out trivial; obtain ⟨hfz14_0, hfz14_1, -⟩ := frz_2 BK218.out) | ((with_reducible refine gate_callee (f := 31) rfl ?_); refine gl_ (some 13) Try.func31 #[.agg #[.int .i64 a0_0, .slice A0_1 l0_1.length c0_1], .int .i64 1048576] (h := ?_); (with_reducible refine (laws_szWheel.calls a0_0 _ _ l0_1 1048576 t219 _ ?side1 ?side2 A3.out).mono ?_); (case side1 => exact kcb); (case side2 => exact HC0_1.out); rintro e w15 ⟨rfl, hb⟩; refine ⟨_, rfl, ?_⟩; replace BK218 := Aside0.mk (blb BK218 hb); replace HB := Aside0.mk (below_step bel hb); (try clear hb); (try clear hb2); (try clear hk); (try clear hi); obtain ⟨hcz16_0, hcz16_1, -⟩ := cells_2 BK218.out trivial; obtain ⟨hfz16_0, hfz16_1, -⟩ := frz_2 BK218.out) | ((with_reducible refine gate_callee (f := 33) rfl ?_); refine gl_ (some 18) Try.func33 #[.agg #[.int .i64 a0_0, .slice A0_1 l0_1.length c0_1]] (h := ?_); (with_reducible refine (laws_toWheel.calls k a0_0 _ _ l0_1 t220 t221 _ ?side1 ?side2 A8.out).mono ?_); (case side1 => exact kcb); (case side2 => exact HC0_1.out); rintro e w17 ⟨v222, rfl, ho0, hb⟩; refine ⟨_, rfl, ?_⟩; have HO223 := Aside0.mk (Kd.R_lower ho0 (below_size bel)); replace BK218 := Aside0.mk (blb BK218 hb); replace HB := Aside0.mk (below_step bel hb); (try clear hb); (try clear hb2); (try clear hk); (try clear hi); (try clear ho0); obtain ⟨Ao18, co18, eo18⟩ := Kd.R_slice HO223.out; subst eo18) | ((with_reducible refine gate_callee (f := 38) rfl ?_); refine gl_ (some 20) Try.func38 #[.agg #[.int .i64 t220, .slice Ao18 t221.length co18], .int .i64 a1] (h := ?_); (with_reducible refine (spec_WheelLeft.calls k t220 _ _ t221 a1 t224 t225 _ ?side1 ?side2 A9.out).mono ?_); (case side1 => repeat (first | exact (Kd.R_reads' HO223.out).2.2 | (with_reducible refine Kd.C_alloc ?_ _) | (with_reducible refine Kd.C_drewN ?_ _) | (with_reducible refine Kd.C_drew ?_))); (case side2 => exact (Kd.R_reads' HO223.out).2.1); rintro e w19 ⟨rfl, hb⟩; refine ⟨_, rfl, ?_⟩; replace HO223 := Aside0.mk (Kd.R_below (by (with_reducible repeat (first | apply Kd.R_alloc | apply Kd.R_drewN | apply Kd.R_drew)); exact HO223.out) hb); replace BK218 := Aside0.mk (blb BK218 hb); replace HB := Aside0.mk (below_step bel hb); (try clear hb); (try clear hb2); (try clear hk); (try clear hi); obtain ⟨hcz20_0, hcz20_1, -⟩ := cells_2 BK218.out trivial; obtain ⟨hfz20_0, hfz20_1, -⟩ := frz_2 BK218.out) | ((with_reducible refine gate_callee (f := 33) rfl ?_); refine gl_ (some 24) Try.func33 #[.agg #[.int .i64 a0_0, .slice A0_1 l0_1.length c0_1]] (h := ?_); (with_reducible refine (laws_toWheel.calls k a0_0 _ _ l0_1 t226 t227 _ ?side1 ?side2 A10.out).mono ?_); (case side1 => exact kcb); (case side2 => exact HC0_1.out); rintro e w21 ⟨v228, rfl, ho0, hb⟩; refine ⟨_, rfl, ?_⟩; have HO229 := Aside0.mk (Kd.R_lower (Kd.R_new' ho0 (Kd.R_lt (by (with_reducible repeat (first | apply Kd.R_alloc | apply Kd.R_drewN | apply Kd.R_drew)); exact HO223.out))) (below_size bel)); replace HO223 := Aside0.mk (Kd.R_elder' (by (with_reducible repeat (first | apply Kd.R_alloc | apply Kd.R_drewN | apply Kd.R_drew)); exact HO223.out) (Kd.R_base ho0) hb); replace BK218 := Aside0.mk (blb BK218 hb); replace HB := Aside0.mk (below_step bel hb); (try clear hb); (try clear hb2); (try clear hk); (try clear hi); (try clear ho0)) | ((with_reducible refine gate_dst (N := 8) rfl ?_); refine bx_ 8 #[.int .i64 0, .slice none 0 0] 65 (h := ?_); intro gb230 hg w22 hbox hb; have BK230 := Aside0.mk (hbox); have GW230 := Aside0.mk ((by rw [hg]; exact (below_size bel) : w.heap.size ≤ gb230)); have GE230 := Aside0.mk ((by rw [hg]; exact (below_size bel) : w.heap.size ≤ gb230)); have NB218_230 := Aside0.mk ((by rw [hg]; exact Nat.ne_of_lt (blt BK218) : gb218 ≠ gb230)); have NB230_218 := Aside0.mk ((by rw [hg]; exact Nat.ne_of_gt (blt BK218) : gb230 ≠ gb218)); replace HO223 := Aside0.mk (Kd.R_below (by (with_reducible repeat (first | apply Kd.R_alloc | apply Kd.R_drewN | apply Kd.R_drew)); exact HO223.out) hb); replace HO229 := Aside0.mk (Kd.R_below (by (with_reducible repeat (first | apply Kd.R_alloc | apply Kd.R_drewN | apply Kd.R_drew)); exact HO229.out) hb); replace BK218 := Aside0.mk (blb BK218 hb); replace HB := Aside0.mk (below_step bel hb); clear hb hbox hg; have hnb23 := NB230_218.out; have hnc23 := NB218_230.out; obtain ⟨hcz24_0, hcz24_1, -⟩ := cells_2 BK230.out trivial; obtain ⟨hfz24_0, hfz24_1, -⟩ := frz_2 BK230.out; obtain ⟨Ao25, co25, eo25⟩ := Kd.R_slice HO229.out; subst eo25) | ((with_reducible refine gate_callee (f := 39) rfl ?_); refine gl_ (some 28) Try.func39 #[.agg #[.int .i64 t226, .slice Ao25 t227.length co25], .int .i64 a1] (h := ?_); (with_reducible refine (impl_WheelLeft.calls k t226 _ _ t227 a1 t231 t232 _ ?side1 ?side2 A11.out).mono ?_); (case side1 => refine (Kd.R_reads' (e := 93) (base := w.heap.size) (ok := fun k_ => (True ∧ some k_ ≠ (.slice Ao18 t221.length co18 : Value).ownBlock)) (n := t227.length) (c := co25) ?_).2.2; exact (by (with_reducible repeat (first | apply Kd.R_alloc | apply Kd.R_drewN | apply Kd.R_drew)); exact (Kd.R_mono (Kd.R_far (p := ⟨gb230, 1, none⟩) (Kd.R_far (p := ⟨gb230, 0, none⟩) (Kd.R_types HO229.out BK230.out (by decide)) (fun _ hk => hk.2) (.int .i64 t226)) (fun _ hk => hk.2) (.slice Ao25 t227.length co25)) (fun _ h_ => h_.1)))); (case side2 => exact (Kd.R_reads' HO229.out).2.1); rintro e w26 ⟨rfl, hb⟩; refine ⟨_, rfl, ?_⟩; replace HO223 := Aside0.mk (Kd.R_below (by (with_reducible repeat (first | apply Kd.R_alloc | apply Kd.R_drewN | apply Kd.R_drew)); exact (Kd.R_mono (Kd.R_far (p := ⟨gb230, 1, none⟩) (Kd.R_far (p := ⟨gb230, 0, none⟩) (Kd.R_types HO223.out BK230.out (by decide)) (fun _ hk => hk.2) (.int .i64 t226)) (fun _ hk => hk.2) (.slice Ao25 t227.length co25)) (fun _ h_ => h_.1))) hb); replace HO229 := Aside0.mk (Kd.R_below (by (with_reducible repeat (first | apply Kd.R_alloc | apply Kd.R_drewN | apply Kd.R_drew)); exact (Kd.R_mono (Kd.R_far (p := ⟨gb230, 1, none⟩) (Kd.R_far (p := ⟨gb230, 0, none⟩) (Kd.R_types HO229.out BK230.out (by decide)) (fun _ hk => hk.2) (.int .i64 t226)) (fun _ hk => hk.2) (.slice Ao25 t227.length co25)) (fun _ h_ => h_.1))) hb); replace BK218 := Aside0.mk (blk_below (g := gb218) (o := .cells #[.int .i64 a0_0, .slice A0_1 l0_1.length c0_1] 60 (0, 0)) (by (with_reducible repeat (first | refine blk_drewN ?_ _ | refine blk_drew ?_ | refine blk_alloc ?_ _)); refine blk_far ?_ NB218_230.out _; (with_reducible repeat (first | refine blk_drewN ?_ _ | refine blk_drew ?_ | refine blk_alloc ?_ _)); refine blk_far ?_ NB218_230.out _; (with_reducible repeat (first | refine blk_drewN ?_ _ | refine blk_drew ?_ | refine blk_alloc ?_ _)); exact BK218.out) hb); replace BK230 := Aside0.mk (blk_below (g := gb230) (o := .cells #[.int .i64 t226, .slice Ao25 t227.length co25] 65 (0, 0)) (by (with_reducible repeat (first | refine blk_drewN ?_ _ | refine blk_drew ?_ | refine blk_alloc ?_ _)); refine blk_put (cs := #[.int .i64 t226, .slice none 0 0]) ?_ 1 _ rfl; (with_reducible repeat (first | refine blk_drewN ?_ _ | refine blk_drew ?_ | refine blk_alloc ?_ _)); refine blk_put (cs := #[.int .i64 0, .slice none 0 0]) ?_ 0 _ rfl; (with_reducible repeat (first | refine blk_drewN ?_ _ | refine blk_drew ?_ | refine blk_alloc ?_ _)); exact BK230.out) hb); replace HB := Aside0.mk (below_step bel hb); (try clear hb); (try clear hb2); (try clear hk); (try clear hi)))
  (try simp only [Act.put, List.setIfInBounds_toArray, List.set_cons_zero, List.set_cons_succ])
  go_cut [38] (fun v38 wc => ∃ (kq : Nat) (x38_11 : Bool), v38 = .bool x38_11 ∧ Aside0 (laws_FnExactWheelLeft.j0 kq x38_11 a0_0 l0_1 t226 t227 = some r) ∧ Aside0 (kq ≤ k) ∧ Aside0 (Kd.R k93 93 wc w.heap.size (fun _ => True) (.slice Ao25 t227.length co25) t227) ∧ Aside0 (wc.heap[gb218]? = some (.cells #[.int .i64 a0_0, (.slice A0_1 l0_1.length c0_1)] 60 (0, 0))) ∧ Aside0 (wc.heap[gb230]? = some (.cells #[.int .i64 t226, (.slice Ao25 t227.length co25)] 65 (0, 0))) ∧ Aside0 (Below w.heap.size w wc))
  case first =>
   have H := HC12.out
   clear HC12
   by_cases c27 : t231 = t224
   ·rw [if_pos c27] at H
    have c27b0 : (t231 == t224) = true := beq_iff_eq.mpr c27
    have c27b1 : (t231 != t224) = false := bne_eq_false_iff_eq.mpr c27
    clear c27
    (first | rw [c27b0] | (simp only [i64_w, i32_w]; rw [c27b0]) | skip)
    have H' := Aside0.mk H
    clear H
    go_wp2
    go_meet
    case rel => exact ⟨_, ((t232 != t225)), (by first | rfl | (simp; done) | (simp [*]; done)), H', ⟨by first | omega | exact Nat.le_refl _⟩, ⟨by (with_reducible repeat (first | apply Kd.R_alloc | apply Kd.R_drewN | apply Kd.R_drew)); exact Kd.R_mono HO229.out (fun _ hk => trivial)⟩, ⟨by (with_reducible repeat (first | refine blk_drewN ?_ _ | refine blk_drew ?_ | refine blk_alloc ?_ _)); exact BK218.out⟩, ⟨by (with_reducible repeat (first | refine blk_drewN ?_ _ | refine blk_drew ?_ | refine blk_alloc ?_ _)); exact BK230.out⟩, ⟨by repeat (first | (with_reducible first | exact HB.out | apply below_alloc | apply pw_below_drewN | apply below_drew1 | refine below_set ?_ GE218.out | refine below_set ?_ GE230.out) | exact HB.out)⟩⟩
   ·rw [if_neg c27] at H
    have c27b0 : (t231 == t224) = false := beq_eq_false_iff_ne.mpr c27
    have c27b1 : (t231 != t224) = true := bne_iff_ne.mpr c27
    (first | rw [c27b0] | (simp only [i64_w, i32_w]; rw [c27b0]) | skip)
    have H' := Aside0.mk H
    clear H
    go_wp2
    go_meet
    case rel => exact ⟨_, (true), (by first | rfl | (simp; done) | (simp [*]; done)), H', ⟨by first | omega | exact Nat.le_refl _⟩, ⟨by (with_reducible repeat (first | apply Kd.R_alloc | apply Kd.R_drewN | apply Kd.R_drew)); exact Kd.R_mono HO229.out (fun _ hk => trivial)⟩, ⟨by (with_reducible repeat (first | refine blk_drewN ?_ _ | refine blk_drew ?_ | refine blk_alloc ?_ _)); exact BK218.out⟩, ⟨by (with_reducible repeat (first | refine blk_drewN ?_ _ | refine blk_drew ?_ | refine blk_alloc ?_ _)); exact BK230.out⟩, ⟨by repeat (first | (with_reducible first | exact HB.out | apply below_alloc | apply pw_below_drewN | apply below_drew1 | refine below_set ?_ GE218.out | refine below_set ?_ GE230.out) | exact HB.out)⟩⟩
  case rest =>
   clear HC12
   try clear c2; try clear p2; try clear c3; try clear c4; try clear c4b0; try clear c9; try clear c23; try clear c27; try clear c27b0; try clear c27b1; try clear hcz14_0; try clear hcz14_1; try clear hcz16_0; try clear hcz16_1; try clear hcz20_0; try clear hcz20_1; try clear hcz24_0; try clear hcz24_1; try clear hcz6_0; try clear hcz6_1; try clear hfz14_0; try clear hfz14_1; try clear hfz16_0; try clear hfz16_1; try clear hfz20_0; try clear hfz20_1; try clear hfz24_0; try clear hfz24_1; try clear hfz6_0; try clear hfz6_1
   obtain ⟨kq, x38_11, rfl, HA, HJ11, HO_231001, BK218, BK230, HB⟩ := hcut
   cases kq with
   | zero => exact absurd HA.out (by simp [laws_FnExactWheelLeft.j0])
   | succ kj11 =>
    have H := HA.out
    clear HA
    simp only [laws_FnExactWheelLeft.j0] at H
    by_cases c28 : x38_11 = true
    ·subst c28
     have H1 : (some false) = some r := by rw [if_pos rfl] at H; exact H
     clear H
     have H := H1
     clear H1
     obtain rfl := Option.some.inj H
     go_wp2
     go_ret
     exact ⟨by first | rfl | (simp [errW_none, errW_some] <;> rfl) | (simp [*, errW_none, errW_some] <;> rfl), by repeat (first | (with_reducible first | exact HB.out | apply below_alloc | apply pw_below_drewN | apply below_drew1 | refine below_set ?_ GE218.out | refine below_set ?_ GE230.out) | exact HB.out)⟩
    ·replace c28 := Bool.eq_false_iff.mpr c28
     subst c28
     have H1 : ((laws_toWheel.f kj11 a0_0 l0_1).bind fun bt233 => ((laws_eqWheel.f kj11 t226 t227 bt233.1 bt233.2).bind fun t237 => (if t237 = true then (some true) else (some false)))) = some r := by rw [if_neg (show ¬ (false = true) by decide)] at H; exact H
     clear H
     have H := H1
     clear H1
     replace H := Option.bind_eq_some_iff.mp H
     obtain ⟨⟨t233, t234⟩, A290, H⟩ := H
     replace H : ((laws_eqWheel.f kj11 t226 t227 t233 t234).bind fun t237 => (if t237 = true then (some true) else (some false))) = some r := H
     have A29 := Aside0.mk A290
     clear A290
     replace H := Option.bind_eq_some_iff.mp H
     obtain ⟨t237, A300, H⟩ := H
     replace H : (if t237 = true then (some true) else (some false)) = some r := H
     have A30 := Aside0.mk A300
     clear A300
     by_cases c31 : t237 = true
     ·subst c31
      have H1 : (some true) = some r := by rw [if_pos rfl] at H; exact H
      clear H
      have H := H1
      clear H1
      obtain rfl := Option.some.inj H
      try go_wp2
      replace HO_231001 := Aside0.mk (Kd.R_drew HO_231001.out)
      replace BK218 := Aside0.mk (blk_drew BK218.out)
      replace BK230 := Aside0.mk (blk_drew BK230.out)
      replace HB := Aside0.mk (below_drew1 HB.out)
      refine start_ (n := 5) (S := fun w' => w'.cell? ⟨gb230, 0, none⟩ = some (.int .i64 t226) ∧ w'.cell? ⟨gb230, 1, none⟩ = some (.slice Ao25 t227.length co25) ∧ w'.cell? ⟨gb218, 0, none⟩ = some (.int .i64 a0_0) ∧ w'.cell? ⟨gb218, 1, none⟩ = some (.slice A0_1 l0_1.length c0_1)) (ds := []) #[false, false, false, false, false] (by kernel_rfl) rfl rfl (cells_2 BK230.out ⟨(blk_cell BK218.out 0).trans rfl, (blk_cell BK218.out 1).trans rfl⟩) (fun hHeld => ?_)
      generalize wc.drew = w32 at HO_231001 BK218 BK230 HB hHeld ⊢
      refine take_ (i := 0) (N := some 39) (v := ?_) (a' := ?_) #[true, false, false, false, false] rfl rfl (by kernel_rfl) (fun _ _ _ h => h) (Or.inl ⟨by rfl, ?_⟩) hHeld ?_ ?_
      rotate_left
      ·rintro w' ⟨s0, s1, s2, s3⟩
       go_simp
       with_reducible rfl
      rotate_left
      ·simp only [Act.put, List.setIfInBounds_toArray, List.set_cons_zero, List.set_cons_succ, i64_w, i32_w]
       rfl
      refine take_ (i := 1) (N := some 40) (v := ?_) (a' := ?_) #[true, true, false, false, false] rfl rfl (by kernel_rfl) (fun _ _ _ h => h) (Or.inl ⟨by rfl, ?_⟩) hHeld ?_ ?_
      rotate_left
      ·rintro w' ⟨s0, s1, s2, s3⟩
       go_simp
       with_reducible rfl
      rotate_left
      ·simp only [Act.put, List.setIfInBounds_toArray, List.set_cons_zero, List.set_cons_succ, i64_w, i32_w]
       rfl
      refine one_ (i := 2) (N := some 41) #[true, true, true, false, false] rfl rfl (by kernel_rfl) (by decide) (fun K hK => ?_)
      refine gs_ Try.func33 #[.agg #[.int .i64 a0_0, .slice A0_1 l0_1.length c0_1]] (h := ?_)
      with_reducible refine (laws_toWheel.calls kj11 a0_0 _ _ l0_1 t233 t234 _ ?side1 ?side2 A29.out).mono ?_
      (case side1 => exact kcb)
      (case side2 => exact HC0_1.out)
      rintro e w33 ⟨v235, rfl, ho0, hb⟩
      refine ⟨_, rfl, ?_⟩
      have HO236 := Aside0.mk (Kd.R_lower (Kd.R_new' ho0 (Kd.R_lt (by (with_reducible repeat (first | apply Kd.R_alloc | apply Kd.R_drewN | apply Kd.R_drew)); exact HO_231001.out))) (below_size bel))
      replace HO_231001 := Aside0.mk (Kd.R_elder' (by (with_reducible repeat (first | apply Kd.R_alloc | apply Kd.R_drewN | apply Kd.R_drew)); exact HO_231001.out) (Kd.R_base ho0) hb)
      replace BK218 := Aside0.mk (blb BK218 hb)
      replace BK230 := Aside0.mk (blb BK230 hb)
      replace HB := Aside0.mk (below_step bel hb)
      (try clear hb)
      (try clear hb2)
      (try clear hk)
      (try clear hi)
      (try clear ho0)
      obtain ⟨Ao34, co34, eo34⟩ := Kd.R_slice HO236.out
      (first | subst eo34 | (injection eo34 with f1_ f2_ f3_; have f4_ := f1_.symm; have f5_ := f3_.symm; clear f1_ f2_ f3_; subst f4_; subst f5_))
      refine hK.out _ _ (cells_2 BK230.out ⟨(blk_cell BK218.out 0).trans rfl, (blk_cell BK218.out 1).trans rfl⟩) (fun hHeld => ?_)
      clear hK K
      refine norm_ (a' := ?_) ?_ ?_
      rotate_left
      ·show Act.put _ (some 41) _ = _
       simp only [Act.put, List.setIfInBounds_toArray, List.set_cons_zero, List.set_cons_succ, i64_w, i32_w]
       rfl
      refine one_ (i := 3) (N := some 42) #[true, true, true, true, false] rfl rfl (by kernel_rfl) (by decide) (fun K hK => ?_)
      refine gs_ Try.func35 #[.agg #[.int .i64 t226, .slice Ao25 t227.length co25], .agg #[.int .i64 t233, .slice Ao34 t234.length co34]] (h := ?_)
      with_reducible refine (laws_eqWheel.calls kj11 t226 _ _ t227 t233 _ _ t234 true _ ?side1 ?side2 ?side3 ?side4 A30.out).mono ?_
      (case side1 => repeat (first | exact (Kd.R_reads' HO_231001.out).2.2 | (with_reducible refine Kd.C_alloc ?_ _) | (with_reducible refine Kd.C_drewN ?_ _) | (with_reducible refine Kd.C_drew ?_)))
      (case side2 => exact (Kd.R_reads' HO_231001.out).2.1)
      (case side3 => repeat (first | exact (Kd.R_reads' HO236.out).2.2 | (with_reducible refine Kd.C_alloc ?_ _) | (with_reducible refine Kd.C_drewN ?_ _) | (with_reducible refine Kd.C_drew ?_)))
      (case side4 => exact (Kd.R_reads' HO236.out).2.1)
      rintro e w35 ⟨rfl, hb⟩
      refine ⟨_, rfl, ?_⟩
      replace HO_231001 := Aside0.mk (Kd.R_below (by (with_reducible repeat (first | apply Kd.R_alloc | apply Kd.R_drewN | apply Kd.R_drew)); exact HO_231001.out) hb)
      replace HO236 := Aside0.mk (Kd.R_below (by (with_reducible repeat (first | apply Kd.R_alloc | apply Kd.R_drewN | apply Kd.R_drew)); exact HO236.out) hb)
      replace BK218 := Aside0.mk (blb BK218 hb)
      replace BK230 := Aside0.mk (blb BK230 hb)
      replace HB := Aside0.mk (below_step bel hb)
      (try clear hb)
      (try clear hb2)
      (try clear hk)
      (try clear hi)
      refine hK.out _ _ (cells_2 BK230.out ⟨(blk_cell BK218.out 0).trans rfl, (blk_cell BK218.out 1).trans rfl⟩) (fun hHeld => ?_)
      clear hK K
      refine norm_ (a' := ?_) ?_ ?_
      rotate_left
      ·show Act.put _ (some 42) _ = _
       simp only [Act.put, List.setIfInBounds_toArray, List.set_cons_zero, List.set_cons_succ, i64_w, i32_w]
       rfl
      refine pure_ (i := 4) (N := some 43) (v := ?_) (a' := ?_) #[true, true, true, true, true] rfl rfl (by kernel_rfl) (fun _ _ _ h => h) (Or.inl ⟨by rfl, ?_⟩) ?_ ?_
      rotate_left
      ·intro w'
       go_simp
       with_reducible rfl
      rotate_left
      ·simp only [Act.put, List.setIfInBounds_toArray, List.set_cons_zero, List.set_cons_succ, i64_w, i32_w]
       rfl
      refine done_ (by kernel_rfl) ?_
      try go_wp2
      go_ret
      exact ⟨by first | rfl | (simp [errW_none, errW_some] <;> rfl) | (simp [*, errW_none, errW_some] <;> rfl), by repeat (first | (with_reducible first | exact HB.out | apply below_alloc | apply pw_below_drewN | apply below_drew1 | refine below_set ?_ GE218.out | refine below_set ?_ GE230.out) | exact HB.out)⟩
     ·replace c31 := Bool.eq_false_iff.mpr c31
      subst c31
      have H1 : (some false) = some r := by rw [if_neg (show ¬ (false = true) by decide)] at H; exact H
      clear H
      have H := H1
      clear H1
      obtain rfl := Option.some.inj H
      try go_wp2
      replace HO_231001 := Aside0.mk (Kd.R_drew HO_231001.out)
      replace BK218 := Aside0.mk (blk_drew BK218.out)
      replace BK230 := Aside0.mk (blk_drew BK230.out)
      replace HB := Aside0.mk (below_drew1 HB.out)
      refine start_ (n := 5) (S := fun w' => w'.cell? ⟨gb230, 0, none⟩ = some (.int .i64 t226) ∧ w'.cell? ⟨gb230, 1, none⟩ = some (.slice Ao25 t227.length co25) ∧ w'.cell? ⟨gb218, 0, none⟩ = some (.int .i64 a0_0) ∧ w'.cell? ⟨gb218, 1, none⟩ = some (.slice A0_1 l0_1.length c0_1)) (ds := []) #[false, false, false, false, false] (by kernel_rfl) rfl rfl (cells_2 BK230.out ⟨(blk_cell BK218.out 0).trans rfl, (blk_cell BK218.out 1).trans rfl⟩) (fun hHeld => ?_)
      generalize wc.drew = w36 at HO_231001 BK218 BK230 HB hHeld ⊢
      refine take_ (i := 0) (N := some 39) (v := ?_) (a' := ?_) #[true, false, false, false, false] rfl rfl (by kernel_rfl) (fun _ _ _ h => h) (Or.inl ⟨by rfl, ?_⟩) hHeld ?_ ?_
      rotate_left
      ·rintro w' ⟨s0, s1, s2, s3⟩
       go_simp
       with_reducible rfl
      rotate_left
      ·simp only [Act.put, List.setIfInBounds_toArray, List.set_cons_zero, List.set_cons_succ, i64_w, i32_w]
       rfl
      refine take_ (i := 1) (N := some 40) (v := ?_) (a' := ?_) #[true, true, false, false, false] rfl rfl (by kernel_rfl) (fun _ _ _ h => h) (Or.inl ⟨by rfl, ?_⟩) hHeld ?_ ?_
      rotate_left
      ·rintro w' ⟨s0, s1, s2, s3⟩
       go_simp
       with_reducible rfl
      rotate_left
      ·simp only [Act.put, List.setIfInBounds_toArray, List.set_cons_zero, List.set_cons_succ, i64_w, i32_w]
       rfl
      refine one_ (i := 2) (N := some 41) #[true, true, true, false, false] rfl rfl (by kernel_rfl) (by decide) (fun K hK => ?_)
      refine gs_ Try.func33 #[.agg #[.int .i64 a0_0, .slice A0_1 l0_1.length c0_1]] (h := ?_)
      with_reducible refine (laws_toWheel.calls kj11 a0_0 _ _ l0_1 t233 t234 _ ?side1 ?side2 A29.out).mono ?_
      (case side1 => exact kcb)
      (case side2 => exact HC0_1.out)
      rintro e w37 ⟨v235, rfl, ho0, hb⟩
      refine ⟨_, rfl, ?_⟩
      have HO236 := Aside0.mk (Kd.R_lower (Kd.R_new' ho0 (Kd.R_lt (by (with_reducible repeat (first | apply Kd.R_alloc | apply Kd.R_drewN | apply Kd.R_drew)); exact HO_231001.out))) (below_size bel))
      replace HO_231001 := Aside0.mk (Kd.R_elder' (by (with_reducible repeat (first | apply Kd.R_alloc | apply Kd.R_drewN | apply Kd.R_drew)); exact HO_231001.out) (Kd.R_base ho0) hb)
      replace BK218 := Aside0.mk (blb BK218 hb)
      replace BK230 := Aside0.mk (blb BK230 hb)
      replace HB := Aside0.mk (below_step bel hb)
      (try clear hb)
      (try clear hb2)
      (try clear hk)
      (try clear hi)
      (try clear ho0)
      obtain ⟨Ao38, co38, eo38⟩ := Kd.R_slice HO236.out
      (first | subst eo38 | (injection eo38 with f1_ f2_ f3_; have f4_ := f1_.symm; have f5_ := f3_.symm; clear f1_ f2_ f3_; subst f4_; subst f5_))
      refine hK.out _ _ (cells_2 BK230.out ⟨(blk_cell BK218.out 0).trans rfl, (blk_cell BK218.out 1).trans rfl⟩) (fun hHeld => ?_)
      clear hK K
      refine norm_ (a' := ?_) ?_ ?_
      rotate_left
      ·show Act.put _ (some 41) _ = _
       simp only [Act.put, List.setIfInBounds_toArray, List.set_cons_zero, List.set_cons_succ, i64_w, i32_w]
       rfl
      refine one_ (i := 3) (N := some 42) #[true, true, true, true, false] rfl rfl (by kernel_rfl) (by decide) (fun K hK => ?_)
      refine gs_ Try.func35 #[.agg #[.int .i64 t226, .slice Ao25 t227.length co25], .agg #[.int .i64 t233, .slice Ao38 t234.length co38]] (h := ?_)
      with_reducible refine (laws_eqWheel.calls kj11 t226 _ _ t227 t233 _ _ t234 false _ ?side1 ?side2 ?side3 ?side4 A30.out).mono ?_
      (case side1 => repeat (first | exact (Kd.R_reads' HO_231001.out).2.2 | (with_reducible refine Kd.C_alloc ?_ _) | (with_reducible refine Kd.C_drewN ?_ _) | (with_reducible refine Kd.C_drew ?_)))
      (case side2 => exact (Kd.R_reads' HO_231001.out).2.1)
      (case side3 => repeat (first | exact (Kd.R_reads' HO236.out).2.2 | (with_reducible refine Kd.C_alloc ?_ _) | (with_reducible refine Kd.C_drewN ?_ _) | (with_reducible refine Kd.C_drew ?_)))
      (case side4 => exact (Kd.R_reads' HO236.out).2.1)
      rintro e w39 ⟨rfl, hb⟩
      refine ⟨_, rfl, ?_⟩
      replace HO_231001 := Aside0.mk (Kd.R_below (by (with_reducible repeat (first | apply Kd.R_alloc | apply Kd.R_drewN | apply Kd.R_drew)); exact HO_231001.out) hb)
      replace HO236 := Aside0.mk (Kd.R_below (by (with_reducible repeat (first | apply Kd.R_alloc | apply Kd.R_drewN | apply Kd.R_drew)); exact HO236.out) hb)
      replace BK218 := Aside0.mk (blb BK218 hb)
      replace BK230 := Aside0.mk (blb BK230 hb)
      replace HB := Aside0.mk (below_step bel hb)
      (try clear hb)
      (try clear hb2)
      (try clear hk)
      (try clear hi)
      refine hK.out _ _ (cells_2 BK230.out ⟨(blk_cell BK218.out 0).trans rfl, (blk_cell BK218.out 1).trans rfl⟩) (fun hHeld => ?_)
      clear hK K
      refine norm_ (a' := ?_) ?_ ?_
      rotate_left
      ·show Act.put _ (some 42) _ = _
       simp only [Act.put, List.setIfInBounds_toArray, List.set_cons_zero, List.set_cons_succ, i64_w, i32_w]
       rfl
      refine pure_ (i := 4) (N := some 43) (v := ?_) (a' := ?_) #[true, true, true, true, true] rfl rfl (by kernel_rfl) (fun _ _ _ h => h) (Or.inl ⟨by rfl, ?_⟩) ?_ ?_
      rotate_left
      ·intro w'
       go_simp
       with_reducible rfl
      rotate_left
      ·simp only [Act.put, List.setIfInBounds_toArray, List.set_cons_zero, List.set_cons_succ, i64_w, i32_w]
       rfl
      refine done_ (by kernel_rfl) ?_
      try go_wp2
      go_ret
      exact ⟨by first | rfl | (simp [errW_none, errW_some] <;> rfl) | (simp [*, errW_none, errW_some] <;> rfl), by repeat (first | (with_reducible first | exact HB.out | apply below_alloc | apply pw_below_drewN | apply below_drew1 | refine below_set ?_ GE218.out | refine below_set ?_ GE230.out) | exact HB.out)⟩

/-- THE ONE PURE STATEMENT of laws_FnExactWheelLeft. -/
def laws_FnExactWheelLeft.Pure : Prop := ∀ (x0 : S60) (a1 : Int), okS60 x0 → (Lit.int .i64 a1).wf = true → ∃ k, laws_FnExactWheelLeft.f k x0.f0 x0.f1 a1 = some true
theorem laws_FnExactWheelLeft.walk (P : laws_FnExactWheelLeft.Pure) (x0 : S60) (cs0 : List Value) (a1 : Int) (w : World) (w0 : k60.K w x0 cs0) (o0 : okS60 x0) (w1 : (Lit.int .i64 a1).wf = true) :
  Calls Try.prog 9 #[.agg ⟨cs0⟩, .int .i64 a1] w fun e w' => e = .returned (.bool true) ∧ Below w.heap.size w w' := by
 obtain ⟨A0_1, c0_1, rfl, m0_1, g0_1⟩ := k60_open w0
 obtain ⟨k, h⟩ := P x0 a1 o0 w1
 refine (laws_FnExactWheelLeft.calls k x0.f0 _ _ x0.f1 a1 true w g0_1 m0_1 h).mono ?_
 rintro e w' ⟨rfl, hd⟩
 exact ⟨rfl, hd⟩

end Go.Proofs.Ytmnjdmmljkahgaa.PW
