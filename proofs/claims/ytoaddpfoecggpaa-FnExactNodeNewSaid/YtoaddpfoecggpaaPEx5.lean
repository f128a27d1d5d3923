-- Written for this claim by the session's program pp.py, out of the kit's print and the seat's translation.
import Derived.Test.YtoaddpfoecggpaaPEx0
import Derived.Test.YtoaddpfoecggpaaPEx4
namespace Go.Proofs.Ytoaddpfoecggpaa.PE
open Go.RowKit Go.Proofs.YtoaddpfoecggpaaW.PrintWords Go.Proofs.YtoaddpfoecggpaaW.PrintLast Go.Proofs.YtoaddpfoecggpaaW.PrintMore
attribute [local go_sem] max2_int min2_int max_two min_two max_three min_three max_four min_four   -- for this text's walks alone
set_option linter.unusedVariables false
set_option linter.unusedSimpArgs false

/-! ### laws_heldItemS: function 93 -/
def laws_heldItemS.l0 : Nat → List (S115) → Int → Int → Option (Int)
 | 0, _, _, _ => none
 | k + 1, x0, x1, x5 => if x5 < (x0.length : Int) then (if 0 ≤ x5 then (if ((rd_T115 x0 x5).f0) = x1 then (if ((rd_T115 x0 x5).f1.f0) = (wrap64 (x1 + 1)) then (if ((rd_T115 x0 x5).f1.f1) = (wrap64 ((wrap64 (x1 + 1)) + 1)) then (if ((rd_T115 x0 x5).f1.f2.f0) = (wrap64 ((wrap64 ((wrap64 (x1 + 1)) + 1)) + 1)) then ((laws_heldByteS.f k ((rd_T115 x0 x5).f1.f2.f1) (wrap64 ((wrap64 ((wrap64 ((wrap64 (x1 + 1)) + 1)) + 1)) + 1))).bind fun t186 => (if t186 < 0 then (some (-1)) else ((laws_heldByteS.f k ((rd_T115 x0 x5).f1.f2.f2) t186).bind fun t188 => (if t188 < 0 then (some (-1)) else (if ((rd_T115 x0 x5).f1.f2.f3) = t188 then (laws_heldItemS.l0 k x0 (wrap64 (t188 + 1)) (wrap64 (x5 + 1))) else (some (-1))))))) else (some (-1))) else (some (-1))) else (some (-1))) else (some (-1))) else (none)) else (some x1)
def laws_heldItemS.f (k : Nat) (l0 : List (S115)) (a1 : Int) : Option (Int) := laws_heldItemS.l0 k l0 a1 0
theorem laws_heldItemS.mono_l : ∀ k, (∀ y0 y1 y2, LeO (laws_heldItemS.l0 k y0 y1 y2) (laws_heldItemS.l0 (k + 1) y0 y1 y2))
 | 0 => fun _ _ _ r h => by simp [laws_heldItemS.l0] at h
 | k + 1 => by
  have ih0 := laws_heldItemS.mono_l k
  ·intro y0 y1 y2
   unfold laws_heldItemS.l0
   repeat' first
   | (with_reducible exact ih0 _ _ _)
   | (with_reducible exact laws_heldByteS.mono _ _ _)
   | (with_reducible exact LeO.refl _)
   | (with_reducible exact LeO.none _)
   | (with_reducible refine LeO.ite ?_ ?_)
   | (with_reducible refine LeO.bind ?_ (fun _ => ?_))
   | exact ih0 _ _ _
   | exact laws_heldByteS.mono _ _ _
   | exact LeO.none _
   | refine LeO.ite ?_ ?_
   | refine LeO.bind ?_ (fun _ => ?_)
theorem laws_heldItemS.mono : ∀ a0 a1 k, LeO (laws_heldItemS.f k a0 a1) (laws_heldItemS.f (k + 1) a0 a1) := by
 intro a0 a1 k
 have ih0 := laws_heldItemS.mono_l k
 unfold laws_heldItemS.f
 repeat' first
   | (with_reducible exact ih0 _ _ _)
   | (with_reducible exact laws_heldByteS.mono _ _ _)
   | (with_reducible exact LeO.refl _)
   | (with_reducible exact LeO.none _)
   | (with_reducible refine LeO.ite ?_ ?_)
   | (with_reducible refine LeO.bind ?_ (fun _ => ?_))
   | exact ih0 _ _ _
   | exact laws_heldByteS.mono _ _ _
   | exact LeO.none _
   | refine LeO.ite ?_ ?_
   | refine LeO.bind ?_ (fun _ => ?_)
set_option maxHeartbeats 8000000 in
set_option maxRecDepth 100000 in
theorem laws_heldItemS.calls (k : Nat) (A0 : Option Addr) (c0 : Nat) (l0 : List (S115)) (a1 : Int) (r : Int) (w : World) (hr0 : Kd.C k115 w A0 l0.length l0) (hc0 : l0.length ≤ c0) (h : laws_heldItemS.f k l0 a1 = some r) :
  Calls Try.prog 93 #[.slice A0 l0.length c0, .int .i64 a1] w fun e w' => e = .returned (.int .i64 r) ∧ Drawn0 w w' := by
 have HR0 := Aside0.mk hr0
 have HC0 := Aside0.mk hc0
 clear hr0 hc0
 have H : (laws_heldItemS.l0 k l0 a1 0) = some r := h
 clear h
 have H' := Aside0.mk H
 clear H
 go_enter Try.func93, Try.ntmps93
 go_wp2
 go_loopg [1, 5] k (fun kq v1 v5 w' => ∃ (x1_1 : Int) (x5_1 : Int), v1 = .int .i64 x1_1 ∧ v5 = .int .i64 x5_1 ∧ Aside0 (laws_heldItemS.l0 kq l0 x1_1 x5_1 = some r) ∧ Aside0 (kq ≤ k) ∧ Drawn0 w w')
 case atStart => exact ⟨(a1), (0), (by first | rfl | (simp; done) | (simp [*]; done)), (by first | rfl | (simp; done) | (simp [*]; done)), H', ⟨Nat.le_refl _⟩, by repeat (first | exact Drawn0.refl _ | apply Drawn0.step)⟩
 case round =>
  clear H'
  try clear p2
  obtain ⟨x1_1, x5_1, rfl, rfl, HA, HK1, ⟨m1, rfl⟩⟩ := hrel
  cases gk with
  | zero => exact absurd HA.out (by simp [laws_heldItemS.l0])
  | succ k1 =>
   have H := HA.out
   clear HA
   simp only [laws_heldItemS.l0] at H
   by_cases c3 : x5_1 < (l0.length : Int)
   ·rw [if_pos c3] at H
    have c3b0 : decide (x5_1 < (l0.length : Int)) = true := decide_eq_true c3
    clear c3
    by_cases c4 : 0 ≤ x5_1
    ·rw [if_pos c4] at H
     have c4b0 : decide (0 ≤ x5_1) = true := decide_eq_true c4
     clear c4
     by_cases c5 : ((rd_T115 l0 x5_1).f0) = x1_1
     ·rw [if_pos c5] at H
      have c5b0 : (((rd_T115 l0 x5_1).f0) == x1_1) = true := beq_iff_eq.mpr c5
      have c5b1 : (((rd_T115 l0 x5_1).f0) != x1_1) = false := bne_eq_false_iff_eq.mpr c5
      clear c5
      by_cases c6 : ((rd_T115 l0 x5_1).f1.f0) = (wrap64 (x1_1 + 1))
      ·rw [if_pos c6] at H
       have c6b0 : (((rd_T115 l0 x5_1).f1.f0) == (wrap64 (x1_1 + 1))) = true := beq_iff_eq.mpr c6
       have c6b1 : (((rd_T115 l0 x5_1).f1.f0) != (wrap64 (x1_1 + 1))) = false := bne_eq_false_iff_eq.mpr c6
       clear c6
       by_cases c7 : ((rd_T115 l0 x5_1).f1.f1) = (wrap64 ((wrap64 (x1_1 + 1)) + 1))
       ·rw [if_pos c7] at H
        have c7b0 : (((rd_T115 l0 x5_1).f1.f1) == (wrap64 ((wrap64 (x1_1 + 1)) + 1))) = true := beq_iff_eq.mpr c7
        have c7b1 : (((rd_T115 l0 x5_1).f1.f1) != (wrap64 ((wrap64 (x1_1 + 1)) + 1))) = false := bne_eq_false_iff_eq.mpr c7
        clear c7
        by_cases c8 : ((rd_T115 l0 x5_1).f1.f2.f0) = (wrap64 ((wrap64 ((wrap64 (x1_1 + 1)) + 1)) + 1))
        ·rw [if_pos c8] at H
         have c8b0 : (((rd_T115 l0 x5_1).f1.f2.f0) == (wrap64 ((wrap64 ((wrap64 (x1_1 + 1)) + 1)) + 1))) = true := beq_iff_eq.mpr c8
         have c8b1 : (((rd_T115 l0 x5_1).f1.f2.f0) != (wrap64 ((wrap64 ((wrap64 (x1_1 + 1)) + 1)) + 1))) = false := bne_eq_false_iff_eq.mpr c8
         clear c8
         replace H := Option.bind_eq_some_iff.mp H
         obtain ⟨t186, A90, H⟩ := H
         replace H : (if t186 < 0 then (some (-1)) else ((laws_heldByteS.f k1 ((rd_T115 l0 x5_1).f1.f2.f2) t186).bind fun t188 => (if t188 < 0 then (some (-1)) else (if ((rd_T115 l0 x5_1).f1.f2.f3) = t188 then (laws_heldItemS.l0 k1 l0 (wrap64 (t188 + 1)) (wrap64 (x5_1 + 1))) else (some (-1)))))) = some r := H
         have A9 := Aside0.mk A90
         clear A90
         by_cases c10 : t186 < 0
         ·rw [if_pos c10] at H
          have c10b0 : decide (t186 < 0) = true := decide_eq_true c10
          clear c10
          obtain rfl := Option.some.inj H
          have p181 : 0 ≤ (x5_1 : Int) := od
          have q181 : x5_1 < (l0.length : Int) := od
          obtain ⟨ad181, A181_4, c181_4, A181_5, c181_5, e181, hx181_0, hx181_1, hx181_2, hx181_3, hx181_4, hx181_5, hx181_6, hl181_4, hi181_4, hl181_5, hi181_5⟩ := at_T115 HR0.out x5_1 p181 q181
          cases e181
          have HR181_4 := Aside0.mk hi181_4
          have HC181_4 := Aside0.mk hl181_4
          clear hi181_4 hl181_4
          have HR181_5 := Aside0.mk hi181_5
          have HC181_5 := Aside0.mk hl181_5
          clear hi181_5 hl181_5
          replace p181 := eq_true p181
          replace q181 := eq_true q181
          have p182 : 0 ≤ (x5_1 : Int) := od
          have q182 : x5_1 < (l0.length : Int) := od
          obtain ⟨ad182, A182_4, c182_4, A182_5, c182_5, e182, hx182_0, hx182_1, hx182_2, hx182_3, hx182_4, hx182_5, hx182_6, hl182_4, hi182_4, hl182_5, hi182_5⟩ := at_T115 HR0.out x5_1 p182 q182
          obtain rfl : ad181 = ad182 := (by injection e182)
          have HR182_4 := Aside0.mk hi182_4
          have HC182_4 := Aside0.mk hl182_4
          clear hi182_4 hl182_4
          have HR182_5 := Aside0.mk hi182_5
          have HC182_5 := Aside0.mk hl182_5
          clear hi182_5 hl182_5
          replace p182 := eq_true p182
          replace q182 := eq_true q182
          have ea_ := Option.some.inj (hx181_4.symm.trans hx182_4)
          injection ea_ with ea_ en_ ec_
          subst ea_
          subst ec_
          clear en_
          have ea_ := Option.some.inj (hx181_5.symm.trans hx182_5)
          injection ea_ with ea_ en_ ec_
          subst ea_
          subst ec_
          clear en_
          have p183 : 0 ≤ (x5_1 : Int) := od
          have q183 : x5_1 < (l0.length : Int) := od
          obtain ⟨ad183, A183_4, c183_4, A183_5, c183_5, e183, hx183_0, hx183_1, hx183_2, hx183_3, hx183_4, hx183_5, hx183_6, hl183_4, hi183_4, hl183_5, hi183_5⟩ := at_T115 HR0.out x5_1 p183 q183
          obtain rfl : ad181 = ad183 := (by injection e183)
          have HR183_4 := Aside0.mk hi183_4
          have HC183_4 := Aside0.mk hl183_4
          clear hi183_4 hl183_4
          have HR183_5 := Aside0.mk hi183_5
          have HC183_5 := Aside0.mk hl183_5
          clear hi183_5 hl183_5
          replace p183 := eq_true p183
          replace q183 := eq_true q183
          have ea_ := Option.some.inj (hx181_4.symm.trans hx183_4)
          injection ea_ with ea_ en_ ec_
          subst ea_
          subst ec_
          clear en_
          have ea_ := Option.some.inj (hx181_5.symm.trans hx183_5)
          injection ea_ with ea_ en_ ec_
          subst ea_
          subst ec_
          clear en_
          have p184 : 0 ≤ (x5_1 : Int) := od
          have q184 : x5_1 < (l0.length : Int) := od
          obtain ⟨ad184, A184_4, c184_4, A184_5, c184_5, e184, hx184_0, hx184_1, hx184_2, hx184_3, hx184_4, hx184_5, hx184_6, hl184_4, hi184_4, hl184_5, hi184_5⟩ := at_T115 HR0.out x5_1 p184 q184
          obtain rfl : ad181 = ad184 := (by injection e184)
          have HR184_4 := Aside0.mk hi184_4
          have HC184_4 := Aside0.mk hl184_4
          clear hi184_4 hl184_4
          have HR184_5 := Aside0.mk hi184_5
          have HC184_5 := Aside0.mk hl184_5
          clear hi184_5 hl184_5
          replace p184 := eq_true p184
          replace q184 := eq_true q184
          have ea_ := Option.some.inj (hx181_4.symm.trans hx184_4)
          injection ea_ with ea_ en_ ec_
          subst ea_
          subst ec_
          clear en_
          have ea_ := Option.some.inj (hx181_5.symm.trans hx184_5)
          injection ea_ with ea_ en_ ec_
          subst ea_
          subst ec_
          clear en_
          have p185 : 0 ≤ (x5_1 : Int) := od
          have q185 : x5_1 < (l0.length : Int) := od
          obtain ⟨ad185, A185_4, c185_4, A185_5, c185_5, e185, hx185_0, hx185_1, hx185_2, hx185_3, hx185_4, hx185_5, hx185_6, hl185_4, hi185_4, hl185_5, hi185_5⟩ := at_T115 HR0.out x5_1 p185 q185
          obtain rfl : ad181 = ad185 := (by injection e185)
          have HR185_4 := Aside0.mk hi185_4
          have HC185_4 := Aside0.mk hl185_4
          clear hi185_4 hl185_4
          have HR185_5 := Aside0.mk hi185_5
          have HC185_5 := Aside0.mk hl185_5
          clear hi185_5 hl185_5
          replace p185 := eq_true p185
          replace q185 := eq_true q185
          have ea_ := Option.some.inj (hx181_4.symm.trans hx185_4)
          injection ea_ with ea_ en_ ec_
          subst ea_
          subst ec_
          clear en_
          have ea_ := Option.some.inj (hx181_5.symm.trans hx185_5)
          injection ea_ with ea_ en_ ec_
          subst ea_
          subst ec_
          clear en_
          go_wp2_with (first | ((with_reducible refine gate_callee (f := 35) rfl ?_); refine gl_ (some 60) Try.func35 #[.slice A181_4 ((rd_T115 l0 x5_1).f1.f2.f1).length c181_4, .int .i64 (wrap64 ((wrap64 ((wrap64 ((wrap64 (x1_1 + 1)) + 1)) + 1)) + 1))] (h := ?_); (with_reducible refine (laws_heldByteS.calls k1 _ _ ((rd_T115 l0 x5_1).f1.f2.f1) (wrap64 ((wrap64 ((wrap64 ((wrap64 (x1_1 + 1)) + 1)) + 1)) + 1)) t186 _ ?side1 ?side2 A9.out).mono ?_); (case side1 => repeat (first | exact HR185_4.out | (with_reducible refine Kd.C_alloc ?_ _) | (with_reducible refine Kd.C_drewN ?_ _) | (with_reducible refine Kd.C_drew ?_))); (case side2 => exact HC185_4.out); rintro e w' ⟨rfl, ⟨nd, rfl⟩⟩; refine ⟨_, rfl, ?_⟩))
          go_ret
          exact ⟨by first | rfl | (simp; done) | (simp [*]; done), by repeat (first | exact Drawn0.refl _ | apply Drawn0.step)⟩
         ·rw [if_neg c10] at H
          have c10b0 : decide (t186 < 0) = false := decide_eq_false c10
          clear c10
          replace H := Option.bind_eq_some_iff.mp H
          obtain ⟨t188, A110, H⟩ := H
          replace H : (if t188 < 0 then (some (-1)) else (if ((rd_T115 l0 x5_1).f1.f2.f3) = t188 then (laws_heldItemS.l0 k1 l0 (wrap64 (t188 + 1)) (wrap64 (x5_1 + 1))) else (some (-1)))) = some r := H
          have A11 := Aside0.mk A110
          clear A110
          by_cases c12 : t188 < 0
          ·rw [if_pos c12] at H
           have c12b0 : decide (t188 < 0) = true := decide_eq_true c12
           clear c12
           obtain rfl := Option.some.inj H
           have p181 : 0 ≤ (x5_1 : Int) := od
           have q181 : x5_1 < (l0.length : Int) := od
           obtain ⟨ad181, A181_4, c181_4, A181_5, c181_5, e181, hx181_0, hx181_1, hx181_2, hx181_3, hx181_4, hx181_5, hx181_6, hl181_4, hi181_4, hl181_5, hi181_5⟩ := at_T115 HR0.out x5_1 p181 q181
           cases e181
           have HR181_4 := Aside0.mk hi181_4
           have HC181_4 := Aside0.mk hl181_4
           clear hi181_4 hl181_4
           have HR181_5 := Aside0.mk hi181_5
           have HC181_5 := Aside0.mk hl181_5
           clear hi181_5 hl181_5
           replace p181 := eq_true p181
           replace q181 := eq_true q181
           have p182 : 0 ≤ (x5_1 : Int) := od
           have q182 : x5_1 < (l0.length : Int) := od
           obtain ⟨ad182, A182_4, c182_4, A182_5, c182_5, e182, hx182_0, hx182_1, hx182_2, hx182_3, hx182_4, hx182_5, hx182_6, hl182_4, hi182_4, hl182_5, hi182_5⟩ := at_T115 HR0.out x5_1 p182 q182
           obtain rfl : ad181 = ad182 := (by injection e182)
           have HR182_4 := Aside0.mk hi182_4
           have HC182_4 := Aside0.mk hl182_4
           clear hi182_4 hl182_4
           have HR182_5 := Aside0.mk hi182_5
           have HC182_5 := Aside0.mk hl182_5
           clear hi182_5 hl182_5
           replace p182 := eq_true p182
           replace q182 := eq_true q182
           have ea_ := Option.some.inj (hx181_4.symm.trans hx182_4)
           injection ea_ with ea_ en_ ec_
           subst ea_
           subst ec_
           clear en_
           have ea_ := Option.some.inj (hx181_5.symm.trans hx182_5)
           injection ea_ with ea_ en_ ec_
           subst ea_
           subst ec_
           clear en_
           have p183 : 0 ≤ (x5_1 : Int) := od
           have q183 : x5_1 < (l0.length : Int) := od
           obtain ⟨ad183, A183_4, c183_4, A183_5, c183_5, e183, hx183_0, hx183_1, hx183_2, hx183_3, hx183_4, hx183_5, hx183_6, hl183_4, hi183_4, hl183_5, hi183_5⟩ := at_T115 HR0.out x5_1 p183 q183
           obtain rfl : ad181 = ad183 := (by injection e183)
           have HR183_4 := Aside0.mk hi183_4
           have HC183_4 := Aside0.mk hl183_4
           clear hi183_4 hl183_4
           have HR183_5 := Aside0.mk hi183_5
           have HC183_5 := Aside0.mk hl183_5
           clear hi183_5 hl183_5
           replace p183 := eq_true p183
           replace q183 := eq_true q183
           have ea_ := Option.some.inj (hx181_4.symm.trans hx183_4)
           injection ea_ with ea_ en_ ec_
           subst ea_
           subst ec_
           clear en_
           have ea_ := Option.some.inj (hx181_5.symm.trans hx183_5)
           injection ea_ with ea_ en_ ec_
           subst ea_
           subst ec_
           clear en_
           have p184 : 0 ≤ (x5_1 : Int) := od
           have q184 : x5_1 < (l0.length : Int) := od
           obtain ⟨ad184, A184_4, c184_4, A184_5, c184_5, e184, hx184_0, hx184_1, hx184_2, hx184_3, hx184_4, hx184_5, hx184_6, hl184_4, hi184_4, hl184_5, hi184_5⟩ := at_T115 HR0.out x5_1 p184 q184
           obtain rfl : ad181 = ad184 := (by injection e184)
           have HR184_4 := Aside0.mk hi184_4
           have HC184_4 := Aside0.mk hl184_4
           clear hi184_4 hl184_4
           have HR184_5 := Aside0.mk hi184_5
           have HC184_5 := Aside0.mk hl184_5
           clear hi184_5 hl184_5
           replace p184 := eq_true p184
           replace q184 := eq_true q184
           have ea_ := Option.some.inj (hx181_4.symm.trans hx184_4)
           injection ea_ with ea_ en_ ec_
           subst ea_
           subst ec_
           clear en_
           have ea_ := Option.some.inj (hx181_5.symm.trans hx184_5)
           injection ea_ with ea_ en_ ec_
           subst ea_
           subst ec_
           clear en_
           have p185 : 0 ≤ (x5_1 : Int) := od
           have q185 : x5_1 < (l0.length : Int) := od
           obtain ⟨ad185, A185_4, c185_4, A185_5, c185_5, e185, hx185_0, hx185_1, hx185_2, hx185_3, hx185_4, hx185_5, hx185_6, hl185_4, hi185_4, hl185_5, hi185_5⟩ := at_T115 HR0.out x5_1 p185 q185
           obtain rfl : ad181 = ad185 := (by injection e185)
           have HR185_4 := Aside0.mk hi185_4
           have HC185_4 := Aside0.mk hl185_4
           clear hi185_4 hl185_4
           have HR185_5 := Aside0.mk hi185_5
           have HC185_5 := Aside0.mk hl185_5
           clear hi185_5 hl185_5
           replace p185 := eq_true p185
           replace q185 := eq_true q185
           have ea_ := Option.some.inj (hx181_4.symm.trans hx185_4)
           injection ea_ with ea_ en_ ec_
           subst ea_
           subst ec_
           clear en_
           have ea_ := Option.some.inj (hx181_5.symm.trans hx185_5)
           injection ea_ with ea_ en_ ec_
           subst ea_
           subst ec_
           clear en_
           go_wp2_with (first | ((with_reducible refine gate_callee (f := 35) rfl ?_); refine gl_ (some 60) Try.func35 #[.slice A181_4 ((rd_T115 l0 x5_1).f1.f2.f1).length c181_4, .int .i64 (wrap64 ((wrap64 ((wrap64 ((wrap64 (x1_1 + 1)) + 1)) + 1)) + 1))] (h := ?_); (with_reducible refine (laws_heldByteS.calls k1 _ _ ((rd_T115 l0 x5_1).f1.f2.f1) (wrap64 ((wrap64 ((wrap64 ((wrap64 (x1_1 + 1)) + 1)) + 1)) + 1)) t186 _ ?side1 ?side2 A9.out).mono ?_); (case side1 => repeat (first | exact HR185_4.out | (with_reducible refine Kd.C_alloc ?_ _) | (with_reducible refine Kd.C_drewN ?_ _) | (with_reducible refine Kd.C_drew ?_))); (case side2 => exact HC185_4.out); rintro e w' ⟨rfl, ⟨nd, rfl⟩⟩; refine ⟨_, rfl, ?_⟩; have p187 : 0 ≤ (x5_1 : Int) := od; have q187 : x5_1 < (l0.length : Int) := od; obtain ⟨ad187, A187_4, c187_4, A187_5, c187_5, e187, hx187_0, hx187_1, hx187_2, hx187_3, hx187_4, hx187_5, hx187_6, hl187_4, hi187_4, hl187_5, hi187_5⟩ := at_T115 HR0.out x5_1 p187 q187; obtain rfl : ad181 = ad187 := (by injection e187); have HR187_4 := Aside0.mk hi187_4; have HC187_4 := Aside0.mk hl187_4; clear hi187_4 hl187_4; have HR187_5 := Aside0.mk hi187_5; have HC187_5 := Aside0.mk hl187_5; clear hi187_5 hl187_5; replace p187 := eq_true p187; replace q187 := eq_true q187; have ea_ := Option.some.inj (hx181_4.symm.trans hx187_4); injection ea_ with ea_ en_ ec_; subst ea_; subst ec_; clear en_; have ea_ := Option.some.inj (hx181_5.symm.trans hx187_5); injection ea_ with ea_ en_ ec_; subst ea_; subst ec_; clear en_) | ((with_reducible refine gate_callee (f := 35) rfl ?_); refine gl_ (some 71) Try.func35 #[.slice A181_5 ((rd_T115 l0 x5_1).f1.f2.f2).length c181_5, .int .i64 t186] (h := ?_); (with_reducible refine (laws_heldByteS.calls k1 _ _ ((rd_T115 l0 x5_1).f1.f2.f2) t186 t188 _ ?side1 ?side2 A11.out).mono ?_); (case side1 => repeat (first | exact HR187_5.out | (with_reducible refine Kd.C_alloc ?_ _) | (with_reducible refine Kd.C_drewN ?_ _) | (with_reducible refine Kd.C_drew ?_))); (case side2 => exact HC187_5.out); rintro e w' ⟨rfl, ⟨nd, rfl⟩⟩; refine ⟨_, rfl, ?_⟩))
           go_ret
           exact ⟨by first | rfl | (simp; done) | (simp [*]; done), by repeat (first | exact Drawn0.refl _ | apply Drawn0.step)⟩
          ·rw [if_neg c12] at H
           have c12b0 : decide (t188 < 0) = false := decide_eq_false c12
           clear c12
           by_cases c13 : ((rd_T115 l0 x5_1).f1.f2.f3) = t188
           ·rw [if_pos c13] at H
            have c13b0 : (((rd_T115 l0 x5_1).f1.f2.f3) == t188) = true := beq_iff_eq.mpr c13
            have c13b1 : (((rd_T115 l0 x5_1).f1.f2.f3) != t188) = false := bne_eq_false_iff_eq.mpr c13
            clear c13
            have H' := Aside0.mk H
            clear H
            have p181 : 0 ≤ (x5_1 : Int) := od
            have q181 : x5_1 < (l0.length : Int) := od
            obtain ⟨ad181, A181_4, c181_4, A181_5, c181_5, e181, hx181_0, hx181_1, hx181_2, hx181_3, hx181_4, hx181_5, hx181_6, hl181_4, hi181_4, hl181_5, hi181_5⟩ := at_T115 HR0.out x5_1 p181 q181
            cases e181
            have HR181_4 := Aside0.mk hi181_4
            have HC181_4 := Aside0.mk hl181_4
            clear hi181_4 hl181_4
            have HR181_5 := Aside0.mk hi181_5
            have HC181_5 := Aside0.mk hl181_5
            clear hi181_5 hl181_5
            replace p181 := eq_true p181
            replace q181 := eq_true q181
            have p182 : 0 ≤ (x5_1 : Int) := od
            have q182 : x5_1 < (l0.length : Int) := od
            obtain ⟨ad182, A182_4, c182_4, A182_5, c182_5, e182, hx182_0, hx182_1, hx182_2, hx182_3, hx182_4, hx182_5, hx182_6, hl182_4, hi182_4, hl182_5, hi182_5⟩ := at_T115 HR0.out x5_1 p182 q182
            obtain rfl : ad181 = ad182 := (by injection e182)
            have HR182_4 := Aside0.mk hi182_4
            have HC182_4 := Aside0.mk hl182_4
            clear hi182_4 hl182_4
            have HR182_5 := Aside0.mk hi182_5
            have HC182_5 := Aside0.mk hl182_5
            clear hi182_5 hl182_5
            replace p182 := eq_true p182
            replace q182 := eq_true q182
            have ea_ := Option.some.inj (hx181_4.symm.trans hx182_4)
            injection ea_ with ea_ en_ ec_
            subst ea_
            subst ec_
            clear en_
            have ea_ := Option.some.inj (hx181_5.symm.trans hx182_5)
            injection ea_ with ea_ en_ ec_
            subst ea_
            subst ec_
            clear en_
            have p183 : 0 ≤ (x5_1 : Int) := od
            have q183 : x5_1 < (l0.length : Int) := od
            obtain ⟨ad183, A183_4, c183_4, A183_5, c183_5, e183, hx183_0, hx183_1, hx183_2, hx183_3, hx183_4, hx183_5, hx183_6, hl183_4, hi183_4, hl183_5, hi183_5⟩ := at_T115 HR0.out x5_1 p183 q183
            obtain rfl : ad181 = ad183 := (by injection e183)
            have HR183_4 := Aside0.mk hi183_4
            have HC183_4 := Aside0.mk hl183_4
            clear hi183_4 hl183_4
            have HR183_5 := Aside0.mk hi183_5
            have HC183_5 := Aside0.mk hl183_5
            clear hi183_5 hl183_5
            replace p183 := eq_true p183
            replace q183 := eq_true q183
            have ea_ := Option.some.inj (hx181_4.symm.trans hx183_4)
            injection ea_ with ea_ en_ ec_
            subst ea_
            subst ec_
            clear en_
            have ea_ := Option.some.inj (hx181_5.symm.trans hx183_5)
            injection ea_ with ea_ en_ ec_
            subst ea_
            subst ec_
            clear en_
            have p184 : 0 ≤ (x5_1 : Int) := od
            have q184 : x5_1 < (l0.length : Int) := od
            obtain ⟨ad184, A184_4, c184_4, A184_5, c184_5, e184, hx184_0, hx184_1, hx184_2, hx184_3, hx184_4, hx184_5, hx184_6, hl184_4, hi184_4, hl184_5, hi184_5⟩ := at_T115 HR0.out x5_1 p184 q184
            obtain rfl : ad181 = ad184 := (by injection e184)
            have HR184_4 := Aside0.mk hi184_4
            have HC184_4 := Aside0.mk hl184_4
            clear hi184_4 hl184_4
            have HR184_5 := Aside0.mk hi184_5
            have HC184_5 := Aside0.mk hl184_5
            clear hi184_5 hl184_5
            replace p184 := eq_true p184
            replace q184 := eq_true q184
            have ea_ := Option.some.inj (hx181_4.symm.trans hx184_4)
            injection ea_ with ea_ en_ ec_
            subst ea_
            subst ec_
            clear en_
            have ea_ := Option.some.inj (hx181_5.symm.trans hx184_5)
            injection ea_ with ea_ en_ ec_
            subst ea_
            subst ec_
            clear en_
            have p185 : 0 ≤ (x5_1 : Int) := od
            have q185 : x5_1 < (l0.length : Int) := od
            obtain ⟨ad185, A185_4, c185_4, A185_5, c185_5, e185, hx185_0, hx185_1, hx185_2, hx185_3, hx185_4, hx185_5, hx185_6, hl185_4, hi185_4, hl185_5, hi185_5⟩ := at_T115 HR0.out x5_1 p185 q185
            obtain rfl : ad181 = ad185 := (by injection e185)
            have HR185_4 := Aside0.mk hi185_4
            have HC185_4 := Aside0.mk hl185_4
            clear hi185_4 hl185_4
            have HR185_5 := Aside0.mk hi185_5
            have HC185_5 := Aside0.mk hl185_5
            clear hi185_5 hl185_5
            replace p185 := eq_true p185
            replace q185 := eq_true q185
            have ea_ := Option.some.inj (hx181_4.symm.trans hx185_4)
            injection ea_ with ea_ en_ ec_
            subst ea_
            subst ec_
            clear en_
            have ea_ := Option.some.inj (hx181_5.symm.trans hx185_5)
            injection ea_ with ea_ en_ ec_
            subst ea_
            subst ec_
            clear en_
            go_wp2_with (first | ((with_reducible refine gate_callee (f := 35) rfl ?_); refine gl_ (some 60) Try.func35 #[.slice A181_4 ((rd_T115 l0 x5_1).f1.f2.f1).length c181_4, .int .i64 (wrap64 ((wrap64 ((wrap64 ((wrap64 (x1_1 + 1)) + 1)) + 1)) + 1))] (h := ?_); (with_reducible refine (laws_heldByteS.calls k1 _ _ ((rd_T115 l0 x5_1).f1.f2.f1) (wrap64 ((wrap64 ((wrap64 ((wrap64 (x1_1 + 1)) + 1)) + 1)) + 1)) t186 _ ?side1 ?side2 A9.out).mono ?_); (case side1 => repeat (first | exact HR185_4.out | (with_reducible refine Kd.C_alloc ?_ _) | (with_reducible refine Kd.C_drewN ?_ _) | (with_reducible refine Kd.C_drew ?_))); (case side2 => exact HC185_4.out); rintro e w' ⟨rfl, ⟨nd, rfl⟩⟩; refine ⟨_, rfl, ?_⟩; have p187 : 0 ≤ (x5_1 : Int) := od; have q187 : x5_1 < (l0.length : Int) := od; obtain ⟨ad187, A187_4, c187_4, A187_5, c187_5, e187, hx187_0, hx187_1, hx187_2, hx187_3, hx187_4, hx187_5, hx187_6, hl187_4, hi187_4, hl187_5, hi187_5⟩ := at_T115 HR0.out x5_1 p187 q187; obtain rfl : ad181 = ad187 := (by injection e187); have HR187_4 := Aside0.mk hi187_4; have HC187_4 := Aside0.mk hl187_4; clear hi187_4 hl187_4; have HR187_5 := Aside0.mk hi187_5; have HC187_5 := Aside0.mk hl187_5; clear hi187_5 hl187_5; replace p187 := eq_true p187; replace q187 := eq_true q187; have ea_ := Option.some.inj (hx181_4.symm.trans hx187_4); injection ea_ with ea_ en_ ec_; subst ea_; subst ec_; clear en_; have ea_ := Option.some.inj (hx181_5.symm.trans hx187_5); injection ea_ with ea_ en_ ec_; subst ea_; subst ec_; clear en_) | ((with_reducible refine gate_callee (f := 35) rfl ?_); refine gl_ (some 71) Try.func35 #[.slice A181_5 ((rd_T115 l0 x5_1).f1.f2.f2).length c181_5, .int .i64 t186] (h := ?_); (with_reducible refine (laws_heldByteS.calls k1 _ _ ((rd_T115 l0 x5_1).f1.f2.f2) t186 t188 _ ?side1 ?side2 A11.out).mono ?_); (case side1 => repeat (first | exact HR187_5.out | (with_reducible refine Kd.C_alloc ?_ _) | (with_reducible refine Kd.C_drewN ?_ _) | (with_reducible refine Kd.C_drew ?_))); (case side2 => exact HC187_5.out); rintro e w' ⟨rfl, ⟨nd, rfl⟩⟩; refine ⟨_, rfl, ?_⟩; have p189 : 0 ≤ (x5_1 : Int) := od; have q189 : x5_1 < (l0.length : Int) := od; obtain ⟨ad189, A189_4, c189_4, A189_5, c189_5, e189, hx189_0, hx189_1, hx189_2, hx189_3, hx189_4, hx189_5, hx189_6, hl189_4, hi189_4, hl189_5, hi189_5⟩ := at_T115 HR0.out x5_1 p189 q189; obtain rfl : ad181 = ad189 := (by injection e189); have HR189_4 := Aside0.mk hi189_4; have HC189_4 := Aside0.mk hl189_4; clear hi189_4 hl189_4; have HR189_5 := Aside0.mk hi189_5; have HC189_5 := Aside0.mk hl189_5; clear hi189_5 hl189_5; replace p189 := eq_true p189; replace q189 := eq_true q189; have ea_ := Option.some.inj (hx181_4.symm.trans hx189_4); injection ea_ with ea_ en_ ec_; subst ea_; subst ec_; clear en_; have ea_ := Option.some.inj (hx181_5.symm.trans hx189_5); injection ea_ with ea_ en_ ec_; subst ea_; subst ec_; clear en_))
            go_roundg k1
            case measure => have := HK1.out; omega
            case rel => exact ⟨(wrap64 (t188 + 1)), (wrap64 (x5_1 + 1)), (by first | rfl | (simp; done) | (simp [*]; done)), (by first | rfl | (simp; done) | (simp [*]; done)), H', ⟨by have := HK1.out; omega⟩, by repeat (first | exact Drawn0.refl _ | apply Drawn0.step)⟩
           ·rw [if_neg c13] at H
            have c13b0 : (((rd_T115 l0 x5_1).f1.f2.f3) == t188) = false := beq_eq_false_iff_ne.mpr c13
            have c13b1 : (((rd_T115 l0 x5_1).f1.f2.f3) != t188) = true := bne_iff_ne.mpr c13
            obtain rfl := Option.some.inj H
            have p181 : 0 ≤ (x5_1 : Int) := od
            have q181 : x5_1 < (l0.length : Int) := od
            obtain ⟨ad181, A181_4, c181_4, A181_5, c181_5, e181, hx181_0, hx181_1, hx181_2, hx181_3, hx181_4, hx181_5, hx181_6, hl181_4, hi181_4, hl181_5, hi181_5⟩ := at_T115 HR0.out x5_1 p181 q181
            cases e181
            have HR181_4 := Aside0.mk hi181_4
            have HC181_4 := Aside0.mk hl181_4
            clear hi181_4 hl181_4
            have HR181_5 := Aside0.mk hi181_5
            have HC181_5 := Aside0.mk hl181_5
            clear hi181_5 hl181_5
            replace p181 := eq_true p181
            replace q181 := eq_true q181
            have p182 : 0 ≤ (x5_1 : Int) := od
            have q182 : x5_1 < (l0.length : Int) := od
            obtain ⟨ad182, A182_4, c182_4, A182_5, c182_5, e182, hx182_0, hx182_1, hx182_2, hx182_3, hx182_4, hx182_5, hx182_6, hl182_4, hi182_4, hl182_5, hi182_5⟩ := at_T115 HR0.out x5_1 p182 q182
            obtain rfl : ad181 = ad182 := (by injection e182)
            have HR182_4 := Aside0.mk hi182_4
            have HC182_4 := Aside0.mk hl182_4
            clear hi182_4 hl182_4
            have HR182_5 := Aside0.mk hi182_5
            have HC182_5 := Aside0.mk hl182_5
            clear hi182_5 hl182_5
            replace p182 := eq_true p182
            replace q182 := eq_true q182
            have ea_ := Option.some.inj (hx181_4.symm.trans hx182_4)
            injection ea_ with ea_ en_ ec_
            subst ea_
            subst ec_
            clear en_
            have ea_ := Option.some.inj (hx181_5.symm.trans hx182_5)
            injection ea_ with ea_ en_ ec_
            subst ea_
            subst ec_
            clear en_
            have p183 : 0 ≤ (x5_1 : Int) := od
            have q183 : x5_1 < (l0.length : Int) := od
            obtain ⟨ad183, A183_4, c183_4, A183_5, c183_5, e183, hx183_0, hx183_1, hx183_2, hx183_3, hx183_4, hx183_5, hx183_6, hl183_4, hi183_4, hl183_5, hi183_5⟩ := at_T115 HR0.out x5_1 p183 q183
            obtain rfl : ad181 = ad183 := (by injection e183)
            have HR183_4 := Aside0.mk hi183_4
            have HC183_4 := Aside0.mk hl183_4
            clear hi183_4 hl183_4
            have HR183_5 := Aside0.mk hi183_5
            have HC183_5 := Aside0.mk hl183_5
            clear hi183_5 hl183_5
            replace p183 := eq_true p183
            replace q183 := eq_true q183
            have ea_ := Option.some.inj (hx181_4.symm.trans hx183_4)
            injection ea_ with ea_ en_ ec_
            subst ea_
            subst ec_
            clear en_
            have ea_ := Option.some.inj (hx181_5.symm.trans hx183_5)
            injection ea_ with ea_ en_ ec_
            subst ea_
            subst ec_
            clear en_
            have p184 : 0 ≤ (x5_1 : Int) := od
            have q184 : x5_1 < (l0.length : Int) := od
            obtain ⟨ad184, A184_4, c184_4, A184_5, c184_5, e184, hx184_0, hx184_1, hx184_2, hx184_3, hx184_4, hx184_5, hx184_6, hl184_4, hi184_4, hl184_5, hi184_5⟩ := at_T115 HR0.out x5_1 p184 q184
            obtain rfl : ad181 = ad184 := (by injection e184)
            have HR184_4 := Aside0.mk hi184_4
            have HC184_4 := Aside0.mk hl184_4
            clear hi184_4 hl184_4
            have HR184_5 := Aside0.mk hi184_5
            have HC184_5 := Aside0.mk hl184_5
            clear hi184_5 hl184_5
            replace p184 := eq_true p184
            replace q184 := eq_true q184
            have ea_ := Option.some.inj (hx181_4.symm.trans hx184_4)
            injection ea_ with ea_ en_ ec_
            subst ea_
            subst ec_
            clear en_
            have ea_ := Option.some.inj (hx181_5.symm.trans hx184_5)
            injection ea_ with ea_ en_ ec_
            subst ea_
            subst ec_
            clear en_
            have p185 : 0 ≤ (x5_1 : Int) := od
            have q185 : x5_1 < (l0.length : Int) := od
            obtain ⟨ad185, A185_4, c185_4, A185_5, c185_5, e185, hx185_0, hx185_1, hx185_2, hx185_3, hx185_4, hx185_5, hx185_6, hl185_4, hi185_4, hl185_5, hi185_5⟩ := at_T115 HR0.out x5_1 p185 q185
            obtain rfl : ad181 = ad185 := (by injection e185)
            have HR185_4 := Aside0.mk hi185_4
            have HC185_4 := Aside0.mk hl185_4
            clear hi185_4 hl185_4
            have HR185_5 := Aside0.mk hi185_5
            have HC185_5 := Aside0.mk hl185_5
            clear hi185_5 hl185_5
            replace p185 := eq_true p185
            replace q185 := eq_true q185
            have ea_ := Option.some.inj (hx181_4.symm.trans hx185_4)
            injection ea_ with ea_ en_ ec_
            subst ea_
            subst ec_
            clear en_
            have ea_ := Option.some.inj (hx181_5.symm.trans hx185_5)
            injection ea_ with ea_ en_ ec_
            subst ea_
            subst ec_
            clear en_
            go_wp2_with (first | ((with_reducible refine gate_callee (f := 35) rfl ?_); refine gl_ (some 60) Try.func35 #[.slice A181_4 ((rd_T115 l0 x5_1).f1.f2.f1).length c181_4, .int .i64 (wrap64 ((wrap64 ((wrap64 ((wrap64 (x1_1 + 1)) + 1)) + 1)) + 1))] (h := ?_); (with_reducible refine (laws_heldByteS.calls k1 _ _ ((rd_T115 l0 x5_1).f1.f2.f1) (wrap64 ((wrap64 ((wrap64 ((wrap64 (x1_1 + 1)) + 1)) + 1)) + 1)) t186 _ ?side1 ?side2 A9.out).mono ?_); (case side1 => repeat (first | exact HR185_4.out | (with_reducible refine Kd.C_alloc ?_ _) | (with_reducible refine Kd.C_drewN ?_ _) | (with_reducible refine Kd.C_drew ?_))); (case side2 => exact HC185_4.out); rintro e w' ⟨rfl, ⟨nd, rfl⟩⟩; refine ⟨_, rfl, ?_⟩; have p187 : 0 ≤ (x5_1 : Int) := od; have q187 : x5_1 < (l0.length : Int) := od; obtain ⟨ad187, A187_4, c187_4, A187_5, c187_5, e187, hx187_0, hx187_1, hx187_2, hx187_3, hx187_4, hx187_5, hx187_6, hl187_4, hi187_4, hl187_5, hi187_5⟩ := at_T115 HR0.out x5_1 p187 q187; obtain rfl : ad181 = ad187 := (by injection e187); have HR187_4 := Aside0.mk hi187_4; have HC187_4 := Aside0.mk hl187_4; clear hi187_4 hl187_4; have HR187_5 := Aside0.mk hi187_5; have HC187_5 := Aside0.mk hl187_5; clear hi187_5 hl187_5; replace p187 := eq_true p187; replace q187 := eq_true q187; have ea_ := Option.some.inj (hx181_4.symm.trans hx187_4); injection ea_ with ea_ en_ ec_; subst ea_; subst ec_; clear en_; have ea_ := Option.some.inj (hx181_5.symm.trans hx187_5); injection ea_ with ea_ en_ ec_; subst ea_; subst ec_; clear en_) | ((with_reducible refine gate_callee (f := 35) rfl ?_); refine gl_ (some 71) Try.func35 #[.slice A181_5 ((rd_T115 l0 x5_1).f1.f2.f2).length c181_5, .int .i64 t186] (h := ?_); (with_reducible refine (laws_heldByteS.calls k1 _ _ ((rd_T115 l0 x5_1).f1.f2.f2) t186 t188 _ ?side1 ?side2 A11.out).mono ?_); (case side1 => repeat (first | exact HR187_5.out | (with_reducible refine Kd.C_alloc ?_ _) | (with_reducible refine Kd.C_drewN ?_ _) | (with_reducible refine Kd.C_drew ?_))); (case side2 => exact HC187_5.out); rintro e w' ⟨rfl, ⟨nd, rfl⟩⟩; refine ⟨_, rfl, ?_⟩; have p189 : 0 ≤ (x5_1 : Int) := od; have q189 : x5_1 < (l0.length : Int) := od; obtain ⟨ad189, A189_4, c189_4, A189_5, c189_5, e189, hx189_0, hx189_1, hx189_2, hx189_3, hx189_4, hx189_5, hx189_6, hl189_4, hi189_4, hl189_5, hi189_5⟩ := at_T115 HR0.out x5_1 p189 q189; obtain rfl : ad181 = ad189 := (by injection e189); have HR189_4 := Aside0.mk hi189_4; have HC189_4 := Aside0.mk hl189_4; clear hi189_4 hl189_4; have HR189_5 := Aside0.mk hi189_5; have HC189_5 := Aside0.mk hl189_5; clear hi189_5 hl189_5; replace p189 := eq_true p189; replace q189 := eq_true q189; have ea_ := Option.some.inj (hx181_4.symm.trans hx189_4); injection ea_ with ea_ en_ ec_; subst ea_; subst ec_; clear en_; have ea_ := Option.some.inj (hx181_5.symm.trans hx189_5); injection ea_ with ea_ en_ ec_; subst ea_; subst ec_; clear en_))
            go_ret
            exact ⟨by first | rfl | (simp; done) | (simp [*]; done), by repeat (first | exact Drawn0.refl _ | apply Drawn0.step)⟩
        ·rw [if_neg c8] at H
         have c8b0 : (((rd_T115 l0 x5_1).f1.f2.f0) == (wrap64 ((wrap64 ((wrap64 (x1_1 + 1)) + 1)) + 1))) = false := beq_eq_false_iff_ne.mpr c8
         have c8b1 : (((rd_T115 l0 x5_1).f1.f2.f0) != (wrap64 ((wrap64 ((wrap64 (x1_1 + 1)) + 1)) + 1))) = true := bne_iff_ne.mpr c8
         obtain rfl := Option.some.inj H
         have p181 : 0 ≤ (x5_1 : Int) := od
         have q181 : x5_1 < (l0.length : Int) := od
         obtain ⟨ad181, A181_4, c181_4, A181_5, c181_5, e181, hx181_0, hx181_1, hx181_2, hx181_3, hx181_4, hx181_5, hx181_6, hl181_4, hi181_4, hl181_5, hi181_5⟩ := at_T115 HR0.out x5_1 p181 q181
         cases e181
         have HR181_4 := Aside0.mk hi181_4
         have HC181_4 := Aside0.mk hl181_4
         clear hi181_4 hl181_4
         have HR181_5 := Aside0.mk hi181_5
         have HC181_5 := Aside0.mk hl181_5
         clear hi181_5 hl181_5
         replace p181 := eq_true p181
         replace q181 := eq_true q181
         have p182 : 0 ≤ (x5_1 : Int) := od
         have q182 : x5_1 < (l0.length : Int) := od
         obtain ⟨ad182, A182_4, c182_4, A182_5, c182_5, e182, hx182_0, hx182_1, hx182_2, hx182_3, hx182_4, hx182_5, hx182_6, hl182_4, hi182_4, hl182_5, hi182_5⟩ := at_T115 HR0.out x5_1 p182 q182
         obtain rfl : ad181 = ad182 := (by injection e182)
         have HR182_4 := Aside0.mk hi182_4
         have HC182_4 := Aside0.mk hl182_4
         clear hi182_4 hl182_4
         have HR182_5 := Aside0.mk hi182_5
         have HC182_5 := Aside0.mk hl182_5
         clear hi182_5 hl182_5
         replace p182 := eq_true p182
         replace q182 := eq_true q182
         have ea_ := Option.some.inj (hx181_4.symm.trans hx182_4)
         injection ea_ with ea_ en_ ec_
         subst ea_
         subst ec_
         clear en_
         have ea_ := Option.some.inj (hx181_5.symm.trans hx182_5)
         injection ea_ with ea_ en_ ec_
         subst ea_
         subst ec_
         clear en_
         have p183 : 0 ≤ (x5_1 : Int) := od
         have q183 : x5_1 < (l0.length : Int) := od
         obtain ⟨ad183, A183_4, c183_4, A183_5, c183_5, e183, hx183_0, hx183_1, hx183_2, hx183_3, hx183_4, hx183_5, hx183_6, hl183_4, hi183_4, hl183_5, hi183_5⟩ := at_T115 HR0.out x5_1 p183 q183
         obtain rfl : ad181 = ad183 := (by injection e183)
         have HR183_4 := Aside0.mk hi183_4
         have HC183_4 := Aside0.mk hl183_4
         clear hi183_4 hl183_4
         have HR183_5 := Aside0.mk hi183_5
         have HC183_5 := Aside0.mk hl183_5
         clear hi183_5 hl183_5
         replace p183 := eq_true p183
         replace q183 := eq_true q183
         have ea_ := Option.some.inj (hx181_4.symm.trans hx183_4)
         injection ea_ with ea_ en_ ec_
         subst ea_
         subst ec_
         clear en_
         have ea_ := Option.some.inj (hx181_5.symm.trans hx183_5)
         injection ea_ with ea_ en_ ec_
         subst ea_
         subst ec_
         clear en_
         have p184 : 0 ≤ (x5_1 : Int) := od
         have q184 : x5_1 < (l0.length : Int) := od
         obtain ⟨ad184, A184_4, c184_4, A184_5, c184_5, e184, hx184_0, hx184_1, hx184_2, hx184_3, hx184_4, hx184_5, hx184_6, hl184_4, hi184_4, hl184_5, hi184_5⟩ := at_T115 HR0.out x5_1 p184 q184
         obtain rfl : ad181 = ad184 := (by injection e184)
         have HR184_4 := Aside0.mk hi184_4
         have HC184_4 := Aside0.mk hl184_4
         clear hi184_4 hl184_4
         have HR184_5 := Aside0.mk hi184_5
         have HC184_5 := Aside0.mk hl184_5
         clear hi184_5 hl184_5
         replace p184 := eq_true p184
         replace q184 := eq_true q184
         have ea_ := Option.some.inj (hx181_4.symm.trans hx184_4)
         injection ea_ with ea_ en_ ec_
         subst ea_
         subst ec_
         clear en_
         have ea_ := Option.some.inj (hx181_5.symm.trans hx184_5)
         injection ea_ with ea_ en_ ec_
         subst ea_
         subst ec_
         clear en_
         go_wp2
         go_ret
         exact ⟨by first | rfl | (simp; done) | (simp [*]; done), by repeat (first | exact Drawn0.refl _ | apply Drawn0.step)⟩
       ·rw [if_neg c7] at H
        have c7b0 : (((rd_T115 l0 x5_1).f1.f1) == (wrap64 ((wrap64 (x1_1 + 1)) + 1))) = false := beq_eq_false_iff_ne.mpr c7
        have c7b1 : (((rd_T115 l0 x5_1).f1.f1) != (wrap64 ((wrap64 (x1_1 + 1)) + 1))) = true := bne_iff_ne.mpr c7
        obtain rfl := Option.some.inj H
        have p181 : 0 ≤ (x5_1 : Int) := od
        have q181 : x5_1 < (l0.length : Int) := od
        obtain ⟨ad181, A181_4, c181_4, A181_5, c181_5, e181, hx181_0, hx181_1, hx181_2, hx181_3, hx181_4, hx181_5, hx181_6, hl181_4, hi181_4, hl181_5, hi181_5⟩ := at_T115 HR0.out x5_1 p181 q181
        cases e181
        have HR181_4 := Aside0.mk hi181_4
        have HC181_4 := Aside0.mk hl181_4
        clear hi181_4 hl181_4
        have HR181_5 := Aside0.mk hi181_5
        have HC181_5 := Aside0.mk hl181_5
        clear hi181_5 hl181_5
        replace p181 := eq_true p181
        replace q181 := eq_true q181
        have p182 : 0 ≤ (x5_1 : Int) := od
        have q182 : x5_1 < (l0.length : Int) := od
        obtain ⟨ad182, A182_4, c182_4, A182_5, c182_5, e182, hx182_0, hx182_1, hx182_2, hx182_3, hx182_4, hx182_5, hx182_6, hl182_4, hi182_4, hl182_5, hi182_5⟩ := at_T115 HR0.out x5_1 p182 q182
        obtain rfl : ad181 = ad182 := (by injection e182)
        have HR182_4 := Aside0.mk hi182_4
        have HC182_4 := Aside0.mk hl182_4
        clear hi182_4 hl182_4
        have HR182_5 := Aside0.mk hi182_5
        have HC182_5 := Aside0.mk hl182_5
        clear hi182_5 hl182_5
        replace p182 := eq_true p182
        replace q182 := eq_true q182
        have ea_ := Option.some.inj (hx181_4.symm.trans hx182_4)
        injection ea_ with ea_ en_ ec_
        subst ea_
        subst ec_
        clear en_
        have ea_ := Option.some.inj (hx181_5.symm.trans hx182_5)
        injection ea_ with ea_ en_ ec_
        subst ea_
        subst ec_
        clear en_
        have p183 : 0 ≤ (x5_1 : Int) := od
        have q183 : x5_1 < (l0.length : Int) := od
        obtain ⟨ad183, A183_4, c183_4, A183_5, c183_5, e183, hx183_0, hx183_1, hx183_2, hx183_3, hx183_4, hx183_5, hx183_6, hl183_4, hi183_4, hl183_5, hi183_5⟩ := at_T115 HR0.out x5_1 p183 q183
        obtain rfl : ad181 = ad183 := (by injection e183)
        have HR183_4 := Aside0.mk hi183_4
        have HC183_4 := Aside0.mk hl183_4
        clear hi183_4 hl183_4
        have HR183_5 := Aside0.mk hi183_5
        have HC183_5 := Aside0.mk hl183_5
        clear hi183_5 hl183_5
        replace p183 := eq_true p183
        replace q183 := eq_true q183
        have ea_ := Option.some.inj (hx181_4.symm.trans hx183_4)
        injection ea_ with ea_ en_ ec_
        subst ea_
        subst ec_
        clear en_
        have ea_ := Option.some.inj (hx181_5.symm.trans hx183_5)
        injection ea_ with ea_ en_ ec_
        subst ea_
        subst ec_
        clear en_
        go_wp2
        go_ret
        exact ⟨by first | rfl | (simp; done) | (simp [*]; done), by repeat (first | exact Drawn0.refl _ | apply Drawn0.step)⟩
      ·rw [if_neg c6] at H
       have c6b0 : (((rd_T115 l0 x5_1).f1.f0) == (wrap64 (x1_1 + 1))) = false := beq_eq_false_iff_ne.mpr c6
       have c6b1 : (((rd_T115 l0 x5_1).f1.f0) != (wrap64 (x1_1 + 1))) = true := bne_iff_ne.mpr c6
       obtain rfl := Option.some.inj H
       have p181 : 0 ≤ (x5_1 : Int) := od
       have q181 : x5_1 < (l0.length : Int) := od
       obtain ⟨ad181, A181_4, c181_4, A181_5, c181_5, e181, hx181_0, hx181_1, hx181_2, hx181_3, hx181_4, hx181_5, hx181_6, hl181_4, hi181_4, hl181_5, hi181_5⟩ := at_T115 HR0.out x5_1 p181 q181
       cases e181
       have HR181_4 := Aside0.mk hi181_4
       have HC181_4 := Aside0.mk hl181_4
       clear hi181_4 hl181_4
       have HR181_5 := Aside0.mk hi181_5
       have HC181_5 := Aside0.mk hl181_5
       clear hi181_5 hl181_5
       replace p181 := eq_true p181
       replace q181 := eq_true q181
       have p182 : 0 ≤ (x5_1 : Int) := od
       have q182 : x5_1 < (l0.length : Int) := od
       obtain ⟨ad182, A182_4, c182_4, A182_5, c182_5, e182, hx182_0, hx182_1, hx182_2, hx182_3, hx182_4, hx182_5, hx182_6, hl182_4, hi182_4, hl182_5, hi182_5⟩ := at_T115 HR0.out x5_1 p182 q182
       obtain rfl : ad181 = ad182 := (by injection e182)
       have HR182_4 := Aside0.mk hi182_4
       have HC182_4 := Aside0.mk hl182_4
       clear hi182_4 hl182_4
       have HR182_5 := Aside0.mk hi182_5
       have HC182_5 := Aside0.mk hl182_5
       clear hi182_5 hl182_5
       replace p182 := eq_true p182
       replace q182 := eq_true q182
       have ea_ := Option.some.inj (hx181_4.symm.trans hx182_4)
       injection ea_ with ea_ en_ ec_
       subst ea_
       subst ec_
       clear en_
       have ea_ := Option.some.inj (hx181_5.symm.trans hx182_5)
       injection ea_ with ea_ en_ ec_
       subst ea_
       subst ec_
       clear en_
       go_wp2
       go_ret
       exact ⟨by first | rfl | (simp; done) | (simp [*]; done), by repeat (first | exact Drawn0.refl _ | apply Drawn0.step)⟩
     ·rw [if_neg c5] at H
      have c5b0 : (((rd_T115 l0 x5_1).f0) == x1_1) = false := beq_eq_false_iff_ne.mpr c5
      have c5b1 : (((rd_T115 l0 x5_1).f0) != x1_1) = true := bne_iff_ne.mpr c5
      obtain rfl := Option.some.inj H
      have p181 : 0 ≤ (x5_1 : Int) := od
      have q181 : x5_1 < (l0.length : Int) := od
      obtain ⟨ad181, A181_4, c181_4, A181_5, c181_5, e181, hx181_0, hx181_1, hx181_2, hx181_3, hx181_4, hx181_5, hx181_6, hl181_4, hi181_4, hl181_5, hi181_5⟩ := at_T115 HR0.out x5_1 p181 q181
      cases e181
      have HR181_4 := Aside0.mk hi181_4
      have HC181_4 := Aside0.mk hl181_4
      clear hi181_4 hl181_4
      have HR181_5 := Aside0.mk hi181_5
      have HC181_5 := Aside0.mk hl181_5
      clear hi181_5 hl181_5
      replace p181 := eq_true p181
      replace q181 := eq_true q181
      go_wp2
      go_ret
      exact ⟨by first | rfl | (simp; done) | (simp [*]; done), by repeat (first | exact Drawn0.refl _ | apply Drawn0.step)⟩
    ·rw [if_neg c4] at H
     exact absurd H (by simp)
   ·rw [if_neg c3] at H
    have c3b0 : decide (x5_1 < (l0.length : Int)) = false := decide_eq_false c3
    clear c3
    obtain rfl := Option.some.inj H
    go_wp2
    go_ret
    exact ⟨by first | rfl | (simp; done) | (simp [*]; done), by repeat (first | exact Drawn0.refl _ | apply Drawn0.step)⟩

/-! ### laws_heldBoolS: function 94 -/
def laws_heldBoolS.l0 : Nat → List Bool → Int → Int → Option (Int)
 | 0, _, _, _ => none
 | k + 1, x0, x1, x5 => if x5 < (x0.length : Int) then (if 0 ≤ x5 then (if ((rdOf false x0 x5) != ((Int.tmod x1 3) == 0)) = true then (some (-1)) else (laws_heldBoolS.l0 k x0 (wrap64 (x1 + 1)) (wrap64 (x5 + 1)))) else (none)) else (some x1)
def laws_heldBoolS.f (k : Nat) (l0 : List Bool) (a1 : Int) : Option (Int) := laws_heldBoolS.l0 k l0 a1 0
theorem laws_heldBoolS.mono_l : ∀ k, (∀ y0 y1 y2, LeO (laws_heldBoolS.l0 k y0 y1 y2) (laws_heldBoolS.l0 (k + 1) y0 y1 y2))
 | 0 => fun _ _ _ r h => by simp [laws_heldBoolS.l0] at h
 | k + 1 => by
  have ih0 := laws_heldBoolS.mono_l k
  ·intro y0 y1 y2
   unfold laws_heldBoolS.l0
   repeat' first
   | (with_reducible exact ih0 _ _ _)
   | (with_reducible exact LeO.refl _)
   | (with_reducible exact LeO.none _)
   | (with_reducible refine LeO.ite ?_ ?_)
   | (with_reducible refine LeO.bind ?_ (fun _ => ?_))
   | exact ih0 _ _ _
   | exact LeO.none _
   | refine LeO.ite ?_ ?_
   | refine LeO.bind ?_ (fun _ => ?_)
theorem laws_heldBoolS.mono : ∀ a0 a1 k, LeO (laws_heldBoolS.f k a0 a1) (laws_heldBoolS.f (k + 1) a0 a1) := by
 intro a0 a1 k
 have ih0 := laws_heldBoolS.mono_l k
 unfold laws_heldBoolS.f
 repeat' first
   | (with_reducible exact ih0 _ _ _)
   | (with_reducible exact LeO.refl _)
   | (with_reducible exact LeO.none _)
   | (with_reducible refine LeO.ite ?_ ?_)
   | (with_reducible refine LeO.bind ?_ (fun _ => ?_))
   | exact ih0 _ _ _
   | exact LeO.none _
   | refine LeO.ite ?_ ?_
   | refine LeO.bind ?_ (fun _ => ?_)
set_option maxHeartbeats 8000000 in
set_option maxRecDepth 100000 in
theorem laws_heldBoolS.calls (k : Nat) (A0 : Option Addr) (c0 : Nat) (l0 : List Bool) (a1 : Int) (r : Int) (w : World) (hr0 : Kd.C Kd.bool w A0 l0.length l0) (hc0 : l0.length ≤ c0) (h : laws_heldBoolS.f k l0 a1 = some r) :
  Calls Try.prog 94 #[.slice A0 l0.length c0, .int .i64 a1] w fun e w' => e = .returned (.int .i64 r) ∧ Drawn0 w w' := by
 have HR0 := Aside0.mk hr0
 have HC0 := Aside0.mk hc0
 clear hr0 hc0
 have H : (laws_heldBoolS.l0 k l0 a1 0) = some r := h
 clear h
 have H' := Aside0.mk H
 clear H
 go_enter Try.func94, Try.ntmps94
 go_wp2
 go_loopg [1, 5] k (fun kq v1 v5 w' => ∃ (x1_1 : Int) (x5_1 : Int), v1 = .int .i64 x1_1 ∧ v5 = .int .i64 x5_1 ∧ Aside0 (laws_heldBoolS.l0 kq l0 x1_1 x5_1 = some r) ∧ Aside0 (kq ≤ k) ∧ Drawn0 w w')
 case atStart => exact ⟨(a1), (0), (by first | rfl | (simp; done) | (simp [*]; done)), (by first | rfl | (simp; done) | (simp [*]; done)), H', ⟨Nat.le_refl _⟩, by repeat (first | exact Drawn0.refl _ | apply Drawn0.step)⟩
 case round =>
  clear H'
  try clear p2
  obtain ⟨x1_1, x5_1, rfl, rfl, HA, HK1, ⟨m1, rfl⟩⟩ := hrel
  cases gk with
  | zero => exact absurd HA.out (by simp [laws_heldBoolS.l0])
  | succ k1 =>
   have H := HA.out
   clear HA
   simp only [laws_heldBoolS.l0] at H
   by_cases c3 : x5_1 < (l0.length : Int)
   ·rw [if_pos c3] at H
    have c3b0 : decide (x5_1 < (l0.length : Int)) = true := decide_eq_true c3
    clear c3
    by_cases c4 : 0 ≤ x5_1
    ·rw [if_pos c4] at H
     have c4b0 : decide (0 ≤ x5_1) = true := decide_eq_true c4
     clear c4
     by_cases c5 : ((rdOf false l0 x5_1) != ((Int.tmod x1_1 3) == 0)) = true
     ·rw [if_pos c5] at H
      have c5b0 : ((rdOf false l0 x5_1) != ((Int.tmod x1_1 3) == 0)) = true := c5
      (try (have c5b1 : decide ((rdOf false l0 x5_1) = ((Int.tmod x1_1 3) == 0)) = false := by simpa using c5))
      (try (have c5b2 : ((rdOf false l0 x5_1) == ((Int.tmod x1_1 3) == 0)) = false := by simpa using c5))
      (try (have c5b3 : ¬ ((rdOf false l0 x5_1) = ((Int.tmod x1_1 3) == 0)) := by simpa using c5))
      clear c5
      obtain rfl := Option.some.inj H
      have p190 : 0 ≤ (x5_1 : Int) := od
      have q190 : x5_1 < (l0.length : Int) := od
      obtain ⟨ad190, e190, hx190_0⟩ := Kd.at_bool HR0.out x5_1 p190 q190
      cases e190
      replace p190 := eq_true p190
      replace q190 := eq_true q190
      go_wp2
      go_ret
      exact ⟨by first | rfl | (simp; done) | (simp [*]; done), by repeat (first | exact Drawn0.refl _ | apply Drawn0.step)⟩
     ·rw [if_neg c5] at H
      have c5b0 : ((rdOf false l0 x5_1) != ((Int.tmod x1_1 3) == 0)) = false := by simpa using c5
      (try (have c5b1 : decide ((rdOf false l0 x5_1) = ((Int.tmod x1_1 3) == 0)) = true := by simpa using c5))
      (try (have c5b2 : ((rdOf false l0 x5_1) == ((Int.tmod x1_1 3) == 0)) = true := by simpa using c5))
      clear c5
      have H' := Aside0.mk H
      clear H
      have p190 : 0 ≤ (x5_1 : Int) := od
      have q190 : x5_1 < (l0.length : Int) := od
      obtain ⟨ad190, e190, hx190_0⟩ := Kd.at_bool HR0.out x5_1 p190 q190
      cases e190
      replace p190 := eq_true p190
      replace q190 := eq_true q190
      go_wp2
      go_roundg k1
      case measure => have := HK1.out; omega
      case rel => exact ⟨(wrap64 (x1_1 + 1)), (wrap64 (x5_1 + 1)), (by first | rfl | (simp; done) | (simp [*]; done)), (by first | rfl | (simp; done) | (simp [*]; done)), H', ⟨by have := HK1.out; omega⟩, by repeat (first | exact Drawn0.refl _ | apply Drawn0.step)⟩
    ·rw [if_neg c4] at H
     exact absurd H (by simp)
   ·rw [if_neg c3] at H
    have c3b0 : decide (x5_1 < (l0.length : Int)) = false := decide_eq_false c3
    clear c3
    obtain rfl := Option.some.inj H
    go_wp2
    go_ret
    exact ⟨by first | rfl | (simp; done) | (simp [*]; done), by repeat (first | exact Drawn0.refl _ | apply Drawn0.step)⟩

end Go.Proofs.Ytoaddpfoecggpaa.PE
