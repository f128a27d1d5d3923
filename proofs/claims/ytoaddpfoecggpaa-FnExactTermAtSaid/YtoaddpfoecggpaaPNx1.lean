-- Written for this claim by the session's program pp.py, out of the kit's print and the seat's translation.
import Derived.Test.YtoaddpfoecggpaaPNx0
namespace Go.Proofs.Ytoaddpfoecggpaa.PN
open Go.RowKit Go.Proofs.YtoaddpfoecggpaaW.PrintWords Go.Proofs.YtoaddpfoecggpaaW.PrintLast Go.Proofs.YtoaddpfoecggpaaW.PrintMore
attribute [local go_sem] max2_int min2_int max_two min_two max_three min_three max_four min_four   -- for this text's walks alone
set_option linter.unusedVariables false
set_option linter.unusedSimpArgs false

/-! ### laws_eqByteS: function 25 -/
def laws_eqByteS.l0 : Nat → List Int → List Int → Int → Option (Bool)
 | 0, _, _, _ => none
 | k + 1, x0, x1, x5 => if x5 < (x0.length : Int) then (if 0 ≤ x5 then (if x5 < (x1.length : Int) then (if (rd x0 x5) = (rd x1 x5) then (laws_eqByteS.l0 k x0 x1 (wrap64 (x5 + 1))) else (some false)) else (none)) else (none)) else (some true)
def laws_eqByteS.f (k : Nat) (l0 : List Int) (l1 : List Int) : Option (Bool) := if (l0.length : Int) = (l1.length : Int) then (laws_eqByteS.l0 k l0 l1 0) else (some false)
set_option maxHeartbeats 8000000 in
set_option maxRecDepth 100000 in
theorem laws_eqByteS.calls (k : Nat) (A0 : Option Addr) (c0 : Nat) (l0 : List Int) (A1 : Option Addr) (c1 : Nat) (l1 : List Int) (r : Bool) (w : World) (hr0 : Kd.C (Kd.int .u8) w A0 l0.length l0) (hc0 : l0.length ≤ c0) (hr1 : Kd.C (Kd.int .u8) w A1 l1.length l1) (hc1 : l1.length ≤ c1) (h : laws_eqByteS.f k l0 l1 = some r) :
  Calls Try.prog 25 #[.slice A0 l0.length c0, .slice A1 l1.length c1] w fun e w' => e = .returned (.bool r) ∧ Drawn0 w w' := by
 have HR0 := Aside0.mk hr0
 have HC0 := Aside0.mk hc0
 clear hr0 hc0
 have HR1 := Aside0.mk hr1
 have HC1 := Aside0.mk hc1
 clear hr1 hc1
 have H : (if (l0.length : Int) = (l1.length : Int) then (laws_eqByteS.l0 k l0 l1 0) else (some false)) = some r := h
 clear h
 by_cases c3 : (l0.length : Int) = (l1.length : Int)
 ·rw [if_pos c3] at H
  have c3b0 : ((l0.length : Int) == (l1.length : Int)) = true := beq_iff_eq.mpr c3
  have c3b1 : ((l0.length : Int) != (l1.length : Int)) = false := bne_eq_false_iff_eq.mpr c3
  have c3b2 : (l0.length == l1.length) = true := by first | simpa using c3 | (simp at c3 ⊢; omega)
  clear c3
  have H' := Aside0.mk H
  clear H
  go_enter Try.func25, Try.ntmps25
  go_wp2
  repeat (go_quiet (fail); try go_wp2)
  go_loopg [5] k (fun kq v5 w' => ∃ (x5_1 : Int), v5 = .int .i64 x5_1 ∧ Aside0 (laws_eqByteS.l0 kq l0 l1 x5_1 = some r) ∧ Aside0 (kq ≤ k) ∧ Drawn0 w w')
  case atStart => exact ⟨(0), (by first | rfl | (simp; done) | (simp [*]; done)), H', ⟨Nat.le_refl _⟩, by repeat (first | exact Drawn0.refl _ | apply Drawn0.step)⟩
  case round =>
   clear H'
   try clear c1; try clear c2; try clear p2; try clear c3; try clear c3b0; try clear c3b1; try clear c3b2
   obtain ⟨x5_1, rfl, HA, HK1, ⟨m1, rfl⟩⟩ := hrel
   cases gk with
   | zero => exact absurd HA.out (by simp [laws_eqByteS.l0])
   | succ k1 =>
    have H := HA.out
    clear HA
    simp only [laws_eqByteS.l0] at H
    by_cases c4 : x5_1 < (l0.length : Int)
    ·rw [if_pos c4] at H
     have c4b0 : decide (x5_1 < (l0.length : Int)) = true := decide_eq_true c4
     clear c4
     by_cases c5 : 0 ≤ x5_1
     ·rw [if_pos c5] at H
      have c5b0 : decide (0 ≤ x5_1) = true := decide_eq_true c5
      clear c5
      by_cases c6 : x5_1 < (l1.length : Int)
      ·rw [if_pos c6] at H
       have c6b0 : decide (x5_1 < (l1.length : Int)) = true := decide_eq_true c6
       clear c6
       by_cases c7 : (rd l0 x5_1) = (rd l1 x5_1)
       ·rw [if_pos c7] at H
        have c7b0 : ((rd l0 x5_1) == (rd l1 x5_1)) = true := beq_iff_eq.mpr c7
        have c7b1 : ((rd l0 x5_1) != (rd l1 x5_1)) = false := bne_eq_false_iff_eq.mpr c7
        clear c7
        have H' := Aside0.mk H
        clear H
        have p101 : 0 ≤ (x5_1 : Int) := od
        have q101 : x5_1 < (l0.length : Int) := od
        obtain ⟨ad101, e101, hx101_0⟩ := Kd.at_int HR0.out x5_1 p101 q101
        cases e101
        replace p101 := eq_true p101
        replace q101 := eq_true q101
        have p102 : 0 ≤ (x5_1 : Int) := od
        have q102 : x5_1 < (l1.length : Int) := od
        obtain ⟨ad102, e102, hx102_0⟩ := Kd.at_int HR1.out x5_1 p102 q102
        cases e102
        replace p102 := eq_true p102
        replace q102 := eq_true q102
        go_wp2
        repeat (go_quiet (fail); try go_wp2)
        go_roundg k1
        case measure => have := HK1.out; omega
        case rel => exact ⟨(wrap64 (x5_1 + 1)), (by first | rfl | (simp; done) | (simp [*]; done)), H', ⟨by have := HK1.out; omega⟩, by repeat (first | exact Drawn0.refl _ | apply Drawn0.step)⟩
       ·rw [if_neg c7] at H
        have c7b0 : ((rd l0 x5_1) == (rd l1 x5_1)) = false := beq_eq_false_iff_ne.mpr c7
        have c7b1 : ((rd l0 x5_1) != (rd l1 x5_1)) = true := bne_iff_ne.mpr c7
        obtain rfl := Option.some.inj H
        have p101 : 0 ≤ (x5_1 : Int) := od
        have q101 : x5_1 < (l0.length : Int) := od
        obtain ⟨ad101, e101, hx101_0⟩ := Kd.at_int HR0.out x5_1 p101 q101
        cases e101
        replace p101 := eq_true p101
        replace q101 := eq_true q101
        have p102 : 0 ≤ (x5_1 : Int) := od
        have q102 : x5_1 < (l1.length : Int) := od
        obtain ⟨ad102, e102, hx102_0⟩ := Kd.at_int HR1.out x5_1 p102 q102
        cases e102
        replace p102 := eq_true p102
        replace q102 := eq_true q102
        go_wp2
        repeat (go_quiet (fail); try go_wp2)
        go_ret
        exact ⟨by first | rfl | (simp; done) | (simp [*]; done), by repeat (first | exact Drawn0.refl _ | apply Drawn0.step)⟩
      ·rw [if_neg c6] at H
       exact absurd H (by simp)
     ·rw [if_neg c5] at H
      exact absurd H (by simp)
    ·rw [if_neg c4] at H
     have c4b0 : decide (x5_1 < (l0.length : Int)) = false := decide_eq_false c4
     clear c4
     obtain rfl := Option.some.inj H
     go_wp2
     repeat (go_quiet (fail); try go_wp2)
     go_ret
     exact ⟨by first | rfl | (simp; done) | (simp [*]; done), by repeat (first | exact Drawn0.refl _ | apply Drawn0.step)⟩
 ·rw [if_neg c3] at H
  have c3b0 : ((l0.length : Int) == (l1.length : Int)) = false := beq_eq_false_iff_ne.mpr c3
  have c3b1 : ((l0.length : Int) != (l1.length : Int)) = true := bne_iff_ne.mpr c3
  have c3b2 : (l0.length == l1.length) = false := by first | simpa using c3 | (simp at c3 ⊢; omega)
  obtain rfl := Option.some.inj H
  go_enter Try.func25, Try.ntmps25
  go_wp2
  repeat (go_quiet (fail); try go_wp2)
  go_ret
  exact ⟨by first | rfl | (simp; done) | (simp [*]; done), by repeat (first | exact Drawn0.refl _ | apply Drawn0.step)⟩

/-! ### laws_eqOp: function 143 -/
def laws_eqOp.f (k : Nat) (a0_0 : Int) (l0_1 : List Int) (l0_2 : List Int) (a0_3 : Int) (a1_0 : Int) (l1_1 : List Int) (l1_2 : List Int) (a1_3 : Int) : Option (Bool) := if a0_0 = a1_0 then ((laws_eqByteS.f k l0_1 l1_1).bind fun t105 => (if t105 = true then ((laws_eqByteS.f k l0_2 l1_2).bind fun t106 => (if t106 = true then (if a0_3 = a1_3 then (some true) else (some false)) else (some false))) else (some false))) else (some false)
set_option maxHeartbeats 8000000 in
set_option maxRecDepth 100000 in
theorem laws_eqOp.calls (k : Nat) (a0_0 : Int) (A0_1 : Option Addr) (c0_1 : Nat) (l0_1 : List Int) (A0_2 : Option Addr) (c0_2 : Nat) (l0_2 : List Int) (a0_3 : Int) (a1_0 : Int) (A1_1 : Option Addr) (c1_1 : Nat) (l1_1 : List Int) (A1_2 : Option Addr) (c1_2 : Nat) (l1_2 : List Int) (a1_3 : Int) (r : Bool) (w : World) (hr0_1 : Kd.C (Kd.int .u8) w A0_1 l0_1.length l0_1) (hc0_1 : l0_1.length ≤ c0_1) (hr0_2 : Kd.C (Kd.int .u8) w A0_2 l0_2.length l0_2) (hc0_2 : l0_2.length ≤ c0_2) (hr1_1 : Kd.C (Kd.int .u8) w A1_1 l1_1.length l1_1) (hc1_1 : l1_1.length ≤ c1_1) (hr1_2 : Kd.C (Kd.int .u8) w A1_2 l1_2.length l1_2) (hc1_2 : l1_2.length ≤ c1_2) (h : laws_eqOp.f k a0_0 l0_1 l0_2 a0_3 a1_0 l1_1 l1_2 a1_3 = some r) :
  Calls Try.prog 143 #[.agg #[.int .i64 a0_0, .slice A0_1 l0_1.length c0_1, .slice A0_2 l0_2.length c0_2, .int .i64 a0_3], .agg #[.int .i64 a1_0, .slice A1_1 l1_1.length c1_1, .slice A1_2 l1_2.length c1_2, .int .i64 a1_3]] w fun e w' => e = .returned (.bool r) ∧ Below w.heap.size w w' := by
 have hu111 := Try.underlying111
 have HR0_1 := Aside0.mk hr0_1
 have HC0_1 := Aside0.mk hc0_1
 clear hr0_1 hc0_1
 have HR0_2 := Aside0.mk hr0_2
 have HC0_2 := Aside0.mk hc0_2
 clear hr0_2 hc0_2
 have HR1_1 := Aside0.mk hr1_1
 have HC1_1 := Aside0.mk hc1_1
 clear hr1_1 hc1_1
 have HR1_2 := Aside0.mk hr1_2
 have HC1_2 := Aside0.mk hc1_2
 clear hr1_2 hc1_2
 have HB := Aside0.mk (Below.refl w.heap.size w)
 have H : (if a0_0 = a1_0 then ((laws_eqByteS.f k l0_1 l1_1).bind fun t105 => (if t105 = true then ((laws_eqByteS.f k l0_2 l1_2).bind fun t106 => (if t106 = true then (if a0_3 = a1_3 then (some true) else (some false)) else (some false))) else (some false))) else (some false)) = some r := h
 clear h
 by_cases c3 : a0_0 = a1_0
 ·rw [if_pos c3] at H
  have c3b0 : (a0_0 == a1_0) = true := beq_iff_eq.mpr c3
  have c3b1 : (a0_0 != a1_0) = false := bne_eq_false_iff_eq.mpr c3
  clear c3
  replace H := Option.bind_eq_some_iff.mp H
  obtain ⟨t105, A40, H⟩ := H
  replace H : (if t105 = true then ((laws_eqByteS.f k l0_2 l1_2).bind fun t106 => (if t106 = true then (if a0_3 = a1_3 then (some true) else (some false)) else (some false))) else (some false)) = some r := H
  have A4 := Aside0.mk A40
  clear A40
  by_cases c5 : t105 = true
  ·subst c5
   have H1 : ((laws_eqByteS.f k l0_2 l1_2).bind fun t106 => (if t106 = true then (if a0_3 = a1_3 then (some true) else (some false)) else (some false))) = some r := by rw [if_pos rfl] at H; exact H
   clear H
   have H := H1
   clear H1
   replace H := Option.bind_eq_some_iff.mp H
   obtain ⟨t106, A60, H⟩ := H
   replace H : (if t106 = true then (if a0_3 = a1_3 then (some true) else (some false)) else (some false)) = some r := H
   have A6 := Aside0.mk A60
   clear A60
   by_cases c7 : t106 = true
   ·subst c7
    have H1 : (if a0_3 = a1_3 then (some true) else (some false)) = some r := by rw [if_pos rfl] at H; exact H
    clear H
    have H := H1
    clear H1
    by_cases c8 : a0_3 = a1_3
    ·rw [if_pos c8] at H
     have c8b0 : (a0_3 == a1_3) = true := beq_iff_eq.mpr c8
     have c8b1 : (a0_3 != a1_3) = false := bne_eq_false_iff_eq.mpr c8
     clear c8
     obtain rfl := Option.some.inj H
     go_enter Try.func143, Try.ntmps143
     go_wp2_with (first | ((with_reducible refine gate_dst (N := 2) rfl ?_); refine bx_ 2 #[.int .i64 a0_0, .slice A0_1 l0_1.length c0_1, .slice A0_2 l0_2.length c0_2, .int .i64 a0_3] 111 (h := ?_); intro gb103 hg w9 hbox hb; have BK103 := Aside0.mk (hbox); have GW103 := Aside0.mk ((by rw [hg]; exact (below_size bel) : w.heap.size ≤ gb103)); have GE103 := Aside0.mk ((by rw [hg]; exact (below_size bel) : w.heap.size ≤ gb103)); replace HB := Aside0.mk (below_step bel hb); clear hb hbox hg) | ((with_reducible refine gate_dst (N := 3) rfl ?_); refine bx_ 3 #[.int .i64 a1_0, .slice A1_1 l1_1.length c1_1, .slice A1_2 l1_2.length c1_2, .int .i64 a1_3] 111 (h := ?_); intro gb104 hg w10 hbox hb; have BK104 := Aside0.mk (hbox); have GW104 := Aside0.mk ((by rw [hg]; exact (below_size bel) : w.heap.size ≤ gb104)); have GE104 := Aside0.mk ((by rw [hg]; exact (below_size bel) : w.heap.size ≤ gb104)); have NB103_104 := Aside0.mk ((by rw [hg]; exact Nat.ne_of_lt (blt BK103) : gb103 ≠ gb104)); have NB104_103 := Aside0.mk ((by rw [hg]; exact Nat.ne_of_gt (blt BK103) : gb104 ≠ gb103)); replace BK103 := Aside0.mk (blb BK103 hb); replace HB := Aside0.mk (below_step bel hb); clear hb hbox hg; have hnb11 := NB103_104.out; have hnc11 := NB104_103.out; obtain ⟨hcz12_0, hcz12_1, hcz12_2, hcz12_3, -⟩ := cells_4 BK103.out trivial; obtain ⟨hfz12_0, hfz12_1, hfz12_2, hfz12_3, -⟩ := frz_4 BK103.out; obtain ⟨hcz13_0, hcz13_1, hcz13_2, hcz13_3, -⟩ := cells_4 BK104.out trivial; obtain ⟨hfz13_0, hfz13_1, hfz13_2, hfz13_3, -⟩ := frz_4 BK104.out) | ((with_reducible refine gate_callee (f := 25) rfl ?_); refine gl_ (some 14) Try.func25 #[.slice A0_1 l0_1.length c0_1, .slice A1_1 l1_1.length c1_1] (h := ?_); (with_reducible refine (laws_eqByteS.calls k _ _ l0_1 _ _ l1_1 true _ ?side1 ?side2 ?side3 ?side4 A4.out).mono ?_); (case side1 => exact kcb); (case side2 => exact HC0_1.out); (case side3 => exact kcb); (case side4 => exact HC1_1.out); rintro e w' ⟨rfl, ⟨nd, rfl⟩⟩; refine ⟨_, rfl, ?_⟩) | ((with_reducible refine gate_callee (f := 25) rfl ?_); refine gl_ (some 20) Try.func25 #[.slice A0_2 l0_2.length c0_2, .slice A1_2 l1_2.length c1_2] (h := ?_); (with_reducible refine (laws_eqByteS.calls k _ _ l0_2 _ _ l1_2 true _ ?side1 ?side2 ?side3 ?side4 A6.out).mono ?_); (case side1 => exact kcb); (case side2 => exact HC0_2.out); (case side3 => exact kcb); (case side4 => exact HC1_2.out); rintro e w' ⟨rfl, ⟨nd, rfl⟩⟩; refine ⟨_, rfl, ?_⟩))
     go_ret
     exact ⟨by first | rfl | (simp [errW_none, errW_some] <;> rfl) | (simp [*, errW_none, errW_some] <;> rfl), by repeat (first | (with_reducible first | exact HB.out | apply below_alloc | apply pw_below_drewN | apply below_drew1 | refine below_set ?_ GE103.out | refine below_set ?_ GE104.out) | exact HB.out)⟩
    ·rw [if_neg c8] at H
     have c8b0 : (a0_3 == a1_3) = false := beq_eq_false_iff_ne.mpr c8
     have c8b1 : (a0_3 != a1_3) = true := bne_iff_ne.mpr c8
     obtain rfl := Option.some.inj H
     go_enter Try.func143, Try.ntmps143
     go_wp2_with (first | ((with_reducible refine gate_dst (N := 2) rfl ?_); refine bx_ 2 #[.int .i64 a0_0, .slice A0_1 l0_1.length c0_1, .slice A0_2 l0_2.length c0_2, .int .i64 a0_3] 111 (h := ?_); intro gb103 hg w14 hbox hb; have BK103 := Aside0.mk (hbox); have GW103 := Aside0.mk ((by rw [hg]; exact (below_size bel) : w.heap.size ≤ gb103)); have GE103 := Aside0.mk ((by rw [hg]; exact (below_size bel) : w.heap.size ≤ gb103)); replace HB := Aside0.mk (below_step bel hb); clear hb hbox hg) | ((with_reducible refine gate_dst (N := 3) rfl ?_); refine bx_ 3 #[.int .i64 a1_0, .slice A1_1 l1_1.length c1_1, .slice A1_2 l1_2.length c1_2, .int .i64 a1_3] 111 (h := ?_); intro gb104 hg w15 hbox hb; have BK104 := Aside0.mk (hbox); have GW104 := Aside0.mk ((by rw [hg]; exact (below_size bel) : w.heap.size ≤ gb104)); have GE104 := Aside0.mk ((by rw [hg]; exact (below_size bel) : w.heap.size ≤ gb104)); have NB103_104 := Aside0.mk ((by rw [hg]; exact Nat.ne_of_lt (blt BK103) : gb103 ≠ gb104)); have NB104_103 := Aside0.mk ((by rw [hg]; exact Nat.ne_of_gt (blt BK103) : gb104 ≠ gb103)); replace BK103 := Aside0.mk (blb BK103 hb); replace HB := Aside0.mk (below_step bel hb); clear hb hbox hg; have hnb16 := NB103_104.out; have hnc16 := NB104_103.out; obtain ⟨hcz17_0, hcz17_1, hcz17_2, hcz17_3, -⟩ := cells_4 BK103.out trivial; obtain ⟨hfz17_0, hfz17_1, hfz17_2, hfz17_3, -⟩ := frz_4 BK103.out; obtain ⟨hcz18_0, hcz18_1, hcz18_2, hcz18_3, -⟩ := cells_4 BK104.out trivial; obtain ⟨hfz18_0, hfz18_1, hfz18_2, hfz18_3, -⟩ := frz_4 BK104.out) | ((with_reducible refine gate_callee (f := 25) rfl ?_); refine gl_ (some 14) Try.func25 #[.slice A0_1 l0_1.length c0_1, .slice A1_1 l1_1.length c1_1] (h := ?_); (with_reducible refine (laws_eqByteS.calls k _ _ l0_1 _ _ l1_1 true _ ?side1 ?side2 ?side3 ?side4 A4.out).mono ?_); (case side1 => exact kcb); (case side2 => exact HC0_1.out); (case side3 => exact kcb); (case side4 => exact HC1_1.out); rintro e w' ⟨rfl, ⟨nd, rfl⟩⟩; refine ⟨_, rfl, ?_⟩) | ((with_reducible refine gate_callee (f := 25) rfl ?_); refine gl_ (some 20) Try.func25 #[.slice A0_2 l0_2.length c0_2, .slice A1_2 l1_2.length c1_2] (h := ?_); (with_reducible refine (laws_eqByteS.calls k _ _ l0_2 _ _ l1_2 true _ ?side1 ?side2 ?side3 ?side4 A6.out).mono ?_); (case side1 => exact kcb); (case side2 => exact HC0_2.out); (case side3 => exact kcb); (case side4 => exact HC1_2.out); rintro e w' ⟨rfl, ⟨nd, rfl⟩⟩; refine ⟨_, rfl, ?_⟩))
     go_ret
     exact ⟨by first | rfl | (simp [errW_none, errW_some] <;> rfl) | (simp [*, errW_none, errW_some] <;> rfl), by repeat (first | (with_reducible first | exact HB.out | apply below_alloc | apply pw_below_drewN | apply below_drew1 | refine below_set ?_ GE103.out | refine below_set ?_ GE104.out) | exact HB.out)⟩
   ·replace c7 := Bool.eq_false_iff.mpr c7
    subst c7
    have H1 : (some false) = some r := by rw [if_neg (show ¬ (false = true) by decide)] at H; exact H
    clear H
    have H := H1
    clear H1
    obtain rfl := Option.some.inj H
    go_enter Try.func143, Try.ntmps143
    go_wp2_with (first | ((with_reducible refine gate_dst (N := 2) rfl ?_); refine bx_ 2 #[.int .i64 a0_0, .slice A0_1 l0_1.length c0_1, .slice A0_2 l0_2.length c0_2, .int .i64 a0_3] 111 (h := ?_); intro gb103 hg w19 hbox hb; have BK103 := Aside0.mk (hbox); have GW103 := Aside0.mk ((by rw [hg]; exact (below_size bel) : w.heap.size ≤ gb103)); have GE103 := Aside0.mk ((by rw [hg]; exact (below_size bel) : w.heap.size ≤ gb103)); replace HB := Aside0.mk (below_step bel hb); clear hb hbox hg) | ((with_reducible refine gate_dst (N := 3) rfl ?_); refine bx_ 3 #[.int .i64 a1_0, .slice A1_1 l1_1.length c1_1, .slice A1_2 l1_2.length c1_2, .int .i64 a1_3] 111 (h := ?_); intro gb104 hg w20 hbox hb; have BK104 := Aside0.mk (hbox); have GW104 := Aside0.mk ((by rw [hg]; exact (below_size bel) : w.heap.size ≤ gb104)); have GE104 := Aside0.mk ((by rw [hg]; exact (below_size bel) : w.heap.size ≤ gb104)); have NB103_104 := Aside0.mk ((by rw [hg]; exact Nat.ne_of_lt (blt BK103) : gb103 ≠ gb104)); have NB104_103 := Aside0.mk ((by rw [hg]; exact Nat.ne_of_gt (blt BK103) : gb104 ≠ gb103)); replace BK103 := Aside0.mk (blb BK103 hb); replace HB := Aside0.mk (below_step bel hb); clear hb hbox hg; have hnb21 := NB103_104.out; have hnc21 := NB104_103.out; obtain ⟨hcz22_0, hcz22_1, hcz22_2, hcz22_3, -⟩ := cells_4 BK103.out trivial; obtain ⟨hfz22_0, hfz22_1, hfz22_2, hfz22_3, -⟩ := frz_4 BK103.out; obtain ⟨hcz23_0, hcz23_1, hcz23_2, hcz23_3, -⟩ := cells_4 BK104.out trivial; obtain ⟨hfz23_0, hfz23_1, hfz23_2, hfz23_3, -⟩ := frz_4 BK104.out) | ((with_reducible refine gate_callee (f := 25) rfl ?_); refine gl_ (some 14) Try.func25 #[.slice A0_1 l0_1.length c0_1, .slice A1_1 l1_1.length c1_1] (h := ?_); (with_reducible refine (laws_eqByteS.calls k _ _ l0_1 _ _ l1_1 true _ ?side1 ?side2 ?side3 ?side4 A4.out).mono ?_); (case side1 => exact kcb); (case side2 => exact HC0_1.out); (case side3 => exact kcb); (case side4 => exact HC1_1.out); rintro e w' ⟨rfl, ⟨nd, rfl⟩⟩; refine ⟨_, rfl, ?_⟩) | ((with_reducible refine gate_callee (f := 25) rfl ?_); refine gl_ (some 20) Try.func25 #[.slice A0_2 l0_2.length c0_2, .slice A1_2 l1_2.length c1_2] (h := ?_); (with_reducible refine (laws_eqByteS.calls k _ _ l0_2 _ _ l1_2 false _ ?side1 ?side2 ?side3 ?side4 A6.out).mono ?_); (case side1 => exact kcb); (case side2 => exact HC0_2.out); (case side3 => exact kcb); (case side4 => exact HC1_2.out); rintro e w' ⟨rfl, ⟨nd, rfl⟩⟩; refine ⟨_, rfl, ?_⟩))
    go_ret
    exact ⟨by first | rfl | (simp [errW_none, errW_some] <;> rfl) | (simp [*, errW_none, errW_some] <;> rfl), by repeat (first | (with_reducible first | exact HB.out | apply below_alloc | apply pw_below_drewN | apply below_drew1 | refine below_set ?_ GE103.out | refine below_set ?_ GE104.out) | exact HB.out)⟩
  ·replace c5 := Bool.eq_false_iff.mpr c5
   subst c5
   have H1 : (some false) = some r := by rw [if_neg (show ¬ (false = true) by decide)] at H; exact H
   clear H
   have H := H1
   clear H1
   obtain rfl := Option.some.inj H
   go_enter Try.func143, Try.ntmps143
   go_wp2_with (first | ((with_reducible refine gate_dst (N := 2) rfl ?_); refine bx_ 2 #[.int .i64 a0_0, .slice A0_1 l0_1.length c0_1, .slice A0_2 l0_2.length c0_2, .int .i64 a0_3] 111 (h := ?_); intro gb103 hg w24 hbox hb; have BK103 := Aside0.mk (hbox); have GW103 := Aside0.mk ((by rw [hg]; exact (below_size bel) : w.heap.size ≤ gb103)); have GE103 := Aside0.mk ((by rw [hg]; exact (below_size bel) : w.heap.size ≤ gb103)); replace HB := Aside0.mk (below_step bel hb); clear hb hbox hg) | ((with_reducible refine gate_dst (N := 3) rfl ?_); refine bx_ 3 #[.int .i64 a1_0, .slice A1_1 l1_1.length c1_1, .slice A1_2 l1_2.length c1_2, .int .i64 a1_3] 111 (h := ?_); intro gb104 hg w25 hbox hb; have BK104 := Aside0.mk (hbox); have GW104 := Aside0.mk ((by rw [hg]; exact (below_size bel) : w.heap.size ≤ gb104)); have GE104 := Aside0.mk ((by rw [hg]; exact (below_size bel) : w.heap.size ≤ gb104)); have NB103_104 := Aside0.mk ((by rw [hg]; exact Nat.ne_of_lt (blt BK103) : gb103 ≠ gb104)); have NB104_103 := Aside0.mk ((by rw [hg]; exact Nat.ne_of_gt (blt BK103) : gb104 ≠ gb103)); replace BK103 := Aside0.mk (blb BK103 hb); replace HB := Aside0.mk (below_step bel hb); clear hb hbox hg; have hnb26 := NB103_104.out; have hnc26 := NB104_103.out; obtain ⟨hcz27_0, hcz27_1, hcz27_2, hcz27_3, -⟩ := cells_4 BK103.out trivial; obtain ⟨hfz27_0, hfz27_1, hfz27_2, hfz27_3, -⟩ := frz_4 BK103.out; obtain ⟨hcz28_0, hcz28_1, hcz28_2, hcz28_3, -⟩ := cells_4 BK104.out trivial; obtain ⟨hfz28_0, hfz28_1, hfz28_2, hfz28_3, -⟩ := frz_4 BK104.out) | ((with_reducible refine gate_callee (f := 25) rfl ?_); refine gl_ (some 14) Try.func25 #[.slice A0_1 l0_1.length c0_1, .slice A1_1 l1_1.length c1_1] (h := ?_); (with_reducible refine (laws_eqByteS.calls k _ _ l0_1 _ _ l1_1 false _ ?side1 ?side2 ?side3 ?side4 A4.out).mono ?_); (case side1 => exact kcb); (case side2 => exact HC0_1.out); (case side3 => exact kcb); (case side4 => exact HC1_1.out); rintro e w' ⟨rfl, ⟨nd, rfl⟩⟩; refine ⟨_, rfl, ?_⟩))
   go_ret
   exact ⟨by first | rfl | (simp [errW_none, errW_some] <;> rfl) | (simp [*, errW_none, errW_some] <;> rfl), by repeat (first | (with_reducible first | exact HB.out | apply below_alloc | apply pw_below_drewN | apply below_drew1 | refine below_set ?_ GE103.out | refine below_set ?_ GE104.out) | exact HB.out)⟩
 ·rw [if_neg c3] at H
  have c3b0 : (a0_0 == a1_0) = false := beq_eq_false_iff_ne.mpr c3
  have c3b1 : (a0_0 != a1_0) = true := bne_iff_ne.mpr c3
  obtain rfl := Option.some.inj H
  go_enter Try.func143, Try.ntmps143
  go_wp2_with (first | ((with_reducible refine gate_dst (N := 2) rfl ?_); refine bx_ 2 #[.int .i64 a0_0, .slice A0_1 l0_1.length c0_1, .slice A0_2 l0_2.length c0_2, .int .i64 a0_3] 111 (h := ?_); intro gb103 hg w29 hbox hb; have BK103 := Aside0.mk (hbox); have GW103 := Aside0.mk ((by rw [hg]; exact (below_size bel) : w.heap.size ≤ gb103)); have GE103 := Aside0.mk ((by rw [hg]; exact (below_size bel) : w.heap.size ≤ gb103)); replace HB := Aside0.mk (below_step bel hb); clear hb hbox hg) | ((with_reducible refine gate_dst (N := 3) rfl ?_); refine bx_ 3 #[.int .i64 a1_0, .slice A1_1 l1_1.length c1_1, .slice A1_2 l1_2.length c1_2, .int .i64 a1_3] 111 (h := ?_); intro gb104 hg w30 hbox hb; have BK104 := Aside0.mk (hbox); have GW104 := Aside0.mk ((by rw [hg]; exact (below_size bel) : w.heap.size ≤ gb104)); have GE104 := Aside0.mk ((by rw [hg]; exact (below_size bel) : w.heap.size ≤ gb104)); have NB103_104 := Aside0.mk ((by rw [hg]; exact Nat.ne_of_lt (blt BK103) : gb103 ≠ gb104)); have NB104_103 := Aside0.mk ((by rw [hg]; exact Nat.ne_of_gt (blt BK103) : gb104 ≠ gb103)); replace BK103 := Aside0.mk (blb BK103 hb); replace HB := Aside0.mk (below_step bel hb); clear hb hbox hg; have hnb31 := NB103_104.out; have hnc31 := NB104_103.out; obtain ⟨hcz32_0, hcz32_1, hcz32_2, hcz32_3, -⟩ := cells_4 BK103.out trivial; obtain ⟨hfz32_0, hfz32_1, hfz32_2, hfz32_3, -⟩ := frz_4 BK103.out; obtain ⟨hcz33_0, hcz33_1, hcz33_2, hcz33_3, -⟩ := cells_4 BK104.out trivial; obtain ⟨hfz33_0, hfz33_1, hfz33_2, hfz33_3, -⟩ := frz_4 BK104.out))
  go_ret
  exact ⟨by first | rfl | (simp [errW_none, errW_some] <;> rfl) | (simp [*, errW_none, errW_some] <;> rfl), by repeat (first | (with_reducible first | exact HB.out | apply below_alloc | apply pw_below_drewN | apply below_drew1 | refine below_set ?_ GE103.out | refine below_set ?_ GE104.out) | exact HB.out)⟩

/-! ### laws_eqCmd: function 136 -/
def laws_eqCmd.f (k : Nat) (a0_0 : Int) (a0_1 : Int) (a0_2 : Int) (l0_3 : List Int) (l0_4 : List Int) (a0_5 : Int) (a1_0 : Int) (a1_1 : Int) (a1_2 : Int) (l1_3 : List Int) (l1_4 : List Int) (a1_5 : Int) : Option (Bool) := if a0_0 = a1_0 then (if a0_1 = a1_1 then ((laws_eqOp.f k a0_2 l0_3 l0_4 a0_5 a1_2 l1_3 l1_4 a1_5).bind fun t109 => (if t109 = true then (some true) else (some false))) else (some false)) else (some false)
set_option maxHeartbeats 8000000 in
set_option maxRecDepth 100000 in
theorem laws_eqCmd.calls (k : Nat) (a0_0 : Int) (a0_1 : Int) (a0_2 : Int) (A0_3 : Option Addr) (c0_3 : Nat) (l0_3 : List Int) (A0_4 : Option Addr) (c0_4 : Nat) (l0_4 : List Int) (a0_5 : Int) (a1_0 : Int) (a1_1 : Int) (a1_2 : Int) (A1_3 : Option Addr) (c1_3 : Nat) (l1_3 : List Int) (A1_4 : Option Addr) (c1_4 : Nat) (l1_4 : List Int) (a1_5 : Int) (r : Bool) (w : World) (hr0_3 : Kd.C (Kd.int .u8) w A0_3 l0_3.length l0_3) (hc0_3 : l0_3.length ≤ c0_3) (hr0_4 : Kd.C (Kd.int .u8) w A0_4 l0_4.length l0_4) (hc0_4 : l0_4.length ≤ c0_4) (hr1_3 : Kd.C (Kd.int .u8) w A1_3 l1_3.length l1_3) (hc1_3 : l1_3.length ≤ c1_3) (hr1_4 : Kd.C (Kd.int .u8) w A1_4 l1_4.length l1_4) (hc1_4 : l1_4.length ≤ c1_4) (h : laws_eqCmd.f k a0_0 a0_1 a0_2 l0_3 l0_4 a0_5 a1_0 a1_1 a1_2 l1_3 l1_4 a1_5 = some r) :
  Calls Try.prog 136 #[.agg #[.int .i64 a0_0, .int .i64 a0_1, .int .i64 a0_2, .slice A0_3 l0_3.length c0_3, .slice A0_4 l0_4.length c0_4, .int .i64 a0_5], .agg #[.int .i64 a1_0, .int .i64 a1_1, .int .i64 a1_2, .slice A1_3 l1_3.length c1_3, .slice A1_4 l1_4.length c1_4, .int .i64 a1_5]] w fun e w' => e = .returned (.bool r) ∧ Below w.heap.size w w' := by
 have hu113 := Try.underlying113
 have hu111 := Try.underlying111
 have HR0_3 := Aside0.mk hr0_3
 have HC0_3 := Aside0.mk hc0_3
 clear hr0_3 hc0_3
 have HR0_4 := Aside0.mk hr0_4
 have HC0_4 := Aside0.mk hc0_4
 clear hr0_4 hc0_4
 have HR1_3 := Aside0.mk hr1_3
 have HC1_3 := Aside0.mk hc1_3
 clear hr1_3 hc1_3
 have HR1_4 := Aside0.mk hr1_4
 have HC1_4 := Aside0.mk hc1_4
 clear hr1_4 hc1_4
 have HB := Aside0.mk (Below.refl w.heap.size w)
 have H : (if a0_0 = a1_0 then (if a0_1 = a1_1 then ((laws_eqOp.f k a0_2 l0_3 l0_4 a0_5 a1_2 l1_3 l1_4 a1_5).bind fun t109 => (if t109 = true then (some true) else (some false))) else (some false)) else (some false)) = some r := h
 clear h
 by_cases c3 : a0_0 = a1_0
 ·rw [if_pos c3] at H
  have c3b0 : (a0_0 == a1_0) = true := beq_iff_eq.mpr c3
  have c3b1 : (a0_0 != a1_0) = false := bne_eq_false_iff_eq.mpr c3
  clear c3
  by_cases c4 : a0_1 = a1_1
  ·rw [if_pos c4] at H
   have c4b0 : (a0_1 == a1_1) = true := beq_iff_eq.mpr c4
   have c4b1 : (a0_1 != a1_1) = false := bne_eq_false_iff_eq.mpr c4
   clear c4
   replace H := Option.bind_eq_some_iff.mp H
   obtain ⟨t109, A50, H⟩ := H
   replace H : (if t109 = true then (some true) else (some false)) = some r := H
   have A5 := Aside0.mk A50
   clear A50
   by_cases c6 : t109 = true
   ·subst c6
    have H1 : (some true) = some r := by rw [if_pos rfl] at H; exact H
    clear H
    have H := H1
    clear H1
    obtain rfl := Option.some.inj H
    go_enter Try.func136, Try.ntmps136
    go_wp2_with (first | ((with_reducible refine gate_dst (N := 2) rfl ?_); refine bx_ 2 #[.int .i64 a0_0, .int .i64 a0_1, .int .i64 a0_2, .slice A0_3 l0_3.length c0_3, .slice A0_4 l0_4.length c0_4, .int .i64 a0_5] 113 (h := ?_); intro gb107 hg w7 hbox hb; have BK107 := Aside0.mk (hbox); have GW107 := Aside0.mk ((by rw [hg]; exact (below_size bel) : w.heap.size ≤ gb107)); have GE107 := Aside0.mk ((by rw [hg]; exact (below_size bel) : w.heap.size ≤ gb107)); replace HB := Aside0.mk (below_step bel hb); clear hb hbox hg) | ((with_reducible refine gate_dst (N := 3) rfl ?_); refine bx_ 3 #[.int .i64 a1_0, .int .i64 a1_1, .int .i64 a1_2, .slice A1_3 l1_3.length c1_3, .slice A1_4 l1_4.length c1_4, .int .i64 a1_5] 113 (h := ?_); intro gb108 hg w8 hbox hb; have BK108 := Aside0.mk (hbox); have GW108 := Aside0.mk ((by rw [hg]; exact (below_size bel) : w.heap.size ≤ gb108)); have GE108 := Aside0.mk ((by rw [hg]; exact (below_size bel) : w.heap.size ≤ gb108)); have NB107_108 := Aside0.mk ((by rw [hg]; exact Nat.ne_of_lt (blt BK107) : gb107 ≠ gb108)); have NB108_107 := Aside0.mk ((by rw [hg]; exact Nat.ne_of_gt (blt BK107) : gb108 ≠ gb107)); replace BK107 := Aside0.mk (blb BK107 hb); replace HB := Aside0.mk (below_step bel hb); clear hb hbox hg; have hnb9 := NB107_108.out; have hnc9 := NB108_107.out; obtain ⟨hcz10_0, hcz10_1, hcz10_2, hcz10_3, hcz10_4, hcz10_5, -⟩ := cells_6 BK107.out trivial; obtain ⟨hfz10_0, hfz10_1, hfz10_2, hfz10_3, hfz10_4, hfz10_5, -⟩ := frz_6 BK107.out; obtain ⟨hcz11_0, hcz11_1, hcz11_2, hcz11_3, hcz11_4, hcz11_5, -⟩ := cells_6 BK108.out trivial; obtain ⟨hfz11_0, hfz11_1, hfz11_2, hfz11_3, hfz11_4, hfz11_5, -⟩ := frz_6 BK108.out) | ((with_reducible refine gate_callee (f := 143) rfl ?_); refine gl_ (some 19) Try.func143 #[.agg #[.int .i64 a0_2, .slice A0_3 l0_3.length c0_3, .slice A0_4 l0_4.length c0_4, .int .i64 a0_5], .agg #[.int .i64 a1_2, .slice A1_3 l1_3.length c1_3, .slice A1_4 l1_4.length c1_4, .int .i64 a1_5]] (h := ?_); (with_reducible refine (laws_eqOp.calls k a0_2 _ _ l0_3 _ _ l0_4 a0_5 a1_2 _ _ l1_3 _ _ l1_4 a1_5 true _ ?side1 ?side2 ?side3 ?side4 ?side5 ?side6 ?side7 ?side8 A5.out).mono ?_); (case side1 => exact kcb); (case side2 => exact HC0_3.out); (case side3 => exact kcb); (case side4 => exact HC0_4.out); (case side5 => exact kcb); (case side6 => exact HC1_3.out); (case side7 => exact kcb); (case side8 => exact HC1_4.out); rintro e w12 ⟨rfl, hb⟩; refine ⟨_, rfl, ?_⟩; replace BK107 := Aside0.mk (blb BK107 hb); replace BK108 := Aside0.mk (blb BK108 hb); replace HB := Aside0.mk (below_step bel hb); (try clear hb); (try clear hb2); (try clear hk); (try clear hi)))
    go_ret
    exact ⟨by first | rfl | (simp [errW_none, errW_some] <;> rfl) | (simp [*, errW_none, errW_some] <;> rfl), by repeat (first | (with_reducible first | exact HB.out | apply below_alloc | apply pw_below_drewN | apply below_drew1 | refine below_set ?_ GE107.out | refine below_set ?_ GE108.out) | exact HB.out)⟩
   ·replace c6 := Bool.eq_false_iff.mpr c6
    subst c6
    have H1 : (some false) = some r := by rw [if_neg (show ¬ (false = true) by decide)] at H; exact H
    clear H
    have H := H1
    clear H1
    obtain rfl := Option.some.inj H
    go_enter Try.func136, Try.ntmps136
    go_wp2_with (first | ((with_reducible refine gate_dst (N := 2) rfl ?_); refine bx_ 2 #[.int .i64 a0_0, .int .i64 a0_1, .int .i64 a0_2, .slice A0_3 l0_3.length c0_3, .slice A0_4 l0_4.length c0_4, .int .i64 a0_5] 113 (h := ?_); intro gb107 hg w13 hbox hb; have BK107 := Aside0.mk (hbox); have GW107 := Aside0.mk ((by rw [hg]; exact (below_size bel) : w.heap.size ≤ gb107)); have GE107 := Aside0.mk ((by rw [hg]; exact (below_size bel) : w.heap.size ≤ gb107)); replace HB := Aside0.mk (below_step bel hb); clear hb hbox hg) | ((with_reducible refine gate_dst (N := 3) rfl ?_); refine bx_ 3 #[.int .i64 a1_0, .int .i64 a1_1, .int .i64 a1_2, .slice A1_3 l1_3.length c1_3, .slice A1_4 l1_4.length c1_4, .int .i64 a1_5] 113 (h := ?_); intro gb108 hg w14 hbox hb; have BK108 := Aside0.mk (hbox); have GW108 := Aside0.mk ((by rw [hg]; exact (below_size bel) : w.heap.size ≤ gb108)); have GE108 := Aside0.mk ((by rw [hg]; exact (below_size bel) : w.heap.size ≤ gb108)); have NB107_108 := Aside0.mk ((by rw [hg]; exact Nat.ne_of_lt (blt BK107) : gb107 ≠ gb108)); have NB108_107 := Aside0.mk ((by rw [hg]; exact Nat.ne_of_gt (blt BK107) : gb108 ≠ gb107)); replace BK107 := Aside0.mk (blb BK107 hb); replace HB := Aside0.mk (below_step bel hb); clear hb hbox hg; have hnb15 := NB107_108.out; have hnc15 := NB108_107.out; obtain ⟨hcz16_0, hcz16_1, hcz16_2, hcz16_3, hcz16_4, hcz16_5, -⟩ := cells_6 BK107.out trivial; obtain ⟨hfz16_0, hfz16_1, hfz16_2, hfz16_3, hfz16_4, hfz16_5, -⟩ := frz_6 BK107.out; obtain ⟨hcz17_0, hcz17_1, hcz17_2, hcz17_3, hcz17_4, hcz17_5, -⟩ := cells_6 BK108.out trivial; obtain ⟨hfz17_0, hfz17_1, hfz17_2, hfz17_3, hfz17_4, hfz17_5, -⟩ := frz_6 BK108.out) | ((with_reducible refine gate_callee (f := 143) rfl ?_); refine gl_ (some 19) Try.func143 #[.agg #[.int .i64 a0_2, .slice A0_3 l0_3.length c0_3, .slice A0_4 l0_4.length c0_4, .int .i64 a0_5], .agg #[.int .i64 a1_2, .slice A1_3 l1_3.length c1_3, .slice A1_4 l1_4.length c1_4, .int .i64 a1_5]] (h := ?_); (with_reducible refine (laws_eqOp.calls k a0_2 _ _ l0_3 _ _ l0_4 a0_5 a1_2 _ _ l1_3 _ _ l1_4 a1_5 false _ ?side1 ?side2 ?side3 ?side4 ?side5 ?side6 ?side7 ?side8 A5.out).mono ?_); (case side1 => exact kcb); (case side2 => exact HC0_3.out); (case side3 => exact kcb); (case side4 => exact HC0_4.out); (case side5 => exact kcb); (case side6 => exact HC1_3.out); (case side7 => exact kcb); (case side8 => exact HC1_4.out); rintro e w18 ⟨rfl, hb⟩; refine ⟨_, rfl, ?_⟩; replace BK107 := Aside0.mk (blb BK107 hb); replace BK108 := Aside0.mk (blb BK108 hb); replace HB := Aside0.mk (below_step bel hb); (try clear hb); (try clear hb2); (try clear hk); (try clear hi)))
    go_ret
    exact ⟨by first | rfl | (simp [errW_none, errW_some] <;> rfl) | (simp [*, errW_none, errW_some] <;> rfl), by repeat (first | (with_reducible first | exact HB.out | apply below_alloc | apply pw_below_drewN | apply below_drew1 | refine below_set ?_ GE107.out | refine below_set ?_ GE108.out) | exact HB.out)⟩
  ·rw [if_neg c4] at H
   have c4b0 : (a0_1 == a1_1) = false := beq_eq_false_iff_ne.mpr c4
   have c4b1 : (a0_1 != a1_1) = true := bne_iff_ne.mpr c4
   obtain rfl := Option.some.inj H
   go_enter Try.func136, Try.ntmps136
   go_wp2_with (first | ((with_reducible refine gate_dst (N := 2) rfl ?_); refine bx_ 2 #[.int .i64 a0_0, .int .i64 a0_1, .int .i64 a0_2, .slice A0_3 l0_3.length c0_3, .slice A0_4 l0_4.length c0_4, .int .i64 a0_5] 113 (h := ?_); intro gb107 hg w19 hbox hb; have BK107 := Aside0.mk (hbox); have GW107 := Aside0.mk ((by rw [hg]; exact (below_size bel) : w.heap.size ≤ gb107)); have GE107 := Aside0.mk ((by rw [hg]; exact (below_size bel) : w.heap.size ≤ gb107)); replace HB := Aside0.mk (below_step bel hb); clear hb hbox hg) | ((with_reducible refine gate_dst (N := 3) rfl ?_); refine bx_ 3 #[.int .i64 a1_0, .int .i64 a1_1, .int .i64 a1_2, .slice A1_3 l1_3.length c1_3, .slice A1_4 l1_4.length c1_4, .int .i64 a1_5] 113 (h := ?_); intro gb108 hg w20 hbox hb; have BK108 := Aside0.mk (hbox); have GW108 := Aside0.mk ((by rw [hg]; exact (below_size bel) : w.heap.size ≤ gb108)); have GE108 := Aside0.mk ((by rw [hg]; exact (below_size bel) : w.heap.size ≤ gb108)); have NB107_108 := Aside0.mk ((by rw [hg]; exact Nat.ne_of_lt (blt BK107) : gb107 ≠ gb108)); have NB108_107 := Aside0.mk ((by rw [hg]; exact Nat.ne_of_gt (blt BK107) : gb108 ≠ gb107)); replace BK107 := Aside0.mk (blb BK107 hb); replace HB := Aside0.mk (below_step bel hb); clear hb hbox hg; have hnb21 := NB107_108.out; have hnc21 := NB108_107.out; obtain ⟨hcz22_0, hcz22_1, hcz22_2, hcz22_3, hcz22_4, hcz22_5, -⟩ := cells_6 BK107.out trivial; obtain ⟨hfz22_0, hfz22_1, hfz22_2, hfz22_3, hfz22_4, hfz22_5, -⟩ := frz_6 BK107.out; obtain ⟨hcz23_0, hcz23_1, hcz23_2, hcz23_3, hcz23_4, hcz23_5, -⟩ := cells_6 BK108.out trivial; obtain ⟨hfz23_0, hfz23_1, hfz23_2, hfz23_3, hfz23_4, hfz23_5, -⟩ := frz_6 BK108.out))
   go_ret
   exact ⟨by first | rfl | (simp [errW_none, errW_some] <;> rfl) | (simp [*, errW_none, errW_some] <;> rfl), by repeat (first | (with_reducible first | exact HB.out | apply below_alloc | apply pw_below_drewN | apply below_drew1 | refine below_set ?_ GE107.out | refine below_set ?_ GE108.out) | exact HB.out)⟩
 ·rw [if_neg c3] at H
  have c3b0 : (a0_0 == a1_0) = false := beq_eq_false_iff_ne.mpr c3
  have c3b1 : (a0_0 != a1_0) = true := bne_iff_ne.mpr c3
  obtain rfl := Option.some.inj H
  go_enter Try.func136, Try.ntmps136
  go_wp2_with (first | ((with_reducible refine gate_dst (N := 2) rfl ?_); refine bx_ 2 #[.int .i64 a0_0, .int .i64 a0_1, .int .i64 a0_2, .slice A0_3 l0_3.length c0_3, .slice A0_4 l0_4.length c0_4, .int .i64 a0_5] 113 (h := ?_); intro gb107 hg w24 hbox hb; have BK107 := Aside0.mk (hbox); have GW107 := Aside0.mk ((by rw [hg]; exact (below_size bel) : w.heap.size ≤ gb107)); have GE107 := Aside0.mk ((by rw [hg]; exact (below_size bel) : w.heap.size ≤ gb107)); replace HB := Aside0.mk (below_step bel hb); clear hb hbox hg) | ((with_reducible refine gate_dst (N := 3) rfl ?_); refine bx_ 3 #[.int .i64 a1_0, .int .i64 a1_1, .int .i64 a1_2, .slice A1_3 l1_3.length c1_3, .slice A1_4 l1_4.length c1_4, .int .i64 a1_5] 113 (h := ?_); intro gb108 hg w25 hbox hb; have BK108 := Aside0.mk (hbox); have GW108 := Aside0.mk ((by rw [hg]; exact (below_size bel) : w.heap.size ≤ gb108)); have GE108 := Aside0.mk ((by rw [hg]; exact (below_size bel) : w.heap.size ≤ gb108)); have NB107_108 := Aside0.mk ((by rw [hg]; exact Nat.ne_of_lt (blt BK107) : gb107 ≠ gb108)); have NB108_107 := Aside0.mk ((by rw [hg]; exact Nat.ne_of_gt (blt BK107) : gb108 ≠ gb107)); replace BK107 := Aside0.mk (blb BK107 hb); replace HB := Aside0.mk (below_step bel hb); clear hb hbox hg; have hnb26 := NB107_108.out; have hnc26 := NB108_107.out; obtain ⟨hcz27_0, hcz27_1, hcz27_2, hcz27_3, hcz27_4, hcz27_5, -⟩ := cells_6 BK107.out trivial; obtain ⟨hfz27_0, hfz27_1, hfz27_2, hfz27_3, hfz27_4, hfz27_5, -⟩ := frz_6 BK107.out; obtain ⟨hcz28_0, hcz28_1, hcz28_2, hcz28_3, hcz28_4, hcz28_5, -⟩ := cells_6 BK108.out trivial; obtain ⟨hfz28_0, hfz28_1, hfz28_2, hfz28_3, hfz28_4, hfz28_5, -⟩ := frz_6 BK108.out))
  go_ret
  exact ⟨by first | rfl | (simp [errW_none, errW_some] <;> rfl) | (simp [*, errW_none, errW_some] <;> rfl), by repeat (first | (with_reducible first | exact HB.out | apply below_alloc | apply pw_below_drewN | apply below_drew1 | refine below_set ?_ GE107.out | refine below_set ?_ GE108.out) | exact HB.out)⟩

/-! ### laws_eqItem: function 124 -/
def laws_eqItem.f (k : Nat) (a0_0 : Int) (a0_1 : Int) (a0_2 : Int) (a0_3 : Int) (l0_4 : List Int) (l0_5 : List Int) (a0_6 : Int) (a1_0 : Int) (a1_1 : Int) (a1_2 : Int) (a1_3 : Int) (l1_4 : List Int) (l1_5 : List Int) (a1_6 : Int) : Option (Bool) := if a0_0 = a1_0 then ((laws_eqCmd.f k a0_1 a0_2 a0_3 l0_4 l0_5 a0_6 a1_1 a1_2 a1_3 l1_4 l1_5 a1_6).bind fun t112 => (if t112 = true then (some true) else (some false))) else (some false)
set_option maxHeartbeats 8000000 in
set_option maxRecDepth 100000 in
theorem laws_eqItem.calls (k : Nat) (a0_0 : Int) (a0_1 : Int) (a0_2 : Int) (a0_3 : Int) (A0_4 : Option Addr) (c0_4 : Nat) (l0_4 : List Int) (A0_5 : Option Addr) (c0_5 : Nat) (l0_5 : List Int) (a0_6 : Int) (a1_0 : Int) (a1_1 : Int) (a1_2 : Int) (a1_3 : Int) (A1_4 : Option Addr) (c1_4 : Nat) (l1_4 : List Int) (A1_5 : Option Addr) (c1_5 : Nat) (l1_5 : List Int) (a1_6 : Int) (r : Bool) (w : World) (hr0_4 : Kd.C (Kd.int .u8) w A0_4 l0_4.length l0_4) (hc0_4 : l0_4.length ≤ c0_4) (hr0_5 : Kd.C (Kd.int .u8) w A0_5 l0_5.length l0_5) (hc0_5 : l0_5.length ≤ c0_5) (hr1_4 : Kd.C (Kd.int .u8) w A1_4 l1_4.length l1_4) (hc1_4 : l1_4.length ≤ c1_4) (hr1_5 : Kd.C (Kd.int .u8) w A1_5 l1_5.length l1_5) (hc1_5 : l1_5.length ≤ c1_5) (h : laws_eqItem.f k a0_0 a0_1 a0_2 a0_3 l0_4 l0_5 a0_6 a1_0 a1_1 a1_2 a1_3 l1_4 l1_5 a1_6 = some r) :
  Calls Try.prog 124 #[.agg #[.int .i64 a0_0, .int .i64 a0_1, .int .i64 a0_2, .int .i64 a0_3, .slice A0_4 l0_4.length c0_4, .slice A0_5 l0_5.length c0_5, .int .i64 a0_6], .agg #[.int .i64 a1_0, .int .i64 a1_1, .int .i64 a1_2, .int .i64 a1_3, .slice A1_4 l1_4.length c1_4, .slice A1_5 l1_5.length c1_5, .int .i64 a1_6]] w fun e w' => e = .returned (.bool r) ∧ Below w.heap.size w w' := by
 have hu115 := Try.underlying115
 have hu113 := Try.underlying113
 have HR0_4 := Aside0.mk hr0_4
 have HC0_4 := Aside0.mk hc0_4
 clear hr0_4 hc0_4
 have HR0_5 := Aside0.mk hr0_5
 have HC0_5 := Aside0.mk hc0_5
 clear hr0_5 hc0_5
 have HR1_4 := Aside0.mk hr1_4
 have HC1_4 := Aside0.mk hc1_4
 clear hr1_4 hc1_4
 have HR1_5 := Aside0.mk hr1_5
 have HC1_5 := Aside0.mk hc1_5
 clear hr1_5 hc1_5
 have HB := Aside0.mk (Below.refl w.heap.size w)
 have H : (if a0_0 = a1_0 then ((laws_eqCmd.f k a0_1 a0_2 a0_3 l0_4 l0_5 a0_6 a1_1 a1_2 a1_3 l1_4 l1_5 a1_6).bind fun t112 => (if t112 = true then (some true) else (some false))) else (some false)) = some r := h
 clear h
 by_cases c3 : a0_0 = a1_0
 ·rw [if_pos c3] at H
  have c3b0 : (a0_0 == a1_0) = true := beq_iff_eq.mpr c3
  have c3b1 : (a0_0 != a1_0) = false := bne_eq_false_iff_eq.mpr c3
  clear c3
  replace H := Option.bind_eq_some_iff.mp H
  obtain ⟨t112, A40, H⟩ := H
  replace H : (if t112 = true then (some true) else (some false)) = some r := H
  have A4 := Aside0.mk A40
  clear A40
  by_cases c5 : t112 = true
  ·subst c5
   have H1 : (some true) = some r := by rw [if_pos rfl] at H; exact H
   clear H
   have H := H1
   clear H1
   obtain rfl := Option.some.inj H
   go_enter Try.func124, Try.ntmps124
   go_wp2_with (first | ((with_reducible refine gate_dst (N := 2) rfl ?_); refine bx_ 2 #[.int .i64 a0_0, .int .i64 a0_1, .int .i64 a0_2, .int .i64 a0_3, .slice A0_4 l0_4.length c0_4, .slice A0_5 l0_5.length c0_5, .int .i64 a0_6] 115 (h := ?_); intro gb110 hg w6 hbox hb; have BK110 := Aside0.mk (hbox); have GW110 := Aside0.mk ((by rw [hg]; exact (below_size bel) : w.heap.size ≤ gb110)); have GE110 := Aside0.mk ((by rw [hg]; exact (below_size bel) : w.heap.size ≤ gb110)); replace HB := Aside0.mk (below_step bel hb); clear hb hbox hg) | ((with_reducible refine gate_dst (N := 3) rfl ?_); refine bx_ 3 #[.int .i64 a1_0, .int .i64 a1_1, .int .i64 a1_2, .int .i64 a1_3, .slice A1_4 l1_4.length c1_4, .slice A1_5 l1_5.length c1_5, .int .i64 a1_6] 115 (h := ?_); intro gb111 hg w7 hbox hb; have BK111 := Aside0.mk (hbox); have GW111 := Aside0.mk ((by rw [hg]; exact (below_size bel) : w.heap.size ≤ gb111)); have GE111 := Aside0.mk ((by rw [hg]; exact (below_size bel) : w.heap.size ≤ gb111)); have NB110_111 := Aside0.mk ((by rw [hg]; exact Nat.ne_of_lt (blt BK110) : gb110 ≠ gb111)); have NB111_110 := Aside0.mk ((by rw [hg]; exact Nat.ne_of_gt (blt BK110) : gb111 ≠ gb110)); replace BK110 := Aside0.mk (blb BK110 hb); replace HB := Aside0.mk (below_step bel hb); clear hb hbox hg; have hnb8 := NB110_111.out; have hnc8 := NB111_110.out; obtain ⟨hcz9_0, hcz9_1, hcz9_2, hcz9_3, hcz9_4, hcz9_5, hcz9_6, -⟩ := cells_7 BK110.out trivial; obtain ⟨hfz9_0, hfz9_1, hfz9_2, hfz9_3, hfz9_4, hfz9_5, hfz9_6, -⟩ := frz_7 BK110.out; obtain ⟨hcz10_0, hcz10_1, hcz10_2, hcz10_3, hcz10_4, hcz10_5, hcz10_6, -⟩ := cells_7 BK111.out trivial; obtain ⟨hfz10_0, hfz10_1, hfz10_2, hfz10_3, hfz10_4, hfz10_5, hfz10_6, -⟩ := frz_7 BK111.out) | ((with_reducible refine gate_callee (f := 136) rfl ?_); refine gl_ (some 14) Try.func136 #[.agg #[.int .i64 a0_1, .int .i64 a0_2, .int .i64 a0_3, .slice A0_4 l0_4.length c0_4, .slice A0_5 l0_5.length c0_5, .int .i64 a0_6], .agg #[.int .i64 a1_1, .int .i64 a1_2, .int .i64 a1_3, .slice A1_4 l1_4.length c1_4, .slice A1_5 l1_5.length c1_5, .int .i64 a1_6]] (h := ?_); (with_reducible refine (laws_eqCmd.calls k a0_1 a0_2 a0_3 _ _ l0_4 _ _ l0_5 a0_6 a1_1 a1_2 a1_3 _ _ l1_4 _ _ l1_5 a1_6 true _ ?side1 ?side2 ?side3 ?side4 ?side5 ?side6 ?side7 ?side8 A4.out).mono ?_); (case side1 => exact kcb); (case side2 => exact HC0_4.out); (case side3 => exact kcb); (case side4 => exact HC0_5.out); (case side5 => exact kcb); (case side6 => exact HC1_4.out); (case side7 => exact kcb); (case side8 => exact HC1_5.out); rintro e w11 ⟨rfl, hb⟩; refine ⟨_, rfl, ?_⟩; replace BK110 := Aside0.mk (blb BK110 hb); replace BK111 := Aside0.mk (blb BK111 hb); replace HB := Aside0.mk (below_step bel hb); (try clear hb); (try clear hb2); (try clear hk); (try clear hi)))
   go_ret
   exact ⟨by first | rfl | (simp [errW_none, errW_some] <;> rfl) | (simp [*, errW_none, errW_some] <;> rfl), by repeat (first | (with_reducible first | exact HB.out | apply below_alloc | apply pw_below_drewN | apply below_drew1 | refine below_set ?_ GE110.out | refine below_set ?_ GE111.out) | exact HB.out)⟩
  ·replace c5 := Bool.eq_false_iff.mpr c5
   subst c5
   have H1 : (some false) = some r := by rw [if_neg (show ¬ (false = true) by decide)] at H; exact H
   clear H
   have H := H1
   clear H1
   obtain rfl := Option.some.inj H
   go_enter Try.func124, Try.ntmps124
   go_wp2_with (first | ((with_reducible refine gate_dst (N := 2) rfl ?_); refine bx_ 2 #[.int .i64 a0_0, .int .i64 a0_1, .int .i64 a0_2, .int .i64 a0_3, .slice A0_4 l0_4.length c0_4, .slice A0_5 l0_5.length c0_5, .int .i64 a0_6] 115 (h := ?_); intro gb110 hg w12 hbox hb; have BK110 := Aside0.mk (hbox); have GW110 := Aside0.mk ((by rw [hg]; exact (below_size bel) : w.heap.size ≤ gb110)); have GE110 := Aside0.mk ((by rw [hg]; exact (below_size bel) : w.heap.size ≤ gb110)); replace HB := Aside0.mk (below_step bel hb); clear hb hbox hg) | ((with_reducible refine gate_dst (N := 3) rfl ?_); refine bx_ 3 #[.int .i64 a1_0, .int .i64 a1_1, .int .i64 a1_2, .int .i64 a1_3, .slice A1_4 l1_4.length c1_4, .slice A1_5 l1_5.length c1_5, .int .i64 a1_6] 115 (h := ?_); intro gb111 hg w13 hbox hb; have BK111 := Aside0.mk (hbox); have GW111 := Aside0.mk ((by rw [hg]; exact (below_size bel) : w.heap.size ≤ gb111)); have GE111 := Aside0.mk ((by rw [hg]; exact (below_size bel) : w.heap.size ≤ gb111)); have NB110_111 := Aside0.mk ((by rw [hg]; exact Nat.ne_of_lt (blt BK110) : gb110 ≠ gb111)); have NB111_110 := Aside0.mk ((by rw [hg]; exact Nat.ne_of_gt (blt BK110) : gb111 ≠ gb110)); replace BK110 := Aside0.mk (blb BK110 hb); replace HB := Aside0.mk (below_step bel hb); clear hb hbox hg; have hnb14 := NB110_111.out; have hnc14 := NB111_110.out; obtain ⟨hcz15_0, hcz15_1, hcz15_2, hcz15_3, hcz15_4, hcz15_5, hcz15_6, -⟩ := cells_7 BK110.out trivial; obtain ⟨hfz15_0, hfz15_1, hfz15_2, hfz15_3, hfz15_4, hfz15_5, hfz15_6, -⟩ := frz_7 BK110.out; obtain ⟨hcz16_0, hcz16_1, hcz16_2, hcz16_3, hcz16_4, hcz16_5, hcz16_6, -⟩ := cells_7 BK111.out trivial; obtain ⟨hfz16_0, hfz16_1, hfz16_2, hfz16_3, hfz16_4, hfz16_5, hfz16_6, -⟩ := frz_7 BK111.out) | ((with_reducible refine gate_callee (f := 136) rfl ?_); refine gl_ (some 14) Try.func136 #[.agg #[.int .i64 a0_1, .int .i64 a0_2, .int .i64 a0_3, .slice A0_4 l0_4.length c0_4, .slice A0_5 l0_5.length c0_5, .int .i64 a0_6], .agg #[.int .i64 a1_1, .int .i64 a1_2, .int .i64 a1_3, .slice A1_4 l1_4.length c1_4, .slice A1_5 l1_5.length c1_5, .int .i64 a1_6]] (h := ?_); (with_reducible refine (laws_eqCmd.calls k a0_1 a0_2 a0_3 _ _ l0_4 _ _ l0_5 a0_6 a1_1 a1_2 a1_3 _ _ l1_4 _ _ l1_5 a1_6 false _ ?side1 ?side2 ?side3 ?side4 ?side5 ?side6 ?side7 ?side8 A4.out).mono ?_); (case side1 => exact kcb); (case side2 => exact HC0_4.out); (case side3 => exact kcb); (case side4 => exact HC0_5.out); (case side5 => exact kcb); (case side6 => exact HC1_4.out); (case side7 => exact kcb); (case side8 => exact HC1_5.out); rintro e w17 ⟨rfl, hb⟩; refine ⟨_, rfl, ?_⟩; replace BK110 := Aside0.mk (blb BK110 hb); replace BK111 := Aside0.mk (blb BK111 hb); replace HB := Aside0.mk (below_step bel hb); (try clear hb); (try clear hb2); (try clear hk); (try clear hi)))
   go_ret
   exact ⟨by first | rfl | (simp [errW_none, errW_some] <;> rfl) | (simp [*, errW_none, errW_some] <;> rfl), by repeat (first | (with_reducible first | exact HB.out | apply below_alloc | apply pw_below_drewN | apply below_drew1 | refine below_set ?_ GE110.out | refine below_set ?_ GE111.out) | exact HB.out)⟩
 ·rw [if_neg c3] at H
  have c3b0 : (a0_0 == a1_0) = false := beq_eq_false_iff_ne.mpr c3
  have c3b1 : (a0_0 != a1_0) = true := bne_iff_ne.mpr c3
  obtain rfl := Option.some.inj H
  go_enter Try.func124, Try.ntmps124
  go_wp2_with (first | ((with_reducible refine gate_dst (N := 2) rfl ?_); refine bx_ 2 #[.int .i64 a0_0, .int .i64 a0_1, .int .i64 a0_2, .int .i64 a0_3, .slice A0_4 l0_4.length c0_4, .slice A0_5 l0_5.length c0_5, .int .i64 a0_6] 115 (h := ?_); intro gb110 hg w18 hbox hb; have BK110 := Aside0.mk (hbox); have GW110 := Aside0.mk ((by rw [hg]; exact (below_size bel) : w.heap.size ≤ gb110)); have GE110 := Aside0.mk ((by rw [hg]; exact (below_size bel) : w.heap.size ≤ gb110)); replace HB := Aside0.mk (below_step bel hb); clear hb hbox hg) | ((with_reducible refine gate_dst (N := 3) rfl ?_); refine bx_ 3 #[.int .i64 a1_0, .int .i64 a1_1, .int .i64 a1_2, .int .i64 a1_3, .slice A1_4 l1_4.length c1_4, .slice A1_5 l1_5.length c1_5, .int .i64 a1_6] 115 (h := ?_); intro gb111 hg w19 hbox hb; have BK111 := Aside0.mk (hbox); have GW111 := Aside0.mk ((by rw [hg]; exact (below_size bel) : w.heap.size ≤ gb111)); have GE111 := Aside0.mk ((by rw [hg]; exact (below_size bel) : w.heap.size ≤ gb111)); have NB110_111 := Aside0.mk ((by rw [hg]; exact Nat.ne_of_lt (blt BK110) : gb110 ≠ gb111)); have NB111_110 := Aside0.mk ((by rw [hg]; exact Nat.ne_of_gt (blt BK110) : gb111 ≠ gb110)); replace BK110 := Aside0.mk (blb BK110 hb); replace HB := Aside0.mk (below_step bel hb); clear hb hbox hg; have hnb20 := NB110_111.out; have hnc20 := NB111_110.out; obtain ⟨hcz21_0, hcz21_1, hcz21_2, hcz21_3, hcz21_4, hcz21_5, hcz21_6, -⟩ := cells_7 BK110.out trivial; obtain ⟨hfz21_0, hfz21_1, hfz21_2, hfz21_3, hfz21_4, hfz21_5, hfz21_6, -⟩ := frz_7 BK110.out; obtain ⟨hcz22_0, hcz22_1, hcz22_2, hcz22_3, hcz22_4, hcz22_5, hcz22_6, -⟩ := cells_7 BK111.out trivial; obtain ⟨hfz22_0, hfz22_1, hfz22_2, hfz22_3, hfz22_4, hfz22_5, hfz22_6, -⟩ := frz_7 BK111.out))
  go_ret
  exact ⟨by first | rfl | (simp [errW_none, errW_some] <;> rfl) | (simp [*, errW_none, errW_some] <;> rfl), by repeat (first | (with_reducible first | exact HB.out | apply below_alloc | apply pw_below_drewN | apply below_drew1 | refine below_set ?_ GE110.out | refine below_set ?_ GE111.out) | exact HB.out)⟩

/-! ### laws_eqItemS: function 87 -/
def laws_eqItemS.l0 : Nat → List (S115) → List (S115) → Int → Option (Bool)
 | 0, _, _, _ => none
 | k + 1, x0, x1, x5 => if x5 < (x0.length : Int) then (if 0 ≤ x5 then (if x5 < (x1.length : Int) then ((laws_eqItem.f k ((rd_T115 x0 x5).f0) ((rd_T115 x0 x5).f1.f0) ((rd_T115 x0 x5).f1.f1) ((rd_T115 x0 x5).f1.f2.f0) ((rd_T115 x0 x5).f1.f2.f1) ((rd_T115 x0 x5).f1.f2.f2) ((rd_T115 x0 x5).f1.f2.f3) ((rd_T115 x1 x5).f0) ((rd_T115 x1 x5).f1.f0) ((rd_T115 x1 x5).f1.f1) ((rd_T115 x1 x5).f1.f2.f0) ((rd_T115 x1 x5).f1.f2.f1) ((rd_T115 x1 x5).f1.f2.f2) ((rd_T115 x1 x5).f1.f2.f3)).bind fun t115 => (if t115 = true then (laws_eqItemS.l0 k x0 x1 (wrap64 (x5 + 1))) else (some false))) else (none)) else (none)) else (some true)
def laws_eqItemS.f (k : Nat) (l0 : List (S115)) (l1 : List (S115)) : Option (Bool) := if (l0.length : Int) = (l1.length : Int) then (laws_eqItemS.l0 k l0 l1 0) else (some false)
def laws_eqItemS.T6 : Bool × List (List Nat × List Nat) := (true, [([], []), ([], []), ([0, 1], [0, 1]), ([2], [2]), ([], []), ([], []), ([4, 5], [4, 5]), ([6], [6]), ([3, 7], [3, 7]), ([8], [8])])
def laws_eqItemS.B6 : List Nat := [0, 0, 3, 7, 0, 0, 48, 112, 255, 511]
theorem laws_eqItemS.tab6 : rtab .any (opsOf Try.f87 6) = laws_eqItemS.T6 := by kernel_rfl
theorem laws_eqItemS.bits6 : waitsOk laws_eqItemS.T6.2 laws_eqItemS.B6 = true := by kernel_rfl
set_option maxHeartbeats 8000000 in
set_option maxRecDepth 100000 in
theorem laws_eqItemS.calls (k : Nat) (A0 : Option Addr) (c0 : Nat) (l0 : List (S115)) (A1 : Option Addr) (c1 : Nat) (l1 : List (S115)) (r : Bool) (w : World) (hr0 : Kd.C k115 w A0 l0.length l0) (hc0 : l0.length ≤ c0) (hr1 : Kd.C k115 w A1 l1.length l1) (hc1 : l1.length ≤ c1) (h : laws_eqItemS.f k l0 l1 = some r) :
  Calls Try.prog 87 #[.slice A0 l0.length c0, .slice A1 l1.length c1] w fun e w' => e = .returned (.bool r) ∧ Below w.heap.size w w' := by
 have hu115 := Try.underlying115
 have HR0 := Aside0.mk hr0
 have HC0 := Aside0.mk hc0
 clear hr0 hc0
 have HR1 := Aside0.mk hr1
 have HC1 := Aside0.mk hc1
 clear hr1 hc1
 have HB := Aside0.mk (Below.refl w.heap.size w)
 have H : (if (l0.length : Int) = (l1.length : Int) then (laws_eqItemS.l0 k l0 l1 0) else (some false)) = some r := h
 clear h
 by_cases c3 : (l0.length : Int) = (l1.length : Int)
 ·rw [if_pos c3] at H
  have c3b0 : ((l0.length : Int) == (l1.length : Int)) = true := beq_iff_eq.mpr c3
  have c3b1 : ((l0.length : Int) != (l1.length : Int)) = false := bne_eq_false_iff_eq.mpr c3
  have c3b2 : (l0.length == l1.length) = true := by first | simpa using c3 | (simp at c3 ⊢; omega)
  clear c3
  have H' := Aside0.mk H
  clear H
  go_enter Try.func87, Try.ntmps87
  go_wp2
  go_loopg [5] k (fun kq v5 w' => ∃ (x5_1 : Int), v5 = .int .i64 x5_1 ∧ Aside0 (laws_eqItemS.l0 kq l0 l1 x5_1 = some r) ∧ Aside0 (kq ≤ k) ∧ Aside0 (Below w.heap.size w w'))
  case atStart => exact ⟨(0), (by first | rfl | (simp; done) | (simp [*]; done)), H', ⟨Nat.le_refl _⟩, ⟨by repeat (first | (with_reducible first | exact HB.out | apply below_alloc | apply pw_below_drewN | apply below_drew1) | exact HB.out)⟩⟩
  case round =>
   clear H'
   try clear c1; try clear p2; try clear c3; try clear c3b0; try clear c3b1; try clear c3b2
   obtain ⟨x5_1, rfl, HA, HK1, HB⟩ := hrel
   cases gk with
   | zero => exact absurd HA.out (by simp [laws_eqItemS.l0])
   | succ k1 =>
    have H := HA.out
    clear HA
    simp only [laws_eqItemS.l0] at H
    by_cases c4 : x5_1 < (l0.length : Int)
    ·rw [if_pos c4] at H
     have c4b0 : decide (x5_1 < (l0.length : Int)) = true := decide_eq_true c4
     clear c4
     by_cases c5 : 0 ≤ x5_1
     ·rw [if_pos c5] at H
      have c5b0 : decide (0 ≤ x5_1) = true := decide_eq_true c5
      clear c5
      by_cases c6 : x5_1 < (l1.length : Int)
      ·rw [if_pos c6] at H
       have c6b0 : decide (x5_1 < (l1.length : Int)) = true := decide_eq_true c6
       clear c6
       replace H := Option.bind_eq_some_iff.mp H
       obtain ⟨t115, A70, H⟩ := H
       replace H : (if t115 = true then (laws_eqItemS.l0 k1 l0 l1 (wrap64 (x5_1 + 1))) else (some false)) = some r := H
       have A7 := Aside0.mk A70
       clear A70
       by_cases c8 : t115 = true
       ·subst c8
        have H1 : (laws_eqItemS.l0 k1 l0 l1 (wrap64 (x5_1 + 1))) = some r := by rw [if_pos rfl] at H; exact H
        clear H
        have H := H1
        clear H1
        have H' := Aside0.mk H
        clear H
        try go_wp2
        replace HB := Aside0.mk (below_drew1 HB.out)
        have p113 : 0 ≤ (x5_1 : Int) := od
        have q113 : x5_1 < (l0.length : Int) := od
        obtain ⟨ad113, A113_4, c113_4, A113_5, c113_5, e113, hx113_0, hx113_1, hx113_2, hx113_3, hx113_4, hx113_5, hx113_6, hl113_4, hi113_4, hl113_5, hi113_5⟩ := at_T115 HR0.out x5_1 p113 q113
        have hw113_6 := hx113_6
        have hw113_5 := hx113_5
        have hw113_4 := hx113_4
        have hw113_3 := hx113_3
        have hw113_2 := hx113_2
        have hw113_1 := hx113_1
        have hw113_0 := hx113_0
        cases e113
        replace hx113_0 := hxb HB hx113_0
        replace hx113_1 := hxb HB hx113_1
        replace hx113_2 := hxb HB hx113_2
        replace hx113_3 := hxb HB hx113_3
        replace hx113_4 := hxb HB hx113_4
        replace hx113_5 := hxb HB hx113_5
        replace hx113_6 := hxb HB hx113_6
        have HR113_4 := Aside0.mk hi113_4
        have HC113_4 := Aside0.mk hl113_4
        clear hi113_4 hl113_4
        have HR113_5 := Aside0.mk hi113_5
        have HC113_5 := Aside0.mk hl113_5
        clear hi113_5 hl113_5
        replace p113 := eq_true p113
        replace q113 := eq_true q113
        have p114 : 0 ≤ (x5_1 : Int) := od
        have q114 : x5_1 < (l1.length : Int) := od
        obtain ⟨ad114, A114_4, c114_4, A114_5, c114_5, e114, hx114_0, hx114_1, hx114_2, hx114_3, hx114_4, hx114_5, hx114_6, hl114_4, hi114_4, hl114_5, hi114_5⟩ := at_T115 HR1.out x5_1 p114 q114
        have hw114_6 := hx114_6
        have hw114_5 := hx114_5
        have hw114_4 := hx114_4
        have hw114_3 := hx114_3
        have hw114_2 := hx114_2
        have hw114_1 := hx114_1
        have hw114_0 := hx114_0
        cases e114
        replace hx114_0 := hxb HB hx114_0
        replace hx114_1 := hxb HB hx114_1
        replace hx114_2 := hxb HB hx114_2
        replace hx114_3 := hxb HB hx114_3
        replace hx114_4 := hxb HB hx114_4
        replace hx114_5 := hxb HB hx114_5
        replace hx114_6 := hxb HB hx114_6
        have HR114_4 := Aside0.mk hi114_4
        have HC114_4 := Aside0.mk hl114_4
        clear hi114_4 hl114_4
        have HR114_5 := Aside0.mk hi114_5
        have HC114_5 := Aside0.mk hl114_5
        clear hi114_5 hl114_5
        replace p114 := eq_true p114
        replace q114 := eq_true q114
        refine start_ (n := 10) (S := fun w' => w'.cell? (ad113.add ((x5_1).toNat * 7)) = some (.int .i64 ((rd_T115 l0 x5_1).f0)) ∧ w'.cell? ⟨(ad113.add ((x5_1).toNat * 7)).block, (ad113.add ((x5_1).toNat * 7)).off + 1, none⟩ = some (.int .i64 ((rd_T115 l0 x5_1).f1.f0)) ∧ w'.cell? ⟨(ad113.add ((x5_1).toNat * 7)).block, (ad113.add ((x5_1).toNat * 7)).off + 2, none⟩ = some (.int .i64 ((rd_T115 l0 x5_1).f1.f1)) ∧ w'.cell? ⟨(ad113.add ((x5_1).toNat * 7)).block, (ad113.add ((x5_1).toNat * 7)).off + 3, none⟩ = some (.int .i64 ((rd_T115 l0 x5_1).f1.f2.f0)) ∧ w'.cell? ⟨(ad113.add ((x5_1).toNat * 7)).block, (ad113.add ((x5_1).toNat * 7)).off + 4, none⟩ = some (.slice A113_4 ((rd_T115 l0 x5_1).f1.f2.f1).length c113_4) ∧ w'.cell? ⟨(ad113.add ((x5_1).toNat * 7)).block, (ad113.add ((x5_1).toNat * 7)).off + 5, none⟩ = some (.slice A113_5 ((rd_T115 l0 x5_1).f1.f2.f2).length c113_5) ∧ w'.cell? ⟨(ad113.add ((x5_1).toNat * 7)).block, (ad113.add ((x5_1).toNat * 7)).off + 6, none⟩ = some (.int .i64 ((rd_T115 l0 x5_1).f1.f2.f3)) ∧ w'.cell? (ad114.add ((x5_1).toNat * 7)) = some (.int .i64 ((rd_T115 l1 x5_1).f0)) ∧ w'.cell? ⟨(ad114.add ((x5_1).toNat * 7)).block, (ad114.add ((x5_1).toNat * 7)).off + 1, none⟩ = some (.int .i64 ((rd_T115 l1 x5_1).f1.f0)) ∧ w'.cell? ⟨(ad114.add ((x5_1).toNat * 7)).block, (ad114.add ((x5_1).toNat * 7)).off + 2, none⟩ = some (.int .i64 ((rd_T115 l1 x5_1).f1.f1)) ∧ w'.cell? ⟨(ad114.add ((x5_1).toNat * 7)).block, (ad114.add ((x5_1).toNat * 7)).off + 3, none⟩ = some (.int .i64 ((rd_T115 l1 x5_1).f1.f2.f0)) ∧ w'.cell? ⟨(ad114.add ((x5_1).toNat * 7)).block, (ad114.add ((x5_1).toNat * 7)).off + 4, none⟩ = some (.slice A114_4 ((rd_T115 l1 x5_1).f1.f2.f1).length c114_4) ∧ w'.cell? ⟨(ad114.add ((x5_1).toNat * 7)).block, (ad114.add ((x5_1).toNat * 7)).off + 5, none⟩ = some (.slice A114_5 ((rd_T115 l1 x5_1).f1.f2.f2).length c114_5) ∧ w'.cell? ⟨(ad114.add ((x5_1).toNat * 7)).block, (ad114.add ((x5_1).toNat * 7)).off + 6, none⟩ = some (.int .i64 ((rd_T115 l1 x5_1).f1.f2.f3))) (ds := []) (tf 0 10) (by kernel_rfl) rfl rfl ⟨(hxb HB hw113_0 :), (hxb HB hw113_1 :), (hxb HB hw113_2 :), (hxb HB hw113_3 :), (hxb HB hw113_4 :), (hxb HB hw113_5 :), (hxb HB hw113_6 :), (hxb HB hw114_0 :), (hxb HB hw114_1 :), (hxb HB hw114_2 :), (hxb HB hw114_3 :), (hxb HB hw114_4 :), (hxb HB hw114_5 :), (hxb HB hw114_6 :)⟩ (fun hHeld => ?_); refine with_tabW laws_eqItemS.tab6 laws_eqItemS.bits6 (fun HT_ HW_ => ?_)
        generalize wr.drew = w9 at HB HR113_4 HR113_5 HR114_4 HR114_5 hx113_0 hx113_1 hx113_2 hx113_3 hx113_4 hx113_5 hx113_6 hx114_0 hx114_1 hx114_2 hx114_3 hx114_4 hx114_5 hx114_6 hHeld ⊢
        refine pv_ HT_ 0 (some 17) (tf 1 9) (h := ?_)
        refine pv_ HT_ 1 (some 18) (tf 2 8) (h := ?_)
        refine pv_ HT_ 2 (some 19) (tf 3 7) (h := ?_)
        refine pv_ HT_ 4 (some 21) (tb 10 23) (h := ?_)
        refine pv_ HT_ 5 (some 22) (tb 10 55) (h := ?_)
        refine pv_ HT_ 6 (some 23) (tb 10 119) (h := ?_)
        refine tv_ HT_ HW_ hHeld 3 (some 20) (tf 7 3) (h := ?_)
        refine tv_ HT_ HW_ hHeld 7 (some 24) (tf 8 2) (h := ?_)
        refine one_ (i := 8) (N := some 25) (tf 9 1) rfl rfl (one_of HT_.out (by kernel_rfl)) (by decide) (fun K hK => ?_)
        refine gs_ Try.func124 #[.agg #[.int .i64 ((rd_T115 l0 x5_1).f0), .int .i64 ((rd_T115 l0 x5_1).f1.f0), .int .i64 ((rd_T115 l0 x5_1).f1.f1), .int .i64 ((rd_T115 l0 x5_1).f1.f2.f0), .slice A113_4 ((rd_T115 l0 x5_1).f1.f2.f1).length c113_4, .slice A113_5 ((rd_T115 l0 x5_1).f1.f2.f2).length c113_5, .int .i64 ((rd_T115 l0 x5_1).f1.f2.f3)], .agg #[.int .i64 ((rd_T115 l1 x5_1).f0), .int .i64 ((rd_T115 l1 x5_1).f1.f0), .int .i64 ((rd_T115 l1 x5_1).f1.f1), .int .i64 ((rd_T115 l1 x5_1).f1.f2.f0), .slice A114_4 ((rd_T115 l1 x5_1).f1.f2.f1).length c114_4, .slice A114_5 ((rd_T115 l1 x5_1).f1.f2.f2).length c114_5, .int .i64 ((rd_T115 l1 x5_1).f1.f2.f3)]] (h := ?_)
        with_reducible refine (laws_eqItem.calls k1 ((rd_T115 l0 x5_1).f0) ((rd_T115 l0 x5_1).f1.f0) ((rd_T115 l0 x5_1).f1.f1) ((rd_T115 l0 x5_1).f1.f2.f0) _ _ ((rd_T115 l0 x5_1).f1.f2.f1) _ _ ((rd_T115 l0 x5_1).f1.f2.f2) ((rd_T115 l0 x5_1).f1.f2.f3) ((rd_T115 l1 x5_1).f0) ((rd_T115 l1 x5_1).f1.f0) ((rd_T115 l1 x5_1).f1.f1) ((rd_T115 l1 x5_1).f1.f2.f0) _ _ ((rd_T115 l1 x5_1).f1.f2.f1) _ _ ((rd_T115 l1 x5_1).f1.f2.f2) ((rd_T115 l1 x5_1).f1.f2.f3) true _ ?side1 ?side2 ?side3 ?side4 ?side5 ?side6 ?side7 ?side8 A7.out).mono ?_
        (case side1 => exact kcb)
        (case side2 => exact HC113_4.out)
        (case side3 => exact kcb)
        (case side4 => exact HC113_5.out)
        (case side5 => exact kcb)
        (case side6 => exact HC114_4.out)
        (case side7 => exact kcb)
        (case side8 => exact HC114_5.out)
        rintro e w10 ⟨rfl, hb⟩
        refine ⟨_, rfl, ?_⟩
        replace HB := Aside0.mk (below_step bel hb)
        (try clear hb)
        (try clear hb2)
        (try clear hk)
        (try clear hi)
        refine hK.out _ _ ⟨(hxb HB hw113_0 :), (hxb HB hw113_1 :), (hxb HB hw113_2 :), (hxb HB hw113_3 :), (hxb HB hw113_4 :), (hxb HB hw113_5 :), (hxb HB hw113_6 :), (hxb HB hw114_0 :), (hxb HB hw114_1 :), (hxb HB hw114_2 :), (hxb HB hw114_3 :), (hxb HB hw114_4 :), (hxb HB hw114_5 :), (hxb HB hw114_6 :)⟩ (fun hHeld => ?_)
        clear hK K
        refine norm_ (a' := ?_) ?_ ?_
        rotate_left
        ·show Act.put _ (some 25) _ = _
         simp only [Act.put, List.setIfInBounds_toArray, List.set_cons_zero, List.set_cons_succ, i64_w, i32_w]
         rfl
        refine pv_ HT_ 9 (some 26) (tf 10 0) (h := ?_)
        refine done_ (done_of HT_.out (by kernel_rfl)) ?_
        try go_wp2
        go_roundg k1
        case measure => have := HK1.out; omega
        case rel => exact ⟨(wrap64 (x5_1 + 1)), (by first | rfl | (simp; done) | (simp [*]; done)), H', ⟨by have := HK1.out; omega⟩, ⟨by repeat (first | (with_reducible first | exact HB.out | apply below_alloc | apply pw_below_drewN | apply below_drew1) | exact HB.out)⟩⟩
       ·replace c8 := Bool.eq_false_iff.mpr c8
        subst c8
        have H1 : (some false) = some r := by rw [if_neg (show ¬ (false = true) by decide)] at H; exact H
        clear H
        have H := H1
        clear H1
        obtain rfl := Option.some.inj H
        try go_wp2
        replace HB := Aside0.mk (below_drew1 HB.out)
        have p113 : 0 ≤ (x5_1 : Int) := od
        have q113 : x5_1 < (l0.length : Int) := od
        obtain ⟨ad113, A113_4, c113_4, A113_5, c113_5, e113, hx113_0, hx113_1, hx113_2, hx113_3, hx113_4, hx113_5, hx113_6, hl113_4, hi113_4, hl113_5, hi113_5⟩ := at_T115 HR0.out x5_1 p113 q113
        have hw113_6 := hx113_6
        have hw113_5 := hx113_5
        have hw113_4 := hx113_4
        have hw113_3 := hx113_3
        have hw113_2 := hx113_2
        have hw113_1 := hx113_1
        have hw113_0 := hx113_0
        cases e113
        replace hx113_0 := hxb HB hx113_0
        replace hx113_1 := hxb HB hx113_1
        replace hx113_2 := hxb HB hx113_2
        replace hx113_3 := hxb HB hx113_3
        replace hx113_4 := hxb HB hx113_4
        replace hx113_5 := hxb HB hx113_5
        replace hx113_6 := hxb HB hx113_6
        have HR113_4 := Aside0.mk hi113_4
        have HC113_4 := Aside0.mk hl113_4
        clear hi113_4 hl113_4
        have HR113_5 := Aside0.mk hi113_5
        have HC113_5 := Aside0.mk hl113_5
        clear hi113_5 hl113_5
        replace p113 := eq_true p113
        replace q113 := eq_true q113
        have p114 : 0 ≤ (x5_1 : Int) := od
        have q114 : x5_1 < (l1.length : Int) := od
        obtain ⟨ad114, A114_4, c114_4, A114_5, c114_5, e114, hx114_0, hx114_1, hx114_2, hx114_3, hx114_4, hx114_5, hx114_6, hl114_4, hi114_4, hl114_5, hi114_5⟩ := at_T115 HR1.out x5_1 p114 q114
        have hw114_6 := hx114_6
        have hw114_5 := hx114_5
        have hw114_4 := hx114_4
        have hw114_3 := hx114_3
        have hw114_2 := hx114_2
        have hw114_1 := hx114_1
        have hw114_0 := hx114_0
        cases e114
        replace hx114_0 := hxb HB hx114_0
        replace hx114_1 := hxb HB hx114_1
        replace hx114_2 := hxb HB hx114_2
        replace hx114_3 := hxb HB hx114_3
        replace hx114_4 := hxb HB hx114_4
        replace hx114_5 := hxb HB hx114_5
        replace hx114_6 := hxb HB hx114_6
        have HR114_4 := Aside0.mk hi114_4
        have HC114_4 := Aside0.mk hl114_4
        clear hi114_4 hl114_4
        have HR114_5 := Aside0.mk hi114_5
        have HC114_5 := Aside0.mk hl114_5
        clear hi114_5 hl114_5
        replace p114 := eq_true p114
        replace q114 := eq_true q114
        refine start_ (n := 10) (S := fun w' => w'.cell? (ad113.add ((x5_1).toNat * 7)) = some (.int .i64 ((rd_T115 l0 x5_1).f0)) ∧ w'.cell? ⟨(ad113.add ((x5_1).toNat * 7)).block, (ad113.add ((x5_1).toNat * 7)).off + 1, none⟩ = some (.int .i64 ((rd_T115 l0 x5_1).f1.f0)) ∧ w'.cell? ⟨(ad113.add ((x5_1).toNat * 7)).block, (ad113.add ((x5_1).toNat * 7)).off + 2, none⟩ = some (.int .i64 ((rd_T115 l0 x5_1).f1.f1)) ∧ w'.cell? ⟨(ad113.add ((x5_1).toNat * 7)).block, (ad113.add ((x5_1).toNat * 7)).off + 3, none⟩ = some (.int .i64 ((rd_T115 l0 x5_1).f1.f2.f0)) ∧ w'.cell? ⟨(ad113.add ((x5_1).toNat * 7)).block, (ad113.add ((x5_1).toNat * 7)).off + 4, none⟩ = some (.slice A113_4 ((rd_T115 l0 x5_1).f1.f2.f1).length c113_4) ∧ w'.cell? ⟨(ad113.add ((x5_1).toNat * 7)).block, (ad113.add ((x5_1).toNat * 7)).off + 5, none⟩ = some (.slice A113_5 ((rd_T115 l0 x5_1).f1.f2.f2).length c113_5) ∧ w'.cell? ⟨(ad113.add ((x5_1).toNat * 7)).block, (ad113.add ((x5_1).toNat * 7)).off + 6, none⟩ = some (.int .i64 ((rd_T115 l0 x5_1).f1.f2.f3)) ∧ w'.cell? (ad114.add ((x5_1).toNat * 7)) = some (.int .i64 ((rd_T115 l1 x5_1).f0)) ∧ w'.cell? ⟨(ad114.add ((x5_1).toNat * 7)).block, (ad114.add ((x5_1).toNat * 7)).off + 1, none⟩ = some (.int .i64 ((rd_T115 l1 x5_1).f1.f0)) ∧ w'.cell? ⟨(ad114.add ((x5_1).toNat * 7)).block, (ad114.add ((x5_1).toNat * 7)).off + 2, none⟩ = some (.int .i64 ((rd_T115 l1 x5_1).f1.f1)) ∧ w'.cell? ⟨(ad114.add ((x5_1).toNat * 7)).block, (ad114.add ((x5_1).toNat * 7)).off + 3, none⟩ = some (.int .i64 ((rd_T115 l1 x5_1).f1.f2.f0)) ∧ w'.cell? ⟨(ad114.add ((x5_1).toNat * 7)).block, (ad114.add ((x5_1).toNat * 7)).off + 4, none⟩ = some (.slice A114_4 ((rd_T115 l1 x5_1).f1.f2.f1).length c114_4) ∧ w'.cell? ⟨(ad114.add ((x5_1).toNat * 7)).block, (ad114.add ((x5_1).toNat * 7)).off + 5, none⟩ = some (.slice A114_5 ((rd_T115 l1 x5_1).f1.f2.f2).length c114_5) ∧ w'.cell? ⟨(ad114.add ((x5_1).toNat * 7)).block, (ad114.add ((x5_1).toNat * 7)).off + 6, none⟩ = some (.int .i64 ((rd_T115 l1 x5_1).f1.f2.f3))) (ds := []) (tf 0 10) (by kernel_rfl) rfl rfl ⟨(hxb HB hw113_0 :), (hxb HB hw113_1 :), (hxb HB hw113_2 :), (hxb HB hw113_3 :), (hxb HB hw113_4 :), (hxb HB hw113_5 :), (hxb HB hw113_6 :), (hxb HB hw114_0 :), (hxb HB hw114_1 :), (hxb HB hw114_2 :), (hxb HB hw114_3 :), (hxb HB hw114_4 :), (hxb HB hw114_5 :), (hxb HB hw114_6 :)⟩ (fun hHeld => ?_); refine with_tabW laws_eqItemS.tab6 laws_eqItemS.bits6 (fun HT_ HW_ => ?_)
        generalize wr.drew = w11 at HB HR113_4 HR113_5 HR114_4 HR114_5 hx113_0 hx113_1 hx113_2 hx113_3 hx113_4 hx113_5 hx113_6 hx114_0 hx114_1 hx114_2 hx114_3 hx114_4 hx114_5 hx114_6 hHeld ⊢
        refine pv_ HT_ 0 (some 17) (tf 1 9) (h := ?_)
        refine pv_ HT_ 1 (some 18) (tf 2 8) (h := ?_)
        refine pv_ HT_ 2 (some 19) (tf 3 7) (h := ?_)
        refine pv_ HT_ 4 (some 21) (tb 10 23) (h := ?_)
        refine pv_ HT_ 5 (some 22) (tb 10 55) (h := ?_)
        refine pv_ HT_ 6 (some 23) (tb 10 119) (h := ?_)
        refine tv_ HT_ HW_ hHeld 3 (some 20) (tf 7 3) (h := ?_)
        refine tv_ HT_ HW_ hHeld 7 (some 24) (tf 8 2) (h := ?_)
        refine one_ (i := 8) (N := some 25) (tf 9 1) rfl rfl (one_of HT_.out (by kernel_rfl)) (by decide) (fun K hK => ?_)
        refine gs_ Try.func124 #[.agg #[.int .i64 ((rd_T115 l0 x5_1).f0), .int .i64 ((rd_T115 l0 x5_1).f1.f0), .int .i64 ((rd_T115 l0 x5_1).f1.f1), .int .i64 ((rd_T115 l0 x5_1).f1.f2.f0), .slice A113_4 ((rd_T115 l0 x5_1).f1.f2.f1).length c113_4, .slice A113_5 ((rd_T115 l0 x5_1).f1.f2.f2).length c113_5, .int .i64 ((rd_T115 l0 x5_1).f1.f2.f3)], .agg #[.int .i64 ((rd_T115 l1 x5_1).f0), .int .i64 ((rd_T115 l1 x5_1).f1.f0), .int .i64 ((rd_T115 l1 x5_1).f1.f1), .int .i64 ((rd_T115 l1 x5_1).f1.f2.f0), .slice A114_4 ((rd_T115 l1 x5_1).f1.f2.f1).length c114_4, .slice A114_5 ((rd_T115 l1 x5_1).f1.f2.f2).length c114_5, .int .i64 ((rd_T115 l1 x5_1).f1.f2.f3)]] (h := ?_)
        with_reducible refine (laws_eqItem.calls k1 ((rd_T115 l0 x5_1).f0) ((rd_T115 l0 x5_1).f1.f0) ((rd_T115 l0 x5_1).f1.f1) ((rd_T115 l0 x5_1).f1.f2.f0) _ _ ((rd_T115 l0 x5_1).f1.f2.f1) _ _ ((rd_T115 l0 x5_1).f1.f2.f2) ((rd_T115 l0 x5_1).f1.f2.f3) ((rd_T115 l1 x5_1).f0) ((rd_T115 l1 x5_1).f1.f0) ((rd_T115 l1 x5_1).f1.f1) ((rd_T115 l1 x5_1).f1.f2.f0) _ _ ((rd_T115 l1 x5_1).f1.f2.f1) _ _ ((rd_T115 l1 x5_1).f1.f2.f2) ((rd_T115 l1 x5_1).f1.f2.f3) false _ ?side1 ?side2 ?side3 ?side4 ?side5 ?side6 ?side7 ?side8 A7.out).mono ?_
        (case side1 => exact kcb)
        (case side2 => exact HC113_4.out)
        (case side3 => exact kcb)
        (case side4 => exact HC113_5.out)
        (case side5 => exact kcb)
        (case side6 => exact HC114_4.out)
        (case side7 => exact kcb)
        (case side8 => exact HC114_5.out)
        rintro e w12 ⟨rfl, hb⟩
        refine ⟨_, rfl, ?_⟩
        replace HB := Aside0.mk (below_step bel hb)
        (try clear hb)
        (try clear hb2)
        (try clear hk)
        (try clear hi)
        refine hK.out _ _ ⟨(hxb HB hw113_0 :), (hxb HB hw113_1 :), (hxb HB hw113_2 :), (hxb HB hw113_3 :), (hxb HB hw113_4 :), (hxb HB hw113_5 :), (hxb HB hw113_6 :), (hxb HB hw114_0 :), (hxb HB hw114_1 :), (hxb HB hw114_2 :), (hxb HB hw114_3 :), (hxb HB hw114_4 :), (hxb HB hw114_5 :), (hxb HB hw114_6 :)⟩ (fun hHeld => ?_)
        clear hK K
        refine norm_ (a' := ?_) ?_ ?_
        rotate_left
        ·show Act.put _ (some 25) _ = _
         simp only [Act.put, List.setIfInBounds_toArray, List.set_cons_zero, List.set_cons_succ, i64_w, i32_w]
         rfl
        refine pv_ HT_ 9 (some 26) (tf 10 0) (h := ?_)
        refine done_ (done_of HT_.out (by kernel_rfl)) ?_
        try go_wp2
        go_ret
        exact ⟨by first | rfl | (simp [errW_none, errW_some] <;> rfl) | (simp [*, errW_none, errW_some] <;> rfl), by repeat (first | (with_reducible first | exact HB.out | apply below_alloc | apply pw_below_drewN | apply below_drew1) | exact HB.out)⟩
      ·rw [if_neg c6] at H
       exact absurd H (by simp)
     ·rw [if_neg c5] at H
      exact absurd H (by simp)
    ·rw [if_neg c4] at H
     have c4b0 : decide (x5_1 < (l0.length : Int)) = false := decide_eq_false c4
     clear c4
     obtain rfl := Option.some.inj H
     go_wp2
     go_ret
     exact ⟨by first | rfl | (simp [errW_none, errW_some] <;> rfl) | (simp [*, errW_none, errW_some] <;> rfl), by repeat (first | (with_reducible first | exact HB.out | apply below_alloc | apply pw_below_drewN | apply below_drew1) | exact HB.out)⟩
 ·rw [if_neg c3] at H
  have c3b0 : ((l0.length : Int) == (l1.length : Int)) = false := beq_eq_false_iff_ne.mpr c3
  have c3b1 : ((l0.length : Int) != (l1.length : Int)) = true := bne_iff_ne.mpr c3
  have c3b2 : (l0.length == l1.length) = false := by first | simpa using c3 | (simp at c3 ⊢; omega)
  obtain rfl := Option.some.inj H
  go_enter Try.func87, Try.ntmps87
  go_wp2
  go_ret
  exact ⟨by first | rfl | (simp [errW_none, errW_some] <;> rfl) | (simp [*, errW_none, errW_some] <;> rfl), by repeat (first | (with_reducible first | exact HB.out | apply below_alloc | apply pw_below_drewN | apply below_drew1) | exact HB.out)⟩

/-! ### laws_eqBoolS: function 88 -/
def laws_eqBoolS.l0 : Nat → List Bool → List Bool → Int → Option (Bool)
 | 0, _, _, _ => none
 | k + 1, x0, x1, x5 => if x5 < (x0.length : Int) then (if 0 ≤ x5 then (if x5 < (x1.length : Int) then (if ((rdOf false x0 x5) != (rdOf false x1 x5)) = true then (some false) else (laws_eqBoolS.l0 k x0 x1 (wrap64 (x5 + 1)))) else (none)) else (none)) else (some true)
def laws_eqBoolS.f (k : Nat) (l0 : List Bool) (l1 : List Bool) : Option (Bool) := if (l0.length : Int) = (l1.length : Int) then (laws_eqBoolS.l0 k l0 l1 0) else (some false)
set_option maxHeartbeats 8000000 in
set_option maxRecDepth 100000 in
theorem laws_eqBoolS.calls (k : Nat) (A0 : Option Addr) (c0 : Nat) (l0 : List Bool) (A1 : Option Addr) (c1 : Nat) (l1 : List Bool) (r : Bool) (w : World) (hr0 : Kd.C Kd.bool w A0 l0.length l0) (hc0 : l0.length ≤ c0) (hr1 : Kd.C Kd.bool w A1 l1.length l1) (hc1 : l1.length ≤ c1) (h : laws_eqBoolS.f k l0 l1 = some r) :
  Calls Try.prog 88 #[.slice A0 l0.length c0, .slice A1 l1.length c1] w fun e w' => e = .returned (.bool r) ∧ Drawn0 w w' := by
 have HR0 := Aside0.mk hr0
 have HC0 := Aside0.mk hc0
 clear hr0 hc0
 have HR1 := Aside0.mk hr1
 have HC1 := Aside0.mk hc1
 clear hr1 hc1
 have H : (if (l0.length : Int) = (l1.length : Int) then (laws_eqBoolS.l0 k l0 l1 0) else (some false)) = some r := h
 clear h
 by_cases c3 : (l0.length : Int) = (l1.length : Int)
 ·rw [if_pos c3] at H
  have c3b0 : ((l0.length : Int) == (l1.length : Int)) = true := beq_iff_eq.mpr c3
  have c3b1 : ((l0.length : Int) != (l1.length : Int)) = false := bne_eq_false_iff_eq.mpr c3
  have c3b2 : (l0.length == l1.length) = true := by first | simpa using c3 | (simp at c3 ⊢; omega)
  clear c3
  have H' := Aside0.mk H
  clear H
  go_enter Try.func88, Try.ntmps88
  go_wp2
  repeat (go_quiet (fail); try go_wp2)
  go_loopg [5] k (fun kq v5 w' => ∃ (x5_1 : Int), v5 = .int .i64 x5_1 ∧ Aside0 (laws_eqBoolS.l0 kq l0 l1 x5_1 = some r) ∧ Aside0 (kq ≤ k) ∧ Drawn0 w w')
  case atStart => exact ⟨(0), (by first | rfl | (simp; done) | (simp [*]; done)), H', ⟨Nat.le_refl _⟩, by repeat (first | exact Drawn0.refl _ | apply Drawn0.step)⟩
  case round =>
   clear H'
   try clear c1; try clear p2; try clear c3; try clear c3b0; try clear c3b1; try clear c3b2
   obtain ⟨x5_1, rfl, HA, HK1, ⟨m1, rfl⟩⟩ := hrel
   cases gk with
   | zero => exact absurd HA.out (by simp [laws_eqBoolS.l0])
   | succ k1 =>
    have H := HA.out
    clear HA
    simp only [laws_eqBoolS.l0] at H
    by_cases c4 : x5_1 < (l0.length : Int)
    ·rw [if_pos c4] at H
     have c4b0 : decide (x5_1 < (l0.length : Int)) = true := decide_eq_true c4
     clear c4
     by_cases c5 : 0 ≤ x5_1
     ·rw [if_pos c5] at H
      have c5b0 : decide (0 ≤ x5_1) = true := decide_eq_true c5
      clear c5
      by_cases c6 : x5_1 < (l1.length : Int)
      ·rw [if_pos c6] at H
       have c6b0 : decide (x5_1 < (l1.length : Int)) = true := decide_eq_true c6
       clear c6
       by_cases c7 : ((rdOf false l0 x5_1) != (rdOf false l1 x5_1)) = true
       ·rw [if_pos c7] at H
        have c7b0 : ((rdOf false l0 x5_1) != (rdOf false l1 x5_1)) = true := c7
        (try (have c7b1 : decide ((rdOf false l0 x5_1) = (rdOf false l1 x5_1)) = false := by simpa using c7))
        (try (have c7b2 : ((rdOf false l0 x5_1) == (rdOf false l1 x5_1)) = false := by simpa using c7))
        (try (have c7b3 : ¬ ((rdOf false l0 x5_1) = (rdOf false l1 x5_1)) := by simpa using c7))
        clear c7
        obtain rfl := Option.some.inj H
        have p116 : 0 ≤ (x5_1 : Int) := od
        have q116 : x5_1 < (l0.length : Int) := od
        obtain ⟨ad116, e116, hx116_0⟩ := Kd.at_bool HR0.out x5_1 p116 q116
        cases e116
        replace p116 := eq_true p116
        replace q116 := eq_true q116
        have p117 : 0 ≤ (x5_1 : Int) := od
        have q117 : x5_1 < (l1.length : Int) := od
        obtain ⟨ad117, e117, hx117_0⟩ := Kd.at_bool HR1.out x5_1 p117 q117
        cases e117
        replace p117 := eq_true p117
        replace q117 := eq_true q117
        go_wp2
        repeat (go_quiet (fail); try go_wp2)
        go_ret
        exact ⟨by first | rfl | (simp; done) | (simp [*]; done), by repeat (first | exact Drawn0.refl _ | apply Drawn0.step)⟩
       ·rw [if_neg c7] at H
        have c7b0 : ((rdOf false l0 x5_1) != (rdOf false l1 x5_1)) = false := by simpa using c7
        (try (have c7b1 : decide ((rdOf false l0 x5_1) = (rdOf false l1 x5_1)) = true := by simpa using c7))
        (try (have c7b2 : ((rdOf false l0 x5_1) == (rdOf false l1 x5_1)) = true := by simpa using c7))
        clear c7
        have H' := Aside0.mk H
        clear H
        have p116 : 0 ≤ (x5_1 : Int) := od
        have q116 : x5_1 < (l0.length : Int) := od
        obtain ⟨ad116, e116, hx116_0⟩ := Kd.at_bool HR0.out x5_1 p116 q116
        cases e116
        replace p116 := eq_true p116
        replace q116 := eq_true q116
        have p117 : 0 ≤ (x5_1 : Int) := od
        have q117 : x5_1 < (l1.length : Int) := od
        obtain ⟨ad117, e117, hx117_0⟩ := Kd.at_bool HR1.out x5_1 p117 q117
        cases e117
        replace p117 := eq_true p117
        replace q117 := eq_true q117
        go_wp2
        repeat (go_quiet (fail); try go_wp2)
        go_roundg k1
        case measure => have := HK1.out; omega
        case rel => exact ⟨(wrap64 (x5_1 + 1)), (by first | rfl | (simp; done) | (simp [*]; done)), H', ⟨by have := HK1.out; omega⟩, by repeat (first | exact Drawn0.refl _ | apply Drawn0.step)⟩
      ·rw [if_neg c6] at H
       exact absurd H (by simp)
     ·rw [if_neg c5] at H
      exact absurd H (by simp)
    ·rw [if_neg c4] at H
     have c4b0 : decide (x5_1 < (l0.length : Int)) = false := decide_eq_false c4
     clear c4
     obtain rfl := Option.some.inj H
     go_wp2
     repeat (go_quiet (fail); try go_wp2)
     go_ret
     exact ⟨by first | rfl | (simp; done) | (simp [*]; done), by repeat (first | exact Drawn0.refl _ | apply Drawn0.step)⟩
 ·rw [if_neg c3] at H
  have c3b0 : ((l0.length : Int) == (l1.length : Int)) = false := beq_eq_false_iff_ne.mpr c3
  have c3b1 : ((l0.length : Int) != (l1.length : Int)) = true := bne_iff_ne.mpr c3
  have c3b2 : (l0.length == l1.length) = false := by first | simpa using c3 | (simp at c3 ⊢; omega)
  obtain rfl := Option.some.inj H
  go_enter Try.func88, Try.ntmps88
  go_wp2
  repeat (go_quiet (fail); try go_wp2)
  go_ret
  exact ⟨by first | rfl | (simp; done) | (simp [*]; done), by repeat (first | exact Drawn0.refl _ | apply Drawn0.step)⟩

end Go.Proofs.Ytoaddpfoecggpaa.PN
