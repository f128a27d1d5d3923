-- Written for this claim by the session's program pp.py, out of the kit's print and the seat's translation.
import Derived.Test.YtdgegnakiljfjaaPWx0
import Derived.Test.YtdgegnakiljfjaaPWx10
namespace Go.Proofs.Ytdgegnakiljfjaa.PW
open Go.RowKit Go.Proofs.YtdgegnakiljfjaaW.PrintWords Go.Proofs.YtdgegnakiljfjaaW.PrintLast Go.Proofs.YtdgegnakiljfjaaW.PrintMore
attribute [local go_sem] max2_int min2_int max_two min_two max_three min_three max_four min_four   -- for this text's walks alone
set_option linter.unusedVariables false
set_option linter.unusedSimpArgs false

/-! ### laws_eqItemS: function 101 -/
def laws_eqItemS.l0 : Nat → List (S147) → List (S147) → Int → Option (Bool)
 | 0, _, _, _ => none
 | k + 1, x0, x1, x5 => if x5 < (x0.length : Int) then (if 0 ≤ x5 then (if x5 < (x1.length : Int) then ((laws_eqItem.f k ((rd_T147 x0 x5).f0) ((rd_T147 x0 x5).f1.f0) ((rd_T147 x0 x5).f1.f1) ((rd_T147 x0 x5).f1.f2.f0) ((rd_T147 x0 x5).f1.f2.f1) ((rd_T147 x0 x5).f1.f2.f2) ((rd_T147 x0 x5).f1.f2.f3) ((rd_T147 x1 x5).f0) ((rd_T147 x1 x5).f1.f0) ((rd_T147 x1 x5).f1.f1) ((rd_T147 x1 x5).f1.f2.f0) ((rd_T147 x1 x5).f1.f2.f1) ((rd_T147 x1 x5).f1.f2.f2) ((rd_T147 x1 x5).f1.f2.f3)).bind fun t319 => (if t319 = true then (laws_eqItemS.l0 k x0 x1 (wrap64 (x5 + 1))) else (some false))) else (none)) else (none)) else (some true)
def laws_eqItemS.f (k : Nat) (l0 : List (S147)) (l1 : List (S147)) : Option (Bool) := if (l0.length : Int) = (l1.length : Int) then (laws_eqItemS.l0 k l0 l1 0) else (some false)
def laws_eqItemS.T6 : Bool × List (List Nat × List Nat) := (true, [([], []), ([], []), ([0, 1], [0, 1]), ([2], [2]), ([], []), ([], []), ([4, 5], [4, 5]), ([6], [6]), ([3, 7], [3, 7]), ([8], [8])])
def laws_eqItemS.B6 : List Nat := [0, 0, 3, 7, 0, 0, 48, 112, 255, 511]
theorem laws_eqItemS.tab6 : rtab .any (opsOf Try.f101 6) = laws_eqItemS.T6 := by kernel_rfl
theorem laws_eqItemS.bits6 : waitsOk laws_eqItemS.T6.2 laws_eqItemS.B6 = true := by kernel_rfl
set_option maxHeartbeats 8000000 in
set_option maxRecDepth 100000 in
theorem laws_eqItemS.calls (k : Nat) (A0 : Option Addr) (c0 : Nat) (l0 : List (S147)) (A1 : Option Addr) (c1 : Nat) (l1 : List (S147)) (r : Bool) (w : World) (hr0 : Kd.C k147 w A0 l0.length l0) (hc0 : l0.length ≤ c0) (hr1 : Kd.C k147 w A1 l1.length l1) (hc1 : l1.length ≤ c1) (h : laws_eqItemS.f k l0 l1 = some r) :
  Calls Try.prog 101 #[.slice A0 l0.length c0, .slice A1 l1.length c1] w fun e w' => e = .returned (.bool r) ∧ Below w.heap.size w w' := by
 have hu147 := Try.underlying147
 have HR0 := Aside0.mk hr0
 have HC0 := Aside0.mk hc0
 clear hr0 hc0
 have HR1 := Aside0.mk hr1
 have HC1 := Aside0.mk hc1
 clear hr1 hc1
 have HB := Aside0.mk (Below.refl w.heap.size w)
 have H : (if (l0.length : Int) = (l1.length : Int) then (laws_eqItemS.l0 k l0 l1 0) else (some false)) = some r := h
 clear h
 by_cases c3 : (l0.length : Int) = (l1.length : Int)
 ·rw [if_pos c3] at H
  have c3b0 : ((l0.length : Int) == (l1.length : Int)) = true := beq_iff_eq.mpr c3
  have c3b1 : ((l0.length : Int) != (l1.length : Int)) = false := bne_eq_false_iff_eq.mpr c3
  have c3b2 : (l0.length == l1.length) = true := by first | simpa using c3 | (simp at c3 ⊢; omega)
  clear c3
  have H' := Aside0.mk H
  clear H
  go_enter Try.func101, Try.ntmps101
  go_wp2
  go_loopg [5] k (fun kq v5 w' => ∃ (x5_1 : Int), v5 = .int .i64 x5_1 ∧ Aside0 (laws_eqItemS.l0 kq l0 l1 x5_1 = some r) ∧ Aside0 (kq ≤ k) ∧ Aside0 (Below w.heap.size w w'))
  case atStart => exact ⟨(0), (by first | rfl | (simp; done) | (simp [*]; done)), H', ⟨Nat.le_refl _⟩, ⟨by repeat (first | (with_reducible first | exact HB.out | apply below_alloc | apply pw_below_drewN | apply below_drew1) | exact HB.out)⟩⟩
  case round =>
   clear H'
   try clear c1; try clear p2; try clear c3; try clear c3b0; try clear c3b1; try clear c3b2
   obtain ⟨x5_1, rfl, HA, HK1, HB⟩ := hrel
   cases gk with
   | zero => exact absurd HA.out (by simp [laws_eqItemS.l0])
   | succ k1 =>
    have H := HA.out
    clear HA
    simp only [laws_eqItemS.l0] at H
    by_cases c4 : x5_1 < (l0.length : Int)
    ·rw [if_pos c4] at H
     have c4b0 : decide (x5_1 < (l0.length : Int)) = true := decide_eq_true c4
     clear c4
     by_cases c5 : 0 ≤ x5_1
     ·rw [if_pos c5] at H
      have c5b0 : decide (0 ≤ x5_1) = true := decide_eq_true c5
      clear c5
      by_cases c6 : x5_1 < (l1.length : Int)
      ·rw [if_pos c6] at H
       have c6b0 : decide (x5_1 < (l1.length : Int)) = true := decide_eq_true c6
       clear c6
       replace H := Option.bind_eq_some_iff.mp H
       obtain ⟨t319, A70, H⟩ := H
       replace H : (if t319 = true then (laws_eqItemS.l0 k1 l0 l1 (wrap64 (x5_1 + 1))) else (some false)) = some r := H
       have A7 := Aside0.mk A70
       clear A70
       by_cases c8 : t319 = true
       ·subst c8
        have H1 : (laws_eqItemS.l0 k1 l0 l1 (wrap64 (x5_1 + 1))) = some r := by rw [if_pos rfl] at H; exact H
        clear H
        have H := H1
        clear H1
        have H' := Aside0.mk H
        clear H
        try go_wp2
        replace HB := Aside0.mk (below_drew1 HB.out)
        have p317 : 0 ≤ (x5_1 : Int) := od
        have q317 : x5_1 < (l0.length : Int) := od
        obtain ⟨ad317, A317_4, c317_4, A317_5, c317_5, e317, hx317_0, hx317_1, hx317_2, hx317_3, hx317_4, hx317_5, hx317_6, hl317_4, hi317_4, hl317_5, hi317_5⟩ := at_T147 HR0.out x5_1 p317 q317
        have hw317_6 := hx317_6
        have hw317_5 := hx317_5
        have hw317_4 := hx317_4
        have hw317_3 := hx317_3
        have hw317_2 := hx317_2
        have hw317_1 := hx317_1
        have hw317_0 := hx317_0
        cases e317
        replace hx317_0 := hxb HB hx317_0
        replace hx317_1 := hxb HB hx317_1
        replace hx317_2 := hxb HB hx317_2
        replace hx317_3 := hxb HB hx317_3
        replace hx317_4 := hxb HB hx317_4
        replace hx317_5 := hxb HB hx317_5
        replace hx317_6 := hxb HB hx317_6
        have HR317_4 := Aside0.mk hi317_4
        have HC317_4 := Aside0.mk hl317_4
        clear hi317_4 hl317_4
        have HR317_5 := Aside0.mk hi317_5
        have HC317_5 := Aside0.mk hl317_5
        clear hi317_5 hl317_5
        replace p317 := eq_true p317
        replace q317 := eq_true q317
        have p318 : 0 ≤ (x5_1 : Int) := od
        have q318 : x5_1 < (l1.length : Int) := od
        obtain ⟨ad318, A318_4, c318_4, A318_5, c318_5, e318, hx318_0, hx318_1, hx318_2, hx318_3, hx318_4, hx318_5, hx318_6, hl318_4, hi318_4, hl318_5, hi318_5⟩ := at_T147 HR1.out x5_1 p318 q318
        have hw318_6 := hx318_6
        have hw318_5 := hx318_5
        have hw318_4 := hx318_4
        have hw318_3 := hx318_3
        have hw318_2 := hx318_2
        have hw318_1 := hx318_1
        have hw318_0 := hx318_0
        cases e318
        replace hx318_0 := hxb HB hx318_0
        replace hx318_1 := hxb HB hx318_1
        replace hx318_2 := hxb HB hx318_2
        replace hx318_3 := hxb HB hx318_3
        replace hx318_4 := hxb HB hx318_4
        replace hx318_5 := hxb HB hx318_5
        replace hx318_6 := hxb HB hx318_6
        have HR318_4 := Aside0.mk hi318_4
        have HC318_4 := Aside0.mk hl318_4
        clear hi318_4 hl318_4
        have HR318_5 := Aside0.mk hi318_5
        have HC318_5 := Aside0.mk hl318_5
        clear hi318_5 hl318_5
        replace p318 := eq_true p318
        replace q318 := eq_true q318
        refine start_ (n := 10) (S := fun w' => w'.cell? (ad317.add ((x5_1).toNat * 7)) = some (.int .i64 ((rd_T147 l0 x5_1).f0)) ∧ w'.cell? ⟨(ad317.add ((x5_1).toNat * 7)).block, (ad317.add ((x5_1).toNat * 7)).off + 1, none⟩ = some (.int .i64 ((rd_T147 l0 x5_1).f1.f0)) ∧ w'.cell? ⟨(ad317.add ((x5_1).toNat * 7)).block, (ad317.add ((x5_1).toNat * 7)).off + 2, none⟩ = some (.int .i64 ((rd_T147 l0 x5_1).f1.f1)) ∧ w'.cell? ⟨(ad317.add ((x5_1).toNat * 7)).block, (ad317.add ((x5_1).toNat * 7)).off + 3, none⟩ = some (.int .i64 ((rd_T147 l0 x5_1).f1.f2.f0)) ∧ w'.cell? ⟨(ad317.add ((x5_1).toNat * 7)).block, (ad317.add ((x5_1).toNat * 7)).off + 4, none⟩ = some (.slice A317_4 ((rd_T147 l0 x5_1).f1.f2.f1).length c317_4) ∧ w'.cell? ⟨(ad317.add ((x5_1).toNat * 7)).block, (ad317.add ((x5_1).toNat * 7)).off + 5, none⟩ = some (.slice A317_5 ((rd_T147 l0 x5_1).f1.f2.f2).length c317_5) ∧ w'.cell? ⟨(ad317.add ((x5_1).toNat * 7)).block, (ad317.add ((x5_1).toNat * 7)).off + 6, none⟩ = some (.int .i64 ((rd_T147 l0 x5_1).f1.f2.f3)) ∧ w'.cell? (ad318.add ((x5_1).toNat * 7)) = some (.int .i64 ((rd_T147 l1 x5_1).f0)) ∧ w'.cell? ⟨(ad318.add ((x5_1).toNat * 7)).block, (ad318.add ((x5_1).toNat * 7)).off + 1, none⟩ = some (.int .i64 ((rd_T147 l1 x5_1).f1.f0)) ∧ w'.cell? ⟨(ad318.add ((x5_1).toNat * 7)).block, (ad318.add ((x5_1).toNat * 7)).off + 2, none⟩ = some (.int .i64 ((rd_T147 l1 x5_1).f1.f1)) ∧ w'.cell? ⟨(ad318.add ((x5_1).toNat * 7)).block, (ad318.add ((x5_1).toNat * 7)).off + 3, none⟩ = some (.int .i64 ((rd_T147 l1 x5_1).f1.f2.f0)) ∧ w'.cell? ⟨(ad318.add ((x5_1).toNat * 7)).block, (ad318.add ((x5_1).toNat * 7)).off + 4, none⟩ = some (.slice A318_4 ((rd_T147 l1 x5_1).f1.f2.f1).length c318_4) ∧ w'.cell? ⟨(ad318.add ((x5_1).toNat * 7)).block, (ad318.add ((x5_1).toNat * 7)).off + 5, none⟩ = some (.slice A318_5 ((rd_T147 l1 x5_1).f1.f2.f2).length c318_5) ∧ w'.cell? ⟨(ad318.add ((x5_1).toNat * 7)).block, (ad318.add ((x5_1).toNat * 7)).off + 6, none⟩ = some (.int .i64 ((rd_T147 l1 x5_1).f1.f2.f3))) (ds := []) (tf 0 10) (by kernel_rfl) rfl rfl ⟨(hxb HB hw317_0 :), (hxb HB hw317_1 :), (hxb HB hw317_2 :), (hxb HB hw317_3 :), (hxb HB hw317_4 :), (hxb HB hw317_5 :), (hxb HB hw317_6 :), (hxb HB hw318_0 :), (hxb HB hw318_1 :), (hxb HB hw318_2 :), (hxb HB hw318_3 :), (hxb HB hw318_4 :), (hxb HB hw318_5 :), (hxb HB hw318_6 :)⟩ (fun hHeld => ?_); refine with_tabW laws_eqItemS.tab6 laws_eqItemS.bits6 (fun HT_ HW_ => ?_)
        generalize wr.drew = w9 at HB HR317_4 HR317_5 HR318_4 HR318_5 hx317_0 hx317_1 hx317_2 hx317_3 hx317_4 hx317_5 hx317_6 hx318_0 hx318_1 hx318_2 hx318_3 hx318_4 hx318_5 hx318_6 hHeld ⊢
        refine pv_ HT_ 0 (some 17) (tf 1 9) (h := ?_)
        refine pv_ HT_ 1 (some 18) (tf 2 8) (h := ?_)
        refine pv_ HT_ 2 (some 19) (tf 3 7) (h := ?_)
        refine pv_ HT_ 4 (some 21) (tb 10 23) (h := ?_)
        refine pv_ HT_ 5 (some 22) (tb 10 55) (h := ?_)
        refine pv_ HT_ 6 (some 23) (tb 10 119) (h := ?_)
        refine tv_ HT_ HW_ hHeld 3 (some 20) (tf 7 3) (h := ?_)
        refine tv_ HT_ HW_ hHeld 7 (some 24) (tf 8 2) (h := ?_)
        refine one_ (i := 8) (N := some 25) (tf 9 1) rfl rfl (one_of HT_.out (by kernel_rfl)) (by decide) (fun K hK => ?_)
        refine gs_ Try.func165 #[.agg #[.int .i64 ((rd_T147 l0 x5_1).f0), .int .i64 ((rd_T147 l0 x5_1).f1.f0), .int .i64 ((rd_T147 l0 x5_1).f1.f1), .int .i64 ((rd_T147 l0 x5_1).f1.f2.f0), .slice A317_4 ((rd_T147 l0 x5_1).f1.f2.f1).length c317_4, .slice A317_5 ((rd_T147 l0 x5_1).f1.f2.f2).length c317_5, .int .i64 ((rd_T147 l0 x5_1).f1.f2.f3)], .agg #[.int .i64 ((rd_T147 l1 x5_1).f0), .int .i64 ((rd_T147 l1 x5_1).f1.f0), .int .i64 ((rd_T147 l1 x5_1).f1.f1), .int .i64 ((rd_T147 l1 x5_1).f1.f2.f0), .slice A318_4 ((rd_T147 l1 x5_1).f1.f2.f1).length c318_4, .slice A318_5 ((rd_T147 l1 x5_1).f1.f2.f2).length c318_5, .int .i64 ((rd_T147 l1 x5_1).f1.f2.f3)]] (h := ?_)
        with_reducible refine (laws_eqItem.calls k1 ((rd_T147 l0 x5_1).f0) ((rd_T147 l0 x5_1).f1.f0) ((rd_T147 l0 x5_1).f1.f1) ((rd_T147 l0 x5_1).f1.f2.f0) _ _ ((rd_T147 l0 x5_1).f1.f2.f1) _ _ ((rd_T147 l0 x5_1).f1.f2.f2) ((rd_T147 l0 x5_1).f1.f2.f3) ((rd_T147 l1 x5_1).f0) ((rd_T147 l1 x5_1).f1.f0) ((rd_T147 l1 x5_1).f1.f1) ((rd_T147 l1 x5_1).f1.f2.f0) _ _ ((rd_T147 l1 x5_1).f1.f2.f1) _ _ ((rd_T147 l1 x5_1).f1.f2.f2) ((rd_T147 l1 x5_1).f1.f2.f3) true _ ?side1 ?side2 ?side3 ?side4 ?side5 ?side6 ?side7 ?side8 A7.out).mono ?_
        (case side1 => exact kcb)
        (case side2 => exact HC317_4.out)
        (case side3 => exact kcb)
        (case side4 => exact HC317_5.out)
        (case side5 => exact kcb)
        (case side6 => exact HC318_4.out)
        (case side7 => exact kcb)
        (case side8 => exact HC318_5.out)
        rintro e w10 ⟨rfl, hb⟩
        refine ⟨_, rfl, ?_⟩
        replace HB := Aside0.mk (below_step bel hb)
        (try clear hb)
        (try clear hb2)
        (try clear hk)
        (try clear hi)
        refine hK.out _ _ ⟨(hxb HB hw317_0 :), (hxb HB hw317_1 :), (hxb HB hw317_2 :), (hxb HB hw317_3 :), (hxb HB hw317_4 :), (hxb HB hw317_5 :), (hxb HB hw317_6 :), (hxb HB hw318_0 :), (hxb HB hw318_1 :), (hxb HB hw318_2 :), (hxb HB hw318_3 :), (hxb HB hw318_4 :), (hxb HB hw318_5 :), (hxb HB hw318_6 :)⟩ (fun hHeld => ?_)
        clear hK K
        refine norm_ (a' := ?_) ?_ ?_
        rotate_left
        ·show Act.put _ (some 25) _ = _
         simp only [Act.put, List.setIfInBounds_toArray, List.set_cons_zero, List.set_cons_succ, i64_w, i32_w]
         rfl
        refine pv_ HT_ 9 (some 26) (tf 10 0) (h := ?_)
        refine done_ (done_of HT_.out (by kernel_rfl)) ?_
        try go_wp2
        go_roundg k1
        case measure => have := HK1.out; omega
        case rel => exact ⟨(wrap64 (x5_1 + 1)), (by first | rfl | (simp; done) | (simp [*]; done)), H', ⟨by have := HK1.out; omega⟩, ⟨by repeat (first | (with_reducible first | exact HB.out | apply below_alloc | apply pw_below_drewN | apply below_drew1) | exact HB.out)⟩⟩
       ·replace c8 := Bool.eq_false_iff.mpr c8
        subst c8
        have H1 : (some false) = some r := by rw [if_neg (show ¬ (false = true) by decide)] at H; exact H
        clear H
        have H := H1
        clear H1
        obtain rfl := Option.some.inj H
        try go_wp2
        replace HB := Aside0.mk (below_drew1 HB.out)
        have p317 : 0 ≤ (x5_1 : Int) := od
        have q317 : x5_1 < (l0.length : Int) := od
        obtain ⟨ad317, A317_4, c317_4, A317_5, c317_5, e317, hx317_0, hx317_1, hx317_2, hx317_3, hx317_4, hx317_5, hx317_6, hl317_4, hi317_4, hl317_5, hi317_5⟩ := at_T147 HR0.out x5_1 p317 q317
        have hw317_6 := hx317_6
        have hw317_5 := hx317_5
        have hw317_4 := hx317_4
        have hw317_3 := hx317_3
        have hw317_2 := hx317_2
        have hw317_1 := hx317_1
        have hw317_0 := hx317_0
        cases e317
        replace hx317_0 := hxb HB hx317_0
        replace hx317_1 := hxb HB hx317_1
        replace hx317_2 := hxb HB hx317_2
        replace hx317_3 := hxb HB hx317_3
        replace hx317_4 := hxb HB hx317_4
        replace hx317_5 := hxb HB hx317_5
        replace hx317_6 := hxb HB hx317_6
        have HR317_4 := Aside0.mk hi317_4
        have HC317_4 := Aside0.mk hl317_4
        clear hi317_4 hl317_4
        have HR317_5 := Aside0.mk hi317_5
        have HC317_5 := Aside0.mk hl317_5
        clear hi317_5 hl317_5
        replace p317 := eq_true p317
        replace q317 := eq_true q317
        have p318 : 0 ≤ (x5_1 : Int) := od
        have q318 : x5_1 < (l1.length : Int) := od
        obtain ⟨ad318, A318_4, c318_4, A318_5, c318_5, e318, hx318_0, hx318_1, hx318_2, hx318_3, hx318_4, hx318_5, hx318_6, hl318_4, hi318_4, hl318_5, hi318_5⟩ := at_T147 HR1.out x5_1 p318 q318
        have hw318_6 := hx318_6
        have hw318_5 := hx318_5
        have hw318_4 := hx318_4
        have hw318_3 := hx318_3
        have hw318_2 := hx318_2
        have hw318_1 := hx318_1
        have hw318_0 := hx318_0
        cases e318
        replace hx318_0 := hxb HB hx318_0
        replace hx318_1 := hxb HB hx318_1
        replace hx318_2 := hxb HB hx318_2
        replace hx318_3 := hxb HB hx318_3
        replace hx318_4 := hxb HB hx318_4
        replace hx318_5 := hxb HB hx318_5
        replace hx318_6 := hxb HB hx318_6
        have HR318_4 := Aside0.mk hi318_4
        have HC318_4 := Aside0.mk hl318_4
        clear hi318_4 hl318_4
        have HR318_5 := Aside0.mk hi318_5
        have HC318_5 := Aside0.mk hl318_5
        clear hi318_5 hl318_5
        replace p318 := eq_true p318
        replace q318 := eq_true q318
        refine start_ (n := 10) (S := fun w' => w'.cell? (ad317.add ((x5_1).toNat * 7)) = some (.int .i64 ((rd_T147 l0 x5_1).f0)) ∧ w'.cell? ⟨(ad317.add ((x5_1).toNat * 7)).block, (ad317.add ((x5_1).toNat * 7)).off + 1, none⟩ = some (.int .i64 ((rd_T147 l0 x5_1).f1.f0)) ∧ w'.cell? ⟨(ad317.add ((x5_1).toNat * 7)).block, (ad317.add ((x5_1).toNat * 7)).off + 2, none⟩ = some (.int .i64 ((rd_T147 l0 x5_1).f1.f1)) ∧ w'.cell? ⟨(ad317.add ((x5_1).toNat * 7)).block, (ad317.add ((x5_1).toNat * 7)).off + 3, none⟩ = some (.int .i64 ((rd_T147 l0 x5_1).f1.f2.f0)) ∧ w'.cell? ⟨(ad317.add ((x5_1).toNat * 7)).block, (ad317.add ((x5_1).toNat * 7)).off + 4, none⟩ = some (.slice A317_4 ((rd_T147 l0 x5_1).f1.f2.f1).length c317_4) ∧ w'.cell? ⟨(ad317.add ((x5_1).toNat * 7)).block, (ad317.add ((x5_1).toNat * 7)).off + 5, none⟩ = some (.slice A317_5 ((rd_T147 l0 x5_1).f1.f2.f2).length c317_5) ∧ w'.cell? ⟨(ad317.add ((x5_1).toNat * 7)).block, (ad317.add ((x5_1).toNat * 7)).off + 6, none⟩ = some (.int .i64 ((rd_T147 l0 x5_1).f1.f2.f3)) ∧ w'.cell? (ad318.add ((x5_1).toNat * 7)) = some (.int .i64 ((rd_T147 l1 x5_1).f0)) ∧ w'.cell? ⟨(ad318.add ((x5_1).toNat * 7)).block, (ad318.add ((x5_1).toNat * 7)).off + 1, none⟩ = some (.int .i64 ((rd_T147 l1 x5_1).f1.f0)) ∧ w'.cell? ⟨(ad318.add ((x5_1).toNat * 7)).block, (ad318.add ((x5_1).toNat * 7)).off + 2, none⟩ = some (.int .i64 ((rd_T147 l1 x5_1).f1.f1)) ∧ w'.cell? ⟨(ad318.add ((x5_1).toNat * 7)).block, (ad318.add ((x5_1).toNat * 7)).off + 3, none⟩ = some (.int .i64 ((rd_T147 l1 x5_1).f1.f2.f0)) ∧ w'.cell? ⟨(ad318.add ((x5_1).toNat * 7)).block, (ad318.add ((x5_1).toNat * 7)).off + 4, none⟩ = some (.slice A318_4 ((rd_T147 l1 x5_1).f1.f2.f1).length c318_4) ∧ w'.cell? ⟨(ad318.add ((x5_1).toNat * 7)).block, (ad318.add ((x5_1).toNat * 7)).off + 5, none⟩ = some (.slice A318_5 ((rd_T147 l1 x5_1).f1.f2.f2).length c318_5) ∧ w'.cell? ⟨(ad318.add ((x5_1).toNat * 7)).block, (ad318.add ((x5_1).toNat * 7)).off + 6, none⟩ = some (.int .i64 ((rd_T147 l1 x5_1).f1.f2.f3))) (ds := []) (tf 0 10) (by kernel_rfl) rfl rfl ⟨(hxb HB hw317_0 :), (hxb HB hw317_1 :), (hxb HB hw317_2 :), (hxb HB hw317_3 :), (hxb HB hw317_4 :), (hxb HB hw317_5 :), (hxb HB hw317_6 :), (hxb HB hw318_0 :), (hxb HB hw318_1 :), (hxb HB hw318_2 :), (hxb HB hw318_3 :), (hxb HB hw318_4 :), (hxb HB hw318_5 :), (hxb HB hw318_6 :)⟩ (fun hHeld => ?_); refine with_tabW laws_eqItemS.tab6 laws_eqItemS.bits6 (fun HT_ HW_ => ?_)
        generalize wr.drew = w11 at HB HR317_4 HR317_5 HR318_4 HR318_5 hx317_0 hx317_1 hx317_2 hx317_3 hx317_4 hx317_5 hx317_6 hx318_0 hx318_1 hx318_2 hx318_3 hx318_4 hx318_5 hx318_6 hHeld ⊢
        refine pv_ HT_ 0 (some 17) (tf 1 9) (h := ?_)
        refine pv_ HT_ 1 (some 18) (tf 2 8) (h := ?_)
        refine pv_ HT_ 2 (some 19) (tf 3 7) (h := ?_)
        refine pv_ HT_ 4 (some 21) (tb 10 23) (h := ?_)
        refine pv_ HT_ 5 (some 22) (tb 10 55) (h := ?_)
        refine pv_ HT_ 6 (some 23) (tb 10 119) (h := ?_)
        refine tv_ HT_ HW_ hHeld 3 (some 20) (tf 7 3) (h := ?_)
        refine tv_ HT_ HW_ hHeld 7 (some 24) (tf 8 2) (h := ?_)
        refine one_ (i := 8) (N := some 25) (tf 9 1) rfl rfl (one_of HT_.out (by kernel_rfl)) (by decide) (fun K hK => ?_)
        refine gs_ Try.func165 #[.agg #[.int .i64 ((rd_T147 l0 x5_1).f0), .int .i64 ((rd_T147 l0 x5_1).f1.f0), .int .i64 ((rd_T147 l0 x5_1).f1.f1), .int .i64 ((rd_T147 l0 x5_1).f1.f2.f0), .slice A317_4 ((rd_T147 l0 x5_1).f1.f2.f1).length c317_4, .slice A317_5 ((rd_T147 l0 x5_1).f1.f2.f2).length c317_5, .int .i64 ((rd_T147 l0 x5_1).f1.f2.f3)], .agg #[.int .i64 ((rd_T147 l1 x5_1).f0), .int .i64 ((rd_T147 l1 x5_1).f1.f0), .int .i64 ((rd_T147 l1 x5_1).f1.f1), .int .i64 ((rd_T147 l1 x5_1).f1.f2.f0), .slice A318_4 ((rd_T147 l1 x5_1).f1.f2.f1).length c318_4, .slice A318_5 ((rd_T147 l1 x5_1).f1.f2.f2).length c318_5, .int .i64 ((rd_T147 l1 x5_1).f1.f2.f3)]] (h := ?_)
        with_reducible refine (laws_eqItem.calls k1 ((rd_T147 l0 x5_1).f0) ((rd_T147 l0 x5_1).f1.f0) ((rd_T147 l0 x5_1).f1.f1) ((rd_T147 l0 x5_1).f1.f2.f0) _ _ ((rd_T147 l0 x5_1).f1.f2.f1) _ _ ((rd_T147 l0 x5_1).f1.f2.f2) ((rd_T147 l0 x5_1).f1.f2.f3) ((rd_T147 l1 x5_1).f0) ((rd_T147 l1 x5_1).f1.f0) ((rd_T147 l1 x5_1).f1.f1) ((rd_T147 l1 x5_1).f1.f2.f0) _ _ ((rd_T147 l1 x5_1).f1.f2.f1) _ _ ((rd_T147 l1 x5_1).f1.f2.f2) ((rd_T147 l1 x5_1).f1.f2.f3) false _ ?side1 ?side2 ?side3 ?side4 ?side5 ?side6 ?side7 ?side8 A7.out).mono ?_
        (case side1 => exact kcb)
        (case side2 => exact HC317_4.out)
        (case side3 => exact kcb)
        (case side4 => exact HC317_5.out)
        (case side5 => exact kcb)
        (case side6 => exact HC318_4.out)
        (case side7 => exact kcb)
        (case side8 => exact HC318_5.out)
        rintro e w12 ⟨rfl, hb⟩
        refine ⟨_, rfl, ?_⟩
        replace HB := Aside0.mk (below_step bel hb)
        (try clear hb)
        (try clear hb2)
        (try clear hk)
        (try clear hi)
        refine hK.out _ _ ⟨(hxb HB hw317_0 :), (hxb HB hw317_1 :), (hxb HB hw317_2 :), (hxb HB hw317_3 :), (hxb HB hw317_4 :), (hxb HB hw317_5 :), (hxb HB hw317_6 :), (hxb HB hw318_0 :), (hxb HB hw318_1 :), (hxb HB hw318_2 :), (hxb HB hw318_3 :), (hxb HB hw318_4 :), (hxb HB hw318_5 :), (hxb HB hw318_6 :)⟩ (fun hHeld => ?_)
        clear hK K
        refine norm_ (a' := ?_) ?_ ?_
        rotate_left
        ·show Act.put _ (some 25) _ = _
         simp only [Act.put, List.setIfInBounds_toArray, List.set_cons_zero, List.set_cons_succ, i64_w, i32_w]
         rfl
        refine pv_ HT_ 9 (some 26) (tf 10 0) (h := ?_)
        refine done_ (done_of HT_.out (by kernel_rfl)) ?_
        try go_wp2
        go_ret
        exact ⟨by first | rfl | (simp [errW_none, errW_some] <;> rfl) | (simp [*, errW_none, errW_some] <;> rfl), by repeat (first | (with_reducible first | exact HB.out | apply below_alloc | apply pw_below_drewN | apply below_drew1) | exact HB.out)⟩
      ·rw [if_neg c6] at H
       exact absurd H (by simp)
     ·rw [if_neg c5] at H
      exact absurd H (by simp)
    ·rw [if_neg c4] at H
     have c4b0 : decide (x5_1 < (l0.length : Int)) = false := decide_eq_false c4
     clear c4
     obtain rfl := Option.some.inj H
     go_wp2
     go_ret
     exact ⟨by first | rfl | (simp [errW_none, errW_some] <;> rfl) | (simp [*, errW_none, errW_some] <;> rfl), by repeat (first | (with_reducible first | exact HB.out | apply below_alloc | apply pw_below_drewN | apply below_drew1) | exact HB.out)⟩
 ·rw [if_neg c3] at H
  have c3b0 : ((l0.length : Int) == (l1.length : Int)) = false := beq_eq_false_iff_ne.mpr c3
  have c3b1 : ((l0.length : Int) != (l1.length : Int)) = true := bne_iff_ne.mpr c3
  have c3b2 : (l0.length == l1.length) = false := by first | simpa using c3 | (simp at c3 ⊢; omega)
  obtain rfl := Option.some.inj H
  go_enter Try.func101, Try.ntmps101
  go_wp2
  go_ret
  exact ⟨by first | rfl | (simp [errW_none, errW_some] <;> rfl) | (simp [*, errW_none, errW_some] <;> rfl), by repeat (first | (with_reducible first | exact HB.out | apply below_alloc | apply pw_below_drewN | apply below_drew1) | exact HB.out)⟩

/-! ### laws_eqBoolS: function 102 -/
def laws_eqBoolS.l0 : Nat → List Bool → List Bool → Int → Option (Bool)
 | 0, _, _, _ => none
 | k + 1, x0, x1, x5 => if x5 < (x0.length : Int) then (if 0 ≤ x5 then (if x5 < (x1.length : Int) then (if ((rdOf false x0 x5) != (rdOf false x1 x5)) = true then (some false) else (laws_eqBoolS.l0 k x0 x1 (wrap64 (x5 + 1)))) else (none)) else (none)) else (some true)
def laws_eqBoolS.f (k : Nat) (l0 : List Bool) (l1 : List Bool) : Option (Bool) := if (l0.length : Int) = (l1.length : Int) then (laws_eqBoolS.l0 k l0 l1 0) else (some false)
set_option maxHeartbeats 8000000 in
set_option maxRecDepth 100000 in
theorem laws_eqBoolS.calls (k : Nat) (A0 : Option Addr) (c0 : Nat) (l0 : List Bool) (A1 : Option Addr) (c1 : Nat) (l1 : List Bool) (r : Bool) (w : World) (hr0 : Kd.C Kd.bool w A0 l0.length l0) (hc0 : l0.length ≤ c0) (hr1 : Kd.C Kd.bool w A1 l1.length l1) (hc1 : l1.length ≤ c1) (h : laws_eqBoolS.f k l0 l1 = some r) :
  Calls Try.prog 102 #[.slice A0 l0.length c0, .slice A1 l1.length c1] w fun e w' => e = .returned (.bool r) ∧ Drawn0 w w' := by
 have HR0 := Aside0.mk hr0
 have HC0 := Aside0.mk hc0
 clear hr0 hc0
 have HR1 := Aside0.mk hr1
 have HC1 := Aside0.mk hc1
 clear hr1 hc1
 have H : (if (l0.length : Int) = (l1.length : Int) then (laws_eqBoolS.l0 k l0 l1 0) else (some false)) = some r := h
 clear h
 by_cases c3 : (l0.length : Int) = (l1.length : Int)
 ·rw [if_pos c3] at H
  have c3b0 : ((l0.length : Int) == (l1.length : Int)) = true := beq_iff_eq.mpr c3
  have c3b1 : ((l0.length : Int) != (l1.length : Int)) = false := bne_eq_false_iff_eq.mpr c3
  have c3b2 : (l0.length == l1.length) = true := by first | simpa using c3 | (simp at c3 ⊢; omega)
  clear c3
  have H' := Aside0.mk H
  clear H
  go_enter Try.func102, Try.ntmps102
  go_wp2
  repeat (go_quiet (fail); try go_wp2)
  go_loopg [5] k (fun kq v5 w' => ∃ (x5_1 : Int), v5 = .int .i64 x5_1 ∧ Aside0 (laws_eqBoolS.l0 kq l0 l1 x5_1 = some r) ∧ Aside0 (kq ≤ k) ∧ Drawn0 w w')
  case atStart => exact ⟨(0), (by first | rfl | (simp; done) | (simp [*]; done)), H', ⟨Nat.le_refl _⟩, by repeat (first | exact Drawn0.refl _ | apply Drawn0.step)⟩
  case round =>
   clear H'
   try clear c1; try clear p2; try clear c3; try clear c3b0; try clear c3b1; try clear c3b2
   obtain ⟨x5_1, rfl, HA, HK1, ⟨m1, rfl⟩⟩ := hrel
   cases gk with
   | zero => exact absurd HA.out (by simp [laws_eqBoolS.l0])
   | succ k1 =>
    have H := HA.out
    clear HA
    simp only [laws_eqBoolS.l0] at H
    by_cases c4 : x5_1 < (l0.length : Int)
    ·rw [if_pos c4] at H
     have c4b0 : decide (x5_1 < (l0.length : Int)) = true := decide_eq_true c4
     clear c4
     by_cases c5 : 0 ≤ x5_1
     ·rw [if_pos c5] at H
      have c5b0 : decide (0 ≤ x5_1) = true := decide_eq_true c5
      clear c5
      by_cases c6 : x5_1 < (l1.length : Int)
      ·rw [if_pos c6] at H
       have c6b0 : decide (x5_1 < (l1.length : Int)) = true := decide_eq_true c6
       clear c6
       by_cases c7 : ((rdOf false l0 x5_1) != (rdOf false l1 x5_1)) = true
       ·rw [if_pos c7] at H
        have c7b0 : ((rdOf false l0 x5_1) != (rdOf false l1 x5_1)) = true := c7
        (try (have c7b1 : decide ((rdOf false l0 x5_1) = (rdOf false l1 x5_1)) = false := by simpa using c7))
        (try (have c7b2 : ((rdOf false l0 x5_1) == (rdOf false l1 x5_1)) = false := by simpa using c7))
        (try (have c7b3 : ¬ ((rdOf false l0 x5_1) = (rdOf false l1 x5_1)) := by simpa using c7))
        clear c7
        obtain rfl := Option.some.inj H
        have p320 : 0 ≤ (x5_1 : Int) := od
        have q320 : x5_1 < (l0.length : Int) := od
        obtain ⟨ad320, e320, hx320_0⟩ := Kd.at_bool HR0.out x5_1 p320 q320
        cases e320
        replace p320 := eq_true p320
        replace q320 := eq_true q320
        have p321 : 0 ≤ (x5_1 : Int) := od
        have q321 : x5_1 < (l1.length : Int) := od
        obtain ⟨ad321, e321, hx321_0⟩ := Kd.at_bool HR1.out x5_1 p321 q321
        cases e321
        replace p321 := eq_true p321
        replace q321 := eq_true q321
        go_wp2
        repeat (go_quiet (fail); try go_wp2)
        go_ret
        exact ⟨by first | rfl | (simp; done) | (simp [*]; done), by repeat (first | exact Drawn0.refl _ | apply Drawn0.step)⟩
       ·rw [if_neg c7] at H
        have c7b0 : ((rdOf false l0 x5_1) != (rdOf false l1 x5_1)) = false := by simpa using c7
        (try (have c7b1 : decide ((rdOf false l0 x5_1) = (rdOf false l1 x5_1)) = true := by simpa using c7))
        (try (have c7b2 : ((rdOf false l0 x5_1) == (rdOf false l1 x5_1)) = true := by simpa using c7))
        clear c7
        have H' := Aside0.mk H
        clear H
        have p320 : 0 ≤ (x5_1 : Int) := od
        have q320 : x5_1 < (l0.length : Int) := od
        obtain ⟨ad320, e320, hx320_0⟩ := Kd.at_bool HR0.out x5_1 p320 q320
        cases e320
        replace p320 := eq_true p320
        replace q320 := eq_true q320
        have p321 : 0 ≤ (x5_1 : Int) := od
        have q321 : x5_1 < (l1.length : Int) := od
        obtain ⟨ad321, e321, hx321_0⟩ := Kd.at_bool HR1.out x5_1 p321 q321
        cases e321
        replace p321 := eq_true p321
        replace q321 := eq_true q321
        go_wp2
        repeat (go_quiet (fail); try go_wp2)
        go_roundg k1
        case measure => have := HK1.out; omega
        case rel => exact ⟨(wrap64 (x5_1 + 1)), (by first | rfl | (simp; done) | (simp [*]; done)), H', ⟨by have := HK1.out; omega⟩, by repeat (first | exact Drawn0.refl _ | apply Drawn0.step)⟩
      ·rw [if_neg c6] at H
       exact absurd H (by simp)
     ·rw [if_neg c5] at H
      exact absurd H (by simp)
    ·rw [if_neg c4] at H
     have c4b0 : decide (x5_1 < (l0.length : Int)) = false := decide_eq_false c4
     clear c4
     obtain rfl := Option.some.inj H
     go_wp2
     repeat (go_quiet (fail); try go_wp2)
     go_ret
     exact ⟨by first | rfl | (simp; done) | (simp [*]; done), by repeat (first | exact Drawn0.refl _ | apply Drawn0.step)⟩
 ·rw [if_neg c3] at H
  have c3b0 : ((l0.length : Int) == (l1.length : Int)) = false := beq_eq_false_iff_ne.mpr c3
  have c3b1 : ((l0.length : Int) != (l1.length : Int)) = true := bne_iff_ne.mpr c3
  have c3b2 : (l0.length == l1.length) = false := by first | simpa using c3 | (simp at c3 ⊢; omega)
  obtain rfl := Option.some.inj H
  go_enter Try.func102, Try.ntmps102
  go_wp2
  repeat (go_quiet (fail); try go_wp2)
  go_ret
  exact ⟨by first | rfl | (simp; done) | (simp [*]; done), by repeat (first | exact Drawn0.refl _ | apply Drawn0.step)⟩

/-! ### laws_eqIntS: function 103 -/
def laws_eqIntS.l0 : Nat → List Int → List Int → Int → Option (Bool)
 | 0, _, _, _ => none
 | k + 1, x0, x1, x5 => if x5 < (x0.length : Int) then (if 0 ≤ x5 then (if x5 < (x1.length : Int) then (if (rd x0 x5) = (rd x1 x5) then (laws_eqIntS.l0 k x0 x1 (wrap64 (x5 + 1))) else (some false)) else (none)) else (none)) else (some true)
def laws_eqIntS.f (k : Nat) (l0 : List Int) (l1 : List Int) : Option (Bool) := if (l0.length : Int) = (l1.length : Int) then (laws_eqIntS.l0 k l0 l1 0) else (some false)
set_option maxHeartbeats 8000000 in
set_option maxRecDepth 100000 in
theorem laws_eqIntS.calls (k : Nat) (A0 : Option Addr) (c0 : Nat) (l0 : List Int) (A1 : Option Addr) (c1 : Nat) (l1 : List Int) (r : Bool) (w : World) (hr0 : Kd.C (Kd.int .i64) w A0 l0.length l0) (hc0 : l0.length ≤ c0) (hr1 : Kd.C (Kd.int .i64) w A1 l1.length l1) (hc1 : l1.length ≤ c1) (h : laws_eqIntS.f k l0 l1 = some r) :
  Calls Try.prog 103 #[.slice A0 l0.length c0, .slice A1 l1.length c1] w fun e w' => e = .returned (.bool r) ∧ Drawn0 w w' := by
 have HR0 := Aside0.mk hr0
 have HC0 := Aside0.mk hc0
 clear hr0 hc0
 have HR1 := Aside0.mk hr1
 have HC1 := Aside0.mk hc1
 clear hr1 hc1
 have H : (if (l0.length : Int) = (l1.length : Int) then (laws_eqIntS.l0 k l0 l1 0) else (some false)) = some r := h
 clear h
 by_cases c3 : (l0.length : Int) = (l1.length : Int)
 ·rw [if_pos c3] at H
  have c3b0 : ((l0.length : Int) == (l1.length : Int)) = true := beq_iff_eq.mpr c3
  have c3b1 : ((l0.length : Int) != (l1.length : Int)) = false := bne_eq_false_iff_eq.mpr c3
  have c3b2 : (l0.length == l1.length) = true := by first | simpa using c3 | (simp at c3 ⊢; omega)
  clear c3
  have H' := Aside0.mk H
  clear H
  go_enter Try.func103, Try.ntmps103
  go_wp2
  repeat (go_quiet (fail); try go_wp2)
  go_loopg [5] k (fun kq v5 w' => ∃ (x5_1 : Int), v5 = .int .i64 x5_1 ∧ Aside0 (laws_eqIntS.l0 kq l0 l1 x5_1 = some r) ∧ Aside0 (kq ≤ k) ∧ Drawn0 w w')
  case atStart => exact ⟨(0), (by first | rfl | (simp; done) | (simp [*]; done)), H', ⟨Nat.le_refl _⟩, by repeat (first | exact Drawn0.refl _ | apply Drawn0.step)⟩
  case round =>
   clear H'
   try clear c1; try clear p2; try clear c3; try clear c3b0; try clear c3b1; try clear c3b2
   obtain ⟨x5_1, rfl, HA, HK1, ⟨m1, rfl⟩⟩ := hrel
   cases gk with
   | zero => exact absurd HA.out (by simp [laws_eqIntS.l0])
   | succ k1 =>
    have H := HA.out
    clear HA
    simp only [laws_eqIntS.l0] at H
    by_cases c4 : x5_1 < (l0.length : Int)
    ·rw [if_pos c4] at H
     have c4b0 : decide (x5_1 < (l0.length : Int)) = true := decide_eq_true c4
     clear c4
     by_cases c5 : 0 ≤ x5_1
     ·rw [if_pos c5] at H
      have c5b0 : decide (0 ≤ x5_1) = true := decide_eq_true c5
      clear c5
      by_cases c6 : x5_1 < (l1.length : Int)
      ·rw [if_pos c6] at H
       have c6b0 : decide (x5_1 < (l1.length : Int)) = true := decide_eq_true c6
       clear c6
       by_cases c7 : (rd l0 x5_1) = (rd l1 x5_1)
       ·rw [if_pos c7] at H
        have c7b0 : ((rd l0 x5_1) == (rd l1 x5_1)) = true := beq_iff_eq.mpr c7
        have c7b1 : ((rd l0 x5_1) != (rd l1 x5_1)) = false := bne_eq_false_iff_eq.mpr c7
        clear c7
        have H' := Aside0.mk H
        clear H
        have p322 : 0 ≤ (x5_1 : Int) := od
        have q322 : x5_1 < (l0.length : Int) := od
        obtain ⟨ad322, e322, hx322_0⟩ := Kd.at_int HR0.out x5_1 p322 q322
        cases e322
        replace p322 := eq_true p322
        replace q322 := eq_true q322
        have p323 : 0 ≤ (x5_1 : Int) := od
        have q323 : x5_1 < (l1.length : Int) := od
        obtain ⟨ad323, e323, hx323_0⟩ := Kd.at_int HR1.out x5_1 p323 q323
        cases e323
        replace p323 := eq_true p323
        replace q323 := eq_true q323
        go_wp2
        repeat (go_quiet (fail); try go_wp2)
        go_roundg k1
        case measure => have := HK1.out; omega
        case rel => exact ⟨(wrap64 (x5_1 + 1)), (by first | rfl | (simp; done) | (simp [*]; done)), H', ⟨by have := HK1.out; omega⟩, by repeat (first | exact Drawn0.refl _ | apply Drawn0.step)⟩
       ·rw [if_neg c7] at H
        have c7b0 : ((rd l0 x5_1) == (rd l1 x5_1)) = false := beq_eq_false_iff_ne.mpr c7
        have c7b1 : ((rd l0 x5_1) != (rd l1 x5_1)) = true := bne_iff_ne.mpr c7
        obtain rfl := Option.some.inj H
        have p322 : 0 ≤ (x5_1 : Int) := od
        have q322 : x5_1 < (l0.length : Int) := od
        obtain ⟨ad322, e322, hx322_0⟩ := Kd.at_int HR0.out x5_1 p322 q322
        cases e322
        replace p322 := eq_true p322
        replace q322 := eq_true q322
        have p323 : 0 ≤ (x5_1 : Int) := od
        have q323 : x5_1 < (l1.length : Int) := od
        obtain ⟨ad323, e323, hx323_0⟩ := Kd.at_int HR1.out x5_1 p323 q323
        cases e323
        replace p323 := eq_true p323
        replace q323 := eq_true q323
        go_wp2
        repeat (go_quiet (fail); try go_wp2)
        go_ret
        exact ⟨by first | rfl | (simp; done) | (simp [*]; done), by repeat (first | exact Drawn0.refl _ | apply Drawn0.step)⟩
      ·rw [if_neg c6] at H
       exact absurd H (by simp)
     ·rw [if_neg c5] at H
      exact absurd H (by simp)
    ·rw [if_neg c4] at H
     have c4b0 : decide (x5_1 < (l0.length : Int)) = false := decide_eq_false c4
     clear c4
     obtain rfl := Option.some.inj H
     go_wp2
     repeat (go_quiet (fail); try go_wp2)
     go_ret
     exact ⟨by first | rfl | (simp; done) | (simp [*]; done), by repeat (first | exact Drawn0.refl _ | apply Drawn0.step)⟩
 ·rw [if_neg c3] at H
  have c3b0 : ((l0.length : Int) == (l1.length : Int)) = false := beq_eq_false_iff_ne.mpr c3
  have c3b1 : ((l0.length : Int) != (l1.length : Int)) = true := bne_iff_ne.mpr c3
  have c3b2 : (l0.length == l1.length) = false := by first | simpa using c3 | (simp at c3 ⊢; omega)
  obtain rfl := Option.some.inj H
  go_enter Try.func103, Try.ntmps103
  go_wp2
  repeat (go_quiet (fail); try go_wp2)
  go_ret
  exact ⟨by first | rfl | (simp; done) | (simp [*]; done), by repeat (first | exact Drawn0.refl _ | apply Drawn0.step)⟩

/-! ### laws_eqNode: function 24 -/
def laws_eqNode.f (k : Nat) (a0_0 : Int) (a0_1 : Int) (a0_2 : Int) (l0_3 : List (S147)) (a0_4 : Int) (a0_5 : Int) (a0_6 : Int) (a0_7 : Int) (l0_8 : List Bool) (l0_9 : List Int) (l0_10 : List Int) (a1_0 : Int) (a1_1 : Int) (a1_2 : Int) (l1_3 : List (S147)) (a1_4 : Int) (a1_5 : Int) (a1_6 : Int) (a1_7 : Int) (l1_8 : List Bool) (l1_9 : List Int) (l1_10 : List Int) : Option (Bool) := if a0_0 = a1_0 then (if a0_1 = a1_1 then (if a0_2 = a1_2 then ((laws_eqItemS.f k l0_3 l1_3).bind fun t326 => (if t326 = true then (if a0_4 = a1_4 then (if a0_5 = a1_5 then (if a0_6 = a1_6 then (if a0_7 = a1_7 then ((laws_eqBoolS.f k l0_8 l1_8).bind fun t327 => (if t327 = true then ((laws_eqIntS.f k l0_9 l1_9).bind fun t328 => (if t328 = true then ((laws_eqIntS.f k l0_10 l1_10).bind fun t329 => (if t329 = true then (some true) else (some false))) else (some false))) else (some false))) else (some false)) else (some false)) else (some false)) else (some false)) else (some false))) else (some false)) else (some false)) else (some false)
set_option maxHeartbeats 8000000 in
set_option maxRecDepth 100000 in
theorem laws_eqNode.calls (k : Nat) (a0_0 : Int) (a0_1 : Int) (a0_2 : Int) (A0_3 : Option Addr) (c0_3 : Nat) (l0_3 : List (S147)) (a0_4 : Int) (a0_5 : Int) (a0_6 : Int) (a0_7 : Int) (A0_8 : Option Addr) (c0_8 : Nat) (l0_8 : List Bool) (A0_9 : Option Addr) (c0_9 : Nat) (l0_9 : List Int) (A0_10 : Option Addr) (c0_10 : Nat) (l0_10 : List Int) (a1_0 : Int) (a1_1 : Int) (a1_2 : Int) (A1_3 : Option Addr) (c1_3 : Nat) (l1_3 : List (S147)) (a1_4 : Int) (a1_5 : Int) (a1_6 : Int) (a1_7 : Int) (A1_8 : Option Addr) (c1_8 : Nat) (l1_8 : List Bool) (A1_9 : Option Addr) (c1_9 : Nat) (l1_9 : List Int) (A1_10 : Option Addr) (c1_10 : Nat) (l1_10 : List Int) (r : Bool) (w : World) (hr0_3 : Kd.C k147 w A0_3 l0_3.length l0_3) (hc0_3 : l0_3.length ≤ c0_3) (hr0_8 : Kd.C Kd.bool w A0_8 l0_8.length l0_8) (hc0_8 : l0_8.length ≤ c0_8) (hr0_9 : Kd.C (Kd.int .i64) w A0_9 l0_9.length l0_9) (hc0_9 : l0_9.length ≤ c0_9) (hr0_10 : Kd.C (Kd.int .i64) w A0_10 l0_10.length l0_10) (hc0_10 : l0_10.length ≤ c0_10) (hr1_3 : Kd.C k147 w A1_3 l1_3.length l1_3) (hc1_3 : l1_3.length ≤ c1_3) (hr1_8 : Kd.C Kd.bool w A1_8 l1_8.length l1_8) (hc1_8 : l1_8.length ≤ c1_8) (hr1_9 : Kd.C (Kd.int .i64) w A1_9 l1_9.length l1_9) (hc1_9 : l1_9.length ≤ c1_9) (hr1_10 : Kd.C (Kd.int .i64) w A1_10 l1_10.length l1_10) (hc1_10 : l1_10.length ≤ c1_10) (h : laws_eqNode.f k a0_0 a0_1 a0_2 l0_3 a0_4 a0_5 a0_6 a0_7 l0_8 l0_9 l0_10 a1_0 a1_1 a1_2 l1_3 a1_4 a1_5 a1_6 a1_7 l1_8 l1_9 l1_10 = some r) :
  Calls Try.prog 24 #[.agg #[.int .i64 a0_0, .int .i64 a0_1, .int .i64 a0_2, .slice A0_3 l0_3.length c0_3, .int .i64 a0_4, .int .i64 a0_5, .int .i64 a0_6, .int .i64 a0_7, .slice A0_8 l0_8.length c0_8, .slice A0_9 l0_9.length c0_9, .slice A0_10 l0_10.length c0_10], .agg #[.int .i64 a1_0, .int .i64 a1_1, .int .i64 a1_2, .slice A1_3 l1_3.length c1_3, .int .i64 a1_4, .int .i64 a1_5, .int .i64 a1_6, .int .i64 a1_7, .slice A1_8 l1_8.length c1_8, .slice A1_9 l1_9.length c1_9, .slice A1_10 l1_10.length c1_10]] w fun e w' => e = .returned (.bool r) ∧ Below w.heap.size w w' := by
 have hu48 := Try.underlying48
 have HR0_3 := Aside0.mk hr0_3
 have HC0_3 := Aside0.mk hc0_3
 clear hr0_3 hc0_3
 have HR0_8 := Aside0.mk hr0_8
 have HC0_8 := Aside0.mk hc0_8
 clear hr0_8 hc0_8
 have HR0_9 := Aside0.mk hr0_9
 have HC0_9 := Aside0.mk hc0_9
 clear hr0_9 hc0_9
 have HR0_10 := Aside0.mk hr0_10
 have HC0_10 := Aside0.mk hc0_10
 clear hr0_10 hc0_10
 have HR1_3 := Aside0.mk hr1_3
 have HC1_3 := Aside0.mk hc1_3
 clear hr1_3 hc1_3
 have HR1_8 := Aside0.mk hr1_8
 have HC1_8 := Aside0.mk hc1_8
 clear hr1_8 hc1_8
 have HR1_9 := Aside0.mk hr1_9
 have HC1_9 := Aside0.mk hc1_9
 clear hr1_9 hc1_9
 have HR1_10 := Aside0.mk hr1_10
 have HC1_10 := Aside0.mk hc1_10
 clear hr1_10 hc1_10
 have HB := Aside0.mk (Below.refl w.heap.size w)
 have H : (if a0_0 = a1_0 then (if a0_1 = a1_1 then (if a0_2 = a1_2 then ((laws_eqItemS.f k l0_3 l1_3).bind fun t326 => (if t326 = true then (if a0_4 = a1_4 then (if a0_5 = a1_5 then (if a0_6 = a1_6 then (if a0_7 = a1_7 then ((laws_eqBoolS.f k l0_8 l1_8).bind fun t327 => (if t327 = true then ((laws_eqIntS.f k l0_9 l1_9).bind fun t328 => (if t328 = true then ((laws_eqIntS.f k l0_10 l1_10).bind fun t329 => (if t329 = true then (some true) else (some false))) else (some false))) else (some false))) else (some false)) else (some false)) else (some false)) else (some false)) else (some false))) else (some false)) else (some false)) else (some false)) = some r := h
 clear h
 by_cases c3 : a0_0 = a1_0
 ·rw [if_pos c3] at H
  have c3b0 : (a0_0 == a1_0) = true := beq_iff_eq.mpr c3
  have c3b1 : (a0_0 != a1_0) = false := bne_eq_false_iff_eq.mpr c3
  clear c3
  by_cases c4 : a0_1 = a1_1
  ·rw [if_pos c4] at H
   have c4b0 : (a0_1 == a1_1) = true := beq_iff_eq.mpr c4
   have c4b1 : (a0_1 != a1_1) = false := bne_eq_false_iff_eq.mpr c4
   clear c4
   by_cases c5 : a0_2 = a1_2
   ·rw [if_pos c5] at H
    have c5b0 : (a0_2 == a1_2) = true := beq_iff_eq.mpr c5
    have c5b1 : (a0_2 != a1_2) = false := bne_eq_false_iff_eq.mpr c5
    clear c5
    replace H := Option.bind_eq_some_iff.mp H
    obtain ⟨t326, A60, H⟩ := H
    replace H : (if t326 = true then (if a0_4 = a1_4 then (if a0_5 = a1_5 then (if a0_6 = a1_6 then (if a0_7 = a1_7 then ((laws_eqBoolS.f k l0_8 l1_8).bind fun t327 => (if t327 = true then ((laws_eqIntS.f k l0_9 l1_9).bind fun t328 => (if t328 = true then ((laws_eqIntS.f k l0_10 l1_10).bind fun t329 => (if t329 = true then (some true) else (some false))) else (some false))) else (some false))) else (some false)) else (some false)) else (some false)) else (some false)) else (some false)) = some r := H
    have A6 := Aside0.mk A60
    clear A60
    by_cases c7 : t326 = true
    ·subst c7
     have H1 : (if a0_4 = a1_4 then (if a0_5 = a1_5 then (if a0_6 = a1_6 then (if a0_7 = a1_7 then ((laws_eqBoolS.f k l0_8 l1_8).bind fun t327 => (if t327 = true then ((laws_eqIntS.f k l0_9 l1_9).bind fun t328 => (if t328 = true then ((laws_eqIntS.f k l0_10 l1_10).bind fun t329 => (if t329 = true then (some true) else (some false))) else (some false))) else (some false))) else (some false)) else (some false)) else (some false)) else (some false)) = some r := by rw [if_pos rfl] at H; exact H
     clear H
     have H := H1
     clear H1
     by_cases c8 : a0_4 = a1_4
     ·rw [if_pos c8] at H
      have c8b0 : (a0_4 == a1_4) = true := beq_iff_eq.mpr c8
      have c8b1 : (a0_4 != a1_4) = false := bne_eq_false_iff_eq.mpr c8
      clear c8
      by_cases c9 : a0_5 = a1_5
      ·rw [if_pos c9] at H
       have c9b0 : (a0_5 == a1_5) = true := beq_iff_eq.mpr c9
       have c9b1 : (a0_5 != a1_5) = false := bne_eq_false_iff_eq.mpr c9
       clear c9
       by_cases c10 : a0_6 = a1_6
       ·rw [if_pos c10] at H
        have c10b0 : (a0_6 == a1_6) = true := beq_iff_eq.mpr c10
        have c10b1 : (a0_6 != a1_6) = false := bne_eq_false_iff_eq.mpr c10
        clear c10
        by_cases c11 : a0_7 = a1_7
        ·rw [if_pos c11] at H
         have c11b0 : (a0_7 == a1_7) = true := beq_iff_eq.mpr c11
         have c11b1 : (a0_7 != a1_7) = false := bne_eq_false_iff_eq.mpr c11
         clear c11
         replace H := Option.bind_eq_some_iff.mp H
         obtain ⟨t327, A120, H⟩ := H
         replace H : (if t327 = true then ((laws_eqIntS.f k l0_9 l1_9).bind fun t328 => (if t328 = true then ((laws_eqIntS.f k l0_10 l1_10).bind fun t329 => (if t329 = true then (some true) else (some false))) else (some false))) else (some false)) = some r := H
         have A12 := Aside0.mk A120
         clear A120
         by_cases c13 : t327 = true
         ·subst c13
          have H1 : ((laws_eqIntS.f k l0_9 l1_9).bind fun t328 => (if t328 = true then ((laws_eqIntS.f k l0_10 l1_10).bind fun t329 => (if t329 = true then (some true) else (some false))) else (some false))) = some r := by rw [if_pos rfl] at H; exact H
          clear H
          have H := H1
          clear H1
          replace H := Option.bind_eq_some_iff.mp H
          obtain ⟨t328, A140, H⟩ := H
          replace H : (if t328 = true then ((laws_eqIntS.f k l0_10 l1_10).bind fun t329 => (if t329 = true then (some true) else (some false))) else (some false)) = some r := H
          have A14 := Aside0.mk A140
          clear A140
          by_cases c15 : t328 = true
          ·subst c15
           have H1 : ((laws_eqIntS.f k l0_10 l1_10).bind fun t329 => (if t329 = true then (some true) else (some false))) = some r := by rw [if_pos rfl] at H; exact H
           clear H
           have H := H1
           clear H1
           replace H := Option.bind_eq_some_iff.mp H
           obtain ⟨t329, A160, H⟩ := H
           replace H : (if t329 = true then (some true) else (some false)) = some r := H
           have A16 := Aside0.mk A160
           clear A160
           by_cases c17 : t329 = true
           ·subst c17
            have H1 : (some true) = some r := by rw [if_pos rfl] at H; exact H
            clear H
            have H := H1
            clear H1
            obtain rfl := Option.some.inj H
            go_enter Try.func24, Try.ntmps24
            go_wp2_with (first | ((with_reducible refine gate_dst (N := 2) rfl ?_); refine bx_ 2 #[.int .i64 a0_0, .int .i64 a0_1, .int .i64 a0_2, .slice A0_3 l0_3.length c0_3, .int .i64 a0_4, .int .i64 a0_5, .int .i64 a0_6, .int .i64 a0_7, .slice A0_8 l0_8.length c0_8, .slice A0_9 l0_9.length c0_9, .slice A0_10 l0_10.length c0_10] 48 (h := ?_); intro gb324 hg w18 hbox hb; have BK324 := Aside0.mk (hbox); have GW324 := Aside0.mk ((by rw [hg]; exact (below_size bel) : w.heap.size ≤ gb324)); have GE324 := Aside0.mk ((by rw [hg]; exact (below_size bel) : w.heap.size ≤ gb324)); replace HB := Aside0.mk (below_step bel hb); clear hb hbox hg) | ((with_reducible refine gate_dst (N := 3) rfl ?_); refine bx_ 3 #[.int .i64 a1_0, .int .i64 a1_1, .int .i64 a1_2, .slice A1_3 l1_3.length c1_3, .int .i64 a1_4, .int .i64 a1_5, .int .i64 a1_6, .int .i64 a1_7, .slice A1_8 l1_8.length c1_8, .slice A1_9 l1_9.length c1_9, .slice A1_10 l1_10.length c1_10] 48 (h := ?_); intro gb325 hg w19 hbox hb; have BK325 := Aside0.mk (hbox); have GW325 := Aside0.mk ((by rw [hg]; exact (below_size bel) : w.heap.size ≤ gb325)); have GE325 := Aside0.mk ((by rw [hg]; exact (below_size bel) : w.heap.size ≤ gb325)); have NB324_325 := Aside0.mk ((by rw [hg]; exact Nat.ne_of_lt (blt BK324) : gb324 ≠ gb325)); have NB325_324 := Aside0.mk ((by rw [hg]; exact Nat.ne_of_gt (blt BK324) : gb325 ≠ gb324)); replace BK324 := Aside0.mk (blb BK324 hb); replace HB := Aside0.mk (below_step bel hb); clear hb hbox hg; have hnb20 := NB324_325.out; have hnc20 := NB325_324.out; obtain ⟨hcz21_0, hcz21_1, hcz21_2, hcz21_3, hcz21_4, hcz21_5, hcz21_6, hcz21_7, hcz21_8, hcz21_9, hcz21_10, -⟩ := cells_11 BK324.out trivial; obtain ⟨hfz21_0, hfz21_1, hfz21_2, hfz21_3, hfz21_4, hfz21_5, hfz21_6, hfz21_7, hfz21_8, hfz21_9, hfz21_10, -⟩ := frz_11 BK324.out; obtain ⟨hcz22_0, hcz22_1, hcz22_2, hcz22_3, hcz22_4, hcz22_5, hcz22_6, hcz22_7, hcz22_8, hcz22_9, hcz22_10, -⟩ := cells_11 BK325.out trivial; obtain ⟨hfz22_0, hfz22_1, hfz22_2, hfz22_3, hfz22_4, hfz22_5, hfz22_6, hfz22_7, hfz22_8, hfz22_9, hfz22_10, -⟩ := frz_11 BK325.out) | ((with_reducible refine gate_callee (f := 101) rfl ?_); refine gl_ (some 24) Try.func101 #[.slice A0_3 l0_3.length c0_3, .slice A1_3 l1_3.length c1_3] (h := ?_); (with_reducible refine (laws_eqItemS.calls k _ _ l0_3 _ _ l1_3 true _ ?side1 ?side2 ?side3 ?side4 A6.out).mono ?_); (case side1 => exact kcb); (case side2 => exact HC0_3.out); (case side3 => exact kcb); (case side4 => exact HC1_3.out); rintro e w23 ⟨rfl, hb⟩; refine ⟨_, rfl, ?_⟩; replace BK324 := Aside0.mk (blb BK324 hb); replace BK325 := Aside0.mk (blb BK325 hb); replace HB := Aside0.mk (below_step bel hb); (try clear hb); (try clear hb2); (try clear hk); (try clear hi); obtain ⟨hcz24_0, hcz24_1, hcz24_2, hcz24_3, hcz24_4, hcz24_5, hcz24_6, hcz24_7, hcz24_8, hcz24_9, hcz24_10, -⟩ := cells_11 BK324.out trivial; obtain ⟨hfz24_0, hfz24_1, hfz24_2, hfz24_3, hfz24_4, hfz24_5, hfz24_6, hfz24_7, hfz24_8, hfz24_9, hfz24_10, -⟩ := frz_11 BK324.out; obtain ⟨hcz25_0, hcz25_1, hcz25_2, hcz25_3, hcz25_4, hcz25_5, hcz25_6, hcz25_7, hcz25_8, hcz25_9, hcz25_10, -⟩ := cells_11 BK325.out trivial; obtain ⟨hfz25_0, hfz25_1, hfz25_2, hfz25_3, hfz25_4, hfz25_5, hfz25_6, hfz25_7, hfz25_8, hfz25_9, hfz25_10, -⟩ := frz_11 BK325.out) | ((with_reducible refine gate_callee (f := 102) rfl ?_); refine gl_ (some 50) Try.func102 #[.slice A0_8 l0_8.length c0_8, .slice A1_8 l1_8.length c1_8] (h := ?_); (with_reducible refine (laws_eqBoolS.calls k _ _ l0_8 _ _ l1_8 true _ ?side1 ?side2 ?side3 ?side4 A12.out).mono ?_); (case side1 => exact kcb); (case side2 => exact HC0_8.out); (case side3 => exact kcb); (case side4 => exact HC1_8.out); rintro e w' ⟨rfl, ⟨nd, rfl⟩⟩; refine ⟨_, rfl, ?_⟩) | ((with_reducible refine gate_callee (f := 103) rfl ?_); refine gl_ (some 56) Try.func103 #[.slice A0_9 l0_9.length c0_9, .slice A1_9 l1_9.length c1_9] (h := ?_); (with_reducible refine (laws_eqIntS.calls k _ _ l0_9 _ _ l1_9 true _ ?side1 ?side2 ?side3 ?side4 A14.out).mono ?_); (case side1 => exact kcb); (case side2 => exact HC0_9.out); (case side3 => exact kcb); (case side4 => exact HC1_9.out); rintro e w' ⟨rfl, ⟨nd, rfl⟩⟩; refine ⟨_, rfl, ?_⟩) | ((with_reducible refine gate_callee (f := 103) rfl ?_); refine gl_ (some 62) Try.func103 #[.slice A0_10 l0_10.length c0_10, .slice A1_10 l1_10.length c1_10] (h := ?_); (with_reducible refine (laws_eqIntS.calls k _ _ l0_10 _ _ l1_10 true _ ?side1 ?side2 ?side3 ?side4 A16.out).mono ?_); (case side1 => exact kcb); (case side2 => exact HC0_10.out); (case side3 => exact kcb); (case side4 => exact HC1_10.out); rintro e w' ⟨rfl, ⟨nd, rfl⟩⟩; refine ⟨_, rfl, ?_⟩))
            go_ret
            exact ⟨by first | rfl | (simp [errW_none, errW_some] <;> rfl) | (simp [*, errW_none, errW_some] <;> rfl), by repeat (first | (with_reducible first | exact HB.out | apply below_alloc | apply pw_below_drewN | apply below_drew1 | refine below_set ?_ GE324.out | refine below_set ?_ GE325.out) | exact HB.out)⟩
           ·replace c17 := Bool.eq_false_iff.mpr c17
            subst c17
            have H1 : (some false) = some r := by rw [if_neg (show ¬ (false = true) by decide)] at H; exact H
            clear H
            have H := H1
            clear H1
            obtain rfl := Option.some.inj H
            go_enter Try.func24, Try.ntmps24
            go_wp2_with (first | ((with_reducible refine gate_dst (N := 2) rfl ?_); refine bx_ 2 #[.int .i64 a0_0, .int .i64 a0_1, .int .i64 a0_2, .slice A0_3 l0_3.length c0_3, .int .i64 a0_4, .int .i64 a0_5, .int .i64 a0_6, .int .i64 a0_7, .slice A0_8 l0_8.length c0_8, .slice A0_9 l0_9.length c0_9, .slice A0_10 l0_10.length c0_10] 48 (h := ?_); intro gb324 hg w26 hbox hb; have BK324 := Aside0.mk (hbox); have GW324 := Aside0.mk ((by rw [hg]; exact (below_size bel) : w.heap.size ≤ gb324)); have GE324 := Aside0.mk ((by rw [hg]; exact (below_size bel) : w.heap.size ≤ gb324)); replace HB := Aside0.mk (below_step bel hb); clear hb hbox hg) | ((with_reducible refine gate_dst (N := 3) rfl ?_); refine bx_ 3 #[.int .i64 a1_0, .int .i64 a1_1, .int .i64 a1_2, .slice A1_3 l1_3.length c1_3, .int .i64 a1_4, .int .i64 a1_5, .int .i64 a1_6, .int .i64 a1_7, .slice A1_8 l1_8.length c1_8, .slice A1_9 l1_9.length c1_9, .slice A1_10 l1_10.length c1_10] 48 (h := ?_); intro gb325 hg w27 hbox hb; have BK325 := Aside0.mk (hbox); have GW325 := Aside0.mk ((by rw [hg]; exact (below_size bel) : w.heap.size ≤ gb325)); have GE325 := Aside0.mk ((by rw [hg]; exact (below_size bel) : w.heap.size ≤ gb325)); have NB324_325 := Aside0.mk ((by rw [hg]; exact Nat.ne_of_lt (blt BK324) : gb324 ≠ gb325)); have NB325_324 := Aside0.mk ((by rw [hg]; exact Nat.ne_of_gt (blt BK324) : gb325 ≠ gb324)); replace BK324 := Aside0.mk (blb BK324 hb); replace HB := Aside0.mk (below_step bel hb); clear hb hbox hg; have hnb28 := NB324_325.out; have hnc28 := NB325_324.out; obtain ⟨hcz29_0, hcz29_1, hcz29_2, hcz29_3, hcz29_4, hcz29_5, hcz29_6, hcz29_7, hcz29_8, hcz29_9, hcz29_10, -⟩ := cells_11 BK324.out trivial; obtain ⟨hfz29_0, hfz29_1, hfz29_2, hfz29_3, hfz29_4, hfz29_5, hfz29_6, hfz29_7, hfz29_8, hfz29_9, hfz29_10, -⟩ := frz_11 BK324.out; obtain ⟨hcz30_0, hcz30_1, hcz30_2, hcz30_3, hcz30_4, hcz30_5, hcz30_6, hcz30_7, hcz30_8, hcz30_9, hcz30_10, -⟩ := cells_11 BK325.out trivial; obtain ⟨hfz30_0, hfz30_1, hfz30_2, hfz30_3, hfz30_4, hfz30_5, hfz30_6, hfz30_7, hfz30_8, hfz30_9, hfz30_10, -⟩ := frz_11 BK325.out) | ((with_reducible refine gate_callee (f := 101) rfl ?_); refine gl_ (some 24) Try.func101 #[.slice A0_3 l0_3.length c0_3, .slice A1_3 l1_3.length c1_3] (h := ?_); (with_reducible refine (laws_eqItemS.calls k _ _ l0_3 _ _ l1_3 true _ ?side1 ?side2 ?side3 ?side4 A6.out).mono ?_); (case side1 => exact kcb); (case side2 => exact HC0_3.out); (case side3 => exact kcb); (case side4 => exact HC1_3.out); rintro e w31 ⟨rfl, hb⟩; refine ⟨_, rfl, ?_⟩; replace BK324 := Aside0.mk (blb BK324 hb); replace BK325 := Aside0.mk (blb BK325 hb); replace HB := Aside0.mk (below_step bel hb); (try clear hb); (try clear hb2); (try clear hk); (try clear hi); obtain ⟨hcz32_0, hcz32_1, hcz32_2, hcz32_3, hcz32_4, hcz32_5, hcz32_6, hcz32_7, hcz32_8, hcz32_9, hcz32_10, -⟩ := cells_11 BK324.out trivial; obtain ⟨hfz32_0, hfz32_1, hfz32_2, hfz32_3, hfz32_4, hfz32_5, hfz32_6, hfz32_7, hfz32_8, hfz32_9, hfz32_10, -⟩ := frz_11 BK324.out; obtain ⟨hcz33_0, hcz33_1, hcz33_2, hcz33_3, hcz33_4, hcz33_5, hcz33_6, hcz33_7, hcz33_8, hcz33_9, hcz33_10, -⟩ := cells_11 BK325.out trivial; obtain ⟨hfz33_0, hfz33_1, hfz33_2, hfz33_3, hfz33_4, hfz33_5, hfz33_6, hfz33_7, hfz33_8, hfz33_9, hfz33_10, -⟩ := frz_11 BK325.out) | ((with_reducible refine gate_callee (f := 102) rfl ?_); refine gl_ (some 50) Try.func102 #[.slice A0_8 l0_8.length c0_8, .slice A1_8 l1_8.length c1_8] (h := ?_); (with_reducible refine (laws_eqBoolS.calls k _ _ l0_8 _ _ l1_8 true _ ?side1 ?side2 ?side3 ?side4 A12.out).mono ?_); (case side1 => exact kcb); (case side2 => exact HC0_8.out); (case side3 => exact kcb); (case side4 => exact HC1_8.out); rintro e w' ⟨rfl, ⟨nd, rfl⟩⟩; refine ⟨_, rfl, ?_⟩) | ((with_reducible refine gate_callee (f := 103) rfl ?_); refine gl_ (some 56) Try.func103 #[.slice A0_9 l0_9.length c0_9, .slice A1_9 l1_9.length c1_9] (h := ?_); (with_reducible refine (laws_eqIntS.calls k _ _ l0_9 _ _ l1_9 true _ ?side1 ?side2 ?side3 ?side4 A14.out).mono ?_); (case side1 => exact kcb); (case side2 => exact HC0_9.out); (case side3 => exact kcb); (case side4 => exact HC1_9.out); rintro e w' ⟨rfl, ⟨nd, rfl⟩⟩; refine ⟨_, rfl, ?_⟩) | ((with_reducible refine gate_callee (f := 103) rfl ?_); refine gl_ (some 62) Try.func103 #[.slice A0_10 l0_10.length c0_10, .slice A1_10 l1_10.length c1_10] (h := ?_); (with_reducible refine (laws_eqIntS.calls k _ _ l0_10 _ _ l1_10 false _ ?side1 ?side2 ?side3 ?side4 A16.out).mono ?_); (case side1 => exact kcb); (case side2 => exact HC0_10.out); (case side3 => exact kcb); (case side4 => exact HC1_10.out); rintro e w' ⟨rfl, ⟨nd, rfl⟩⟩; refine ⟨_, rfl, ?_⟩))
            go_ret
            exact ⟨by first | rfl | (simp [errW_none, errW_some] <;> rfl) | (simp [*, errW_none, errW_some] <;> rfl), by repeat (first | (with_reducible first | exact HB.out | apply below_alloc | apply pw_below_drewN | apply below_drew1 | refine below_set ?_ GE324.out | refine below_set ?_ GE325.out) | exact HB.out)⟩
          ·replace c15 := Bool.eq_false_iff.mpr c15
           subst c15
           have H1 : (some false) = some r := by rw [if_neg (show ¬ (false = true) by decide)] at H; exact H
           clear H
           have H := H1
           clear H1
           obtain rfl := Option.some.inj H
           go_enter Try.func24, Try.ntmps24
           go_wp2_with (first | ((with_reducible refine gate_dst (N := 2) rfl ?_); refine bx_ 2 #[.int .i64 a0_0, .int .i64 a0_1, .int .i64 a0_2, .slice A0_3 l0_3.length c0_3, .int .i64 a0_4, .int .i64 a0_5, .int .i64 a0_6, .int .i64 a0_7, .slice A0_8 l0_8.length c0_8, .slice A0_9 l0_9.length c0_9, .slice A0_10 l0_10.length c0_10] 48 (h := ?_); intro gb324 hg w34 hbox hb; have BK324 := Aside0.mk (hbox); have GW324 := Aside0.mk ((by rw [hg]; exact (below_size bel) : w.heap.size ≤ gb324)); have GE324 := Aside0.mk ((by rw [hg]; exact (below_size bel) : w.heap.size ≤ gb324)); replace HB := Aside0.mk (below_step bel hb); clear hb hbox hg) | ((with_reducible refine gate_dst (N := 3) rfl ?_); refine bx_ 3 #[.int .i64 a1_0, .int .i64 a1_1, .int .i64 a1_2, .slice A1_3 l1_3.length c1_3, .int .i64 a1_4, .int .i64 a1_5, .int .i64 a1_6, .int .i64 a1_7, .slice A1_8 l1_8.length c1_8, .slice A1_9 l1_9.length c1_9, .slice A1_10 l1_10.length c1_10] 48 (h := ?_); intro gb325 hg w35 hbox hb; have BK325 := Aside0.mk (hbox); have GW325 := Aside0.mk ((by rw [hg]; exact (below_size bel) : w.heap.size ≤ gb325)); have GE325 := Aside0.mk ((by rw [hg]; exact (below_size bel) : w.heap.size ≤ gb325)); have NB324_325 := Aside0.mk ((by rw [hg]; exact Nat.ne_of_lt (blt BK324) : gb324 ≠ gb325)); have NB325_324 := Aside0.mk ((by rw [hg]; exact Nat.ne_of_gt (blt BK324) : gb325 ≠ gb324)); replace BK324 := Aside0.mk (blb BK324 hb); replace HB := Aside0.mk (below_step bel hb); clear hb hbox hg; have hnb36 := NB324_325.out; have hnc36 := NB325_324.out; obtain ⟨hcz37_0, hcz37_1, hcz37_2, hcz37_3, hcz37_4, hcz37_5, hcz37_6, hcz37_7, hcz37_8, hcz37_9, hcz37_10, -⟩ := cells_11 BK324.out trivial; obtain ⟨hfz37_0, hfz37_1, hfz37_2, hfz37_3, hfz37_4, hfz37_5, hfz37_6, hfz37_7, hfz37_8, hfz37_9, hfz37_10, -⟩ := frz_11 BK324.out; obtain ⟨hcz38_0, hcz38_1, hcz38_2, hcz38_3, hcz38_4, hcz38_5, hcz38_6, hcz38_7, hcz38_8, hcz38_9, hcz38_10, -⟩ := cells_11 BK325.out trivial; obtain ⟨hfz38_0, hfz38_1, hfz38_2, hfz38_3, hfz38_4, hfz38_5, hfz38_6, hfz38_7, hfz38_8, hfz38_9, hfz38_10, -⟩ := frz_11 BK325.out) | ((with_reducible refine gate_callee (f := 101) rfl ?_); refine gl_ (some 24) Try.func101 #[.slice A0_3 l0_3.length c0_3, .slice A1_3 l1_3.length c1_3] (h := ?_); (with_reducible refine (laws_eqItemS.calls k _ _ l0_3 _ _ l1_3 true _ ?side1 ?side2 ?side3 ?side4 A6.out).mono ?_); (case side1 => exact kcb); (case side2 => exact HC0_3.out); (case side3 => exact kcb); (case side4 => exact HC1_3.out); rintro e w39 ⟨rfl, hb⟩; refine ⟨_, rfl, ?_⟩; replace BK324 := Aside0.mk (blb BK324 hb); replace BK325 := Aside0.mk (blb BK325 hb); replace HB := Aside0.mk (below_step bel hb); (try clear hb); (try clear hb2); (try clear hk); (try clear hi); obtain ⟨hcz40_0, hcz40_1, hcz40_2, hcz40_3, hcz40_4, hcz40_5, hcz40_6, hcz40_7, hcz40_8, hcz40_9, hcz40_10, -⟩ := cells_11 BK324.out trivial; obtain ⟨hfz40_0, hfz40_1, hfz40_2, hfz40_3, hfz40_4, hfz40_5, hfz40_6, hfz40_7, hfz40_8, hfz40_9, hfz40_10, -⟩ := frz_11 BK324.out; obtain ⟨hcz41_0, hcz41_1, hcz41_2, hcz41_3, hcz41_4, hcz41_5, hcz41_6, hcz41_7, hcz41_8, hcz41_9, hcz41_10, -⟩ := cells_11 BK325.out trivial; obtain ⟨hfz41_0, hfz41_1, hfz41_2, hfz41_3, hfz41_4, hfz41_5, hfz41_6, hfz41_7, hfz41_8, hfz41_9, hfz41_10, -⟩ := frz_11 BK325.out) | ((with_reducible refine gate_callee (f := 102) rfl ?_); refine gl_ (some 50) Try.func102 #[.slice A0_8 l0_8.length c0_8, .slice A1_8 l1_8.length c1_8] (h := ?_); (with_reducible refine (laws_eqBoolS.calls k _ _ l0_8 _ _ l1_8 true _ ?side1 ?side2 ?side3 ?side4 A12.out).mono ?_); (case side1 => exact kcb); (case side2 => exact HC0_8.out); (case side3 => exact kcb); (case side4 => exact HC1_8.out); rintro e w' ⟨rfl, ⟨nd, rfl⟩⟩; refine ⟨_, rfl, ?_⟩) | ((with_reducible refine gate_callee (f := 103) rfl ?_); refine gl_ (some 56) Try.func103 #[.slice A0_9 l0_9.length c0_9, .slice A1_9 l1_9.length c1_9] (h := ?_); (with_reducible refine (laws_eqIntS.calls k _ _ l0_9 _ _ l1_9 false _ ?side1 ?side2 ?side3 ?side4 A14.out).mono ?_); (case side1 => exact kcb); (case side2 => exact HC0_9.out); (case side3 => exact kcb); (case side4 => exact HC1_9.out); rintro e w' ⟨rfl, ⟨nd, rfl⟩⟩; refine ⟨_, rfl, ?_⟩))
           go_ret
           exact ⟨by first | rfl | (simp [errW_none, errW_some] <;> rfl) | (simp [*, errW_none, errW_some] <;> rfl), by repeat (first | (with_reducible first | exact HB.out | apply below_alloc | apply pw_below_drewN | apply below_drew1 | refine below_set ?_ GE324.out | refine below_set ?_ GE325.out) | exact HB.out)⟩
         ·replace c13 := Bool.eq_false_iff.mpr c13
          subst c13
          have H1 : (some false) = some r := by rw [if_neg (show ¬ (false = true) by decide)] at H; exact H
          clear H
          have H := H1
          clear H1
          obtain rfl := Option.some.inj H
          go_enter Try.func24, Try.ntmps24
          go_wp2_with (first | ((with_reducible refine gate_dst (N := 2) rfl ?_); refine bx_ 2 #[.int .i64 a0_0, .int .i64 a0_1, .int .i64 a0_2, .slice A0_3 l0_3.length c0_3, .int .i64 a0_4, .int .i64 a0_5, .int .i64 a0_6, .int .i64 a0_7, .slice A0_8 l0_8.length c0_8, .slice A0_9 l0_9.length c0_9, .slice A0_10 l0_10.length c0_10] 48 (h := ?_); intro gb324 hg w42 hbox hb; have BK324 := Aside0.mk (hbox); have GW324 := Aside0.mk ((by rw [hg]; exact (below_size bel) : w.heap.size ≤ gb324)); have GE324 := Aside0.mk ((by rw [hg]; exact (below_size bel) : w.heap.size ≤ gb324)); replace HB := Aside0.mk (below_step bel hb); clear hb hbox hg) | ((with_reducible refine gate_dst (N := 3) rfl ?_); refine bx_ 3 #[.int .i64 a1_0, .int .i64 a1_1, .int .i64 a1_2, .slice A1_3 l1_3.length c1_3, .int .i64 a1_4, .int .i64 a1_5, .int .i64 a1_6, .int .i64 a1_7, .slice A1_8 l1_8.length c1_8, .slice A1_9 l1_9.length c1_9, .slice A1_10 l1_10.length c1_10] 48 (h := ?_); intro gb325 hg w43 hbox hb; have BK325 := Aside0.mk (hbox); have GW325 := Aside0.mk ((by rw [hg]; exact (below_size bel) : w.heap.size ≤ gb325)); have GE325 := Aside0.mk ((by rw [hg]; exact (below_size bel) : w.heap.size ≤ gb325)); have NB324_325 := Aside0.mk ((by rw [hg]; exact Nat.ne_of_lt (blt BK324) : gb324 ≠ gb325)); have NB325_324 := Aside0.mk ((by rw [hg]; exact Nat.ne_of_gt (blt BK324) : gb325 ≠ gb324)); replace BK324 := Aside0.mk (blb BK324 hb); replace HB := Aside0.mk (below_step bel hb); clear hb hbox hg; have hnb44 := NB324_325.out; have hnc44 := NB325_324.out; obtain ⟨hcz45_0, hcz45_1, hcz45_2, hcz45_3, hcz45_4, hcz45_5, hcz45_6, hcz45_7, hcz45_8, hcz45_9, hcz45_10, -⟩ := cells_11 BK324.out trivial; obtain ⟨hfz45_0, hfz45_1, hfz45_2, hfz45_3, hfz45_4, hfz45_5, hfz45_6, hfz45_7, hfz45_8, hfz45_9, hfz45_10, -⟩ := frz_11 BK324.out; obtain ⟨hcz46_0, hcz46_1, hcz46_2, hcz46_3, hcz46_4, hcz46_5, hcz46_6, hcz46_7, hcz46_8, hcz46_9, hcz46_10, -⟩ := cells_11 BK325.out trivial; obtain ⟨hfz46_0, hfz46_1, hfz46_2, hfz46_3, hfz46_4, hfz46_5, hfz46_6, hfz46_7, hfz46_8, hfz46_9, hfz46_10, -⟩ := frz_11 BK325.out) | ((with_reducible refine gate_callee (f := 101) rfl ?_); refine gl_ (some 24) Try.func101 #[.slice A0_3 l0_3.length c0_3, .slice A1_3 l1_3.length c1_3] (h := ?_); (with_reducible refine (laws_eqItemS.calls k _ _ l0_3 _ _ l1_3 true _ ?side1 ?side2 ?side3 ?side4 A6.out).mono ?_); (case side1 => exact kcb); (case side2 => exact HC0_3.out); (case side3 => exact kcb); (case side4 => exact HC1_3.out); rintro e w47 ⟨rfl, hb⟩; refine ⟨_, rfl, ?_⟩; replace BK324 := Aside0.mk (blb BK324 hb); replace BK325 := Aside0.mk (blb BK325 hb); replace HB := Aside0.mk (below_step bel hb); (try clear hb); (try clear hb2); (try clear hk); (try clear hi); obtain ⟨hcz48_0, hcz48_1, hcz48_2, hcz48_3, hcz48_4, hcz48_5, hcz48_6, hcz48_7, hcz48_8, hcz48_9, hcz48_10, -⟩ := cells_11 BK324.out trivial; obtain ⟨hfz48_0, hfz48_1, hfz48_2, hfz48_3, hfz48_4, hfz48_5, hfz48_6, hfz48_7, hfz48_8, hfz48_9, hfz48_10, -⟩ := frz_11 BK324.out; obtain ⟨hcz49_0, hcz49_1, hcz49_2, hcz49_3, hcz49_4, hcz49_5, hcz49_6, hcz49_7, hcz49_8, hcz49_9, hcz49_10, -⟩ := cells_11 BK325.out trivial; obtain ⟨hfz49_0, hfz49_1, hfz49_2, hfz49_3, hfz49_4, hfz49_5, hfz49_6, hfz49_7, hfz49_8, hfz49_9, hfz49_10, -⟩ := frz_11 BK325.out) | ((with_reducible refine gate_callee (f := 102) rfl ?_); refine gl_ (some 50) Try.func102 #[.slice A0_8 l0_8.length c0_8, .slice A1_8 l1_8.length c1_8] (h := ?_); (with_reducible refine (laws_eqBoolS.calls k _ _ l0_8 _ _ l1_8 false _ ?side1 ?side2 ?side3 ?side4 A12.out).mono ?_); (case side1 => exact kcb); (case side2 => exact HC0_8.out); (case side3 => exact kcb); (case side4 => exact HC1_8.out); rintro e w' ⟨rfl, ⟨nd, rfl⟩⟩; refine ⟨_, rfl, ?_⟩))
          go_ret
          exact ⟨by first | rfl | (simp [errW_none, errW_some] <;> rfl) | (simp [*, errW_none, errW_some] <;> rfl), by repeat (first | (with_reducible first | exact HB.out | apply below_alloc | apply pw_below_drewN | apply below_drew1 | refine below_set ?_ GE324.out | refine below_set ?_ GE325.out) | exact HB.out)⟩
        ·rw [if_neg c11] at H
         have c11b0 : (a0_7 == a1_7) = false := beq_eq_false_iff_ne.mpr c11
         have c11b1 : (a0_7 != a1_7) = true := bne_iff_ne.mpr c11
         obtain rfl := Option.some.inj H
         go_enter Try.func24, Try.ntmps24
         go_wp2_with (first | ((with_reducible refine gate_dst (N := 2) rfl ?_); refine bx_ 2 #[.int .i64 a0_0, .int .i64 a0_1, .int .i64 a0_2, .slice A0_3 l0_3.length c0_3, .int .i64 a0_4, .int .i64 a0_5, .int .i64 a0_6, .int .i64 a0_7, .slice A0_8 l0_8.length c0_8, .slice A0_9 l0_9.length c0_9, .slice A0_10 l0_10.length c0_10] 48 (h := ?_); intro gb324 hg w50 hbox hb; have BK324 := Aside0.mk (hbox); have GW324 := Aside0.mk ((by rw [hg]; exact (below_size bel) : w.heap.size ≤ gb324)); have GE324 := Aside0.mk ((by rw [hg]; exact (below_size bel) : w.heap.size ≤ gb324)); replace HB := Aside0.mk (below_step bel hb); clear hb hbox hg) | ((with_reducible refine gate_dst (N := 3) rfl ?_); refine bx_ 3 #[.int .i64 a1_0, .int .i64 a1_1, .int .i64 a1_2, .slice A1_3 l1_3.length c1_3, .int .i64 a1_4, .int .i64 a1_5, .int .i64 a1_6, .int .i64 a1_7, .slice A1_8 l1_8.length c1_8, .slice A1_9 l1_9.length c1_9, .slice A1_10 l1_10.length c1_10] 48 (h := ?_); intro gb325 hg w51 hbox hb; have BK325 := Aside0.mk (hbox); have GW325 := Aside0.mk ((by rw [hg]; exact (below_size bel) : w.heap.size ≤ gb325)); have GE325 := Aside0.mk ((by rw [hg]; exact (below_size bel) : w.heap.size ≤ gb325)); have NB324_325 := Aside0.mk ((by rw [hg]; exact Nat.ne_of_lt (blt BK324) : gb324 ≠ gb325)); have NB325_324 := Aside0.mk ((by rw [hg]; exact Nat.ne_of_gt (blt BK324) : gb325 ≠ gb324)); replace BK324 := Aside0.mk (blb BK324 hb); replace HB := Aside0.mk (below_step bel hb); clear hb hbox hg; have hnb52 := NB324_325.out; have hnc52 := NB325_324.out; obtain ⟨hcz53_0, hcz53_1, hcz53_2, hcz53_3, hcz53_4, hcz53_5, hcz53_6, hcz53_7, hcz53_8, hcz53_9, hcz53_10, -⟩ := cells_11 BK324.out trivial; obtain ⟨hfz53_0, hfz53_1, hfz53_2, hfz53_3, hfz53_4, hfz53_5, hfz53_6, hfz53_7, hfz53_8, hfz53_9, hfz53_10, -⟩ := frz_11 BK324.out; obtain ⟨hcz54_0, hcz54_1, hcz54_2, hcz54_3, hcz54_4, hcz54_5, hcz54_6, hcz54_7, hcz54_8, hcz54_9, hcz54_10, -⟩ := cells_11 BK325.out trivial; obtain ⟨hfz54_0, hfz54_1, hfz54_2, hfz54_3, hfz54_4, hfz54_5, hfz54_6, hfz54_7, hfz54_8, hfz54_9, hfz54_10, -⟩ := frz_11 BK325.out) | ((with_reducible refine gate_callee (f := 101) rfl ?_); refine gl_ (some 24) Try.func101 #[.slice A0_3 l0_3.length c0_3, .slice A1_3 l1_3.length c1_3] (h := ?_); (with_reducible refine (laws_eqItemS.calls k _ _ l0_3 _ _ l1_3 true _ ?side1 ?side2 ?side3 ?side4 A6.out).mono ?_); (case side1 => exact kcb); (case side2 => exact HC0_3.out); (case side3 => exact kcb); (case side4 => exact HC1_3.out); rintro e w55 ⟨rfl, hb⟩; refine ⟨_, rfl, ?_⟩; replace BK324 := Aside0.mk (blb BK324 hb); replace BK325 := Aside0.mk (blb BK325 hb); replace HB := Aside0.mk (below_step bel hb); (try clear hb); (try clear hb2); (try clear hk); (try clear hi); obtain ⟨hcz56_0, hcz56_1, hcz56_2, hcz56_3, hcz56_4, hcz56_5, hcz56_6, hcz56_7, hcz56_8, hcz56_9, hcz56_10, -⟩ := cells_11 BK324.out trivial; obtain ⟨hfz56_0, hfz56_1, hfz56_2, hfz56_3, hfz56_4, hfz56_5, hfz56_6, hfz56_7, hfz56_8, hfz56_9, hfz56_10, -⟩ := frz_11 BK324.out; obtain ⟨hcz57_0, hcz57_1, hcz57_2, hcz57_3, hcz57_4, hcz57_5, hcz57_6, hcz57_7, hcz57_8, hcz57_9, hcz57_10, -⟩ := cells_11 BK325.out trivial; obtain ⟨hfz57_0, hfz57_1, hfz57_2, hfz57_3, hfz57_4, hfz57_5, hfz57_6, hfz57_7, hfz57_8, hfz57_9, hfz57_10, -⟩ := frz_11 BK325.out))
         go_ret
         exact ⟨by first | rfl | (simp [errW_none, errW_some] <;> rfl) | (simp [*, errW_none, errW_some] <;> rfl), by repeat (first | (with_reducible first | exact HB.out | apply below_alloc | apply pw_below_drewN | apply below_drew1 | refine below_set ?_ GE324.out | refine below_set ?_ GE325.out) | exact HB.out)⟩
       ·rw [if_neg c10] at H
        have c10b0 : (a0_6 == a1_6) = false := beq_eq_false_iff_ne.mpr c10
        have c10b1 : (a0_6 != a1_6) = true := bne_iff_ne.mpr c10
        obtain rfl := Option.some.inj H
        go_enter Try.func24, Try.ntmps24
        go_wp2_with (first | ((with_reducible refine gate_dst (N := 2) rfl ?_); refine bx_ 2 #[.int .i64 a0_0, .int .i64 a0_1, .int .i64 a0_2, .slice A0_3 l0_3.length c0_3, .int .i64 a0_4, .int .i64 a0_5, .int .i64 a0_6, .int .i64 a0_7, .slice A0_8 l0_8.length c0_8, .slice A0_9 l0_9.length c0_9, .slice A0_10 l0_10.length c0_10] 48 (h := ?_); intro gb324 hg w58 hbox hb; have BK324 := Aside0.mk (hbox); have GW324 := Aside0.mk ((by rw [hg]; exact (below_size bel) : w.heap.size ≤ gb324)); have GE324 := Aside0.mk ((by rw [hg]; exact (below_size bel) : w.heap.size ≤ gb324)); replace HB := Aside0.mk (below_step bel hb); clear hb hbox hg) | ((with_reducible refine gate_dst (N := 3) rfl ?_); refine bx_ 3 #[.int .i64 a1_0, .int .i64 a1_1, .int .i64 a1_2, .slice A1_3 l1_3.length c1_3, .int .i64 a1_4, .int .i64 a1_5, .int .i64 a1_6, .int .i64 a1_7, .slice A1_8 l1_8.length c1_8, .slice A1_9 l1_9.length c1_9, .slice A1_10 l1_10.length c1_10] 48 (h := ?_); intro gb325 hg w59 hbox hb; have BK325 := Aside0.mk (hbox); have GW325 := Aside0.mk ((by rw [hg]; exact (below_size bel) : w.heap.size ≤ gb325)); have GE325 := Aside0.mk ((by rw [hg]; exact (below_size bel) : w.heap.size ≤ gb325)); have NB324_325 := Aside0.mk ((by rw [hg]; exact Nat.ne_of_lt (blt BK324) : gb324 ≠ gb325)); have NB325_324 := Aside0.mk ((by rw [hg]; exact Nat.ne_of_gt (blt BK324) : gb325 ≠ gb324)); replace BK324 := Aside0.mk (blb BK324 hb); replace HB := Aside0.mk (below_step bel hb); clear hb hbox hg; have hnb60 := NB324_325.out; have hnc60 := NB325_324.out; obtain ⟨hcz61_0, hcz61_1, hcz61_2, hcz61_3, hcz61_4, hcz61_5, hcz61_6, hcz61_7, hcz61_8, hcz61_9, hcz61_10, -⟩ := cells_11 BK324.out trivial; obtain ⟨hfz61_0, hfz61_1, hfz61_2, hfz61_3, hfz61_4, hfz61_5, hfz61_6, hfz61_7, hfz61_8, hfz61_9, hfz61_10, -⟩ := frz_11 BK324.out; obtain ⟨hcz62_0, hcz62_1, hcz62_2, hcz62_3, hcz62_4, hcz62_5, hcz62_6, hcz62_7, hcz62_8, hcz62_9, hcz62_10, -⟩ := cells_11 BK325.out trivial; obtain ⟨hfz62_0, hfz62_1, hfz62_2, hfz62_3, hfz62_4, hfz62_5, hfz62_6, hfz62_7, hfz62_8, hfz62_9, hfz62_10, -⟩ := frz_11 BK325.out) | ((with_reducible refine gate_callee (f := 101) rfl ?_); refine gl_ (some 24) Try.func101 #[.slice A0_3 l0_3.length c0_3, .slice A1_3 l1_3.length c1_3] (h := ?_); (with_reducible refine (laws_eqItemS.calls k _ _ l0_3 _ _ l1_3 true _ ?side1 ?side2 ?side3 ?side4 A6.out).mono ?_); (case side1 => exact kcb); (case side2 => exact HC0_3.out); (case side3 => exact kcb); (case side4 => exact HC1_3.out); rintro e w63 ⟨rfl, hb⟩; refine ⟨_, rfl, ?_⟩; replace BK324 := Aside0.mk (blb BK324 hb); replace BK325 := Aside0.mk (blb BK325 hb); replace HB := Aside0.mk (below_step bel hb); (try clear hb); (try clear hb2); (try clear hk); (try clear hi); obtain ⟨hcz64_0, hcz64_1, hcz64_2, hcz64_3, hcz64_4, hcz64_5, hcz64_6, hcz64_7, hcz64_8, hcz64_9, hcz64_10, -⟩ := cells_11 BK324.out trivial; obtain ⟨hfz64_0, hfz64_1, hfz64_2, hfz64_3, hfz64_4, hfz64_5, hfz64_6, hfz64_7, hfz64_8, hfz64_9, hfz64_10, -⟩ := frz_11 BK324.out; obtain ⟨hcz65_0, hcz65_1, hcz65_2, hcz65_3, hcz65_4, hcz65_5, hcz65_6, hcz65_7, hcz65_8, hcz65_9, hcz65_10, -⟩ := cells_11 BK325.out trivial; obtain ⟨hfz65_0, hfz65_1, hfz65_2, hfz65_3, hfz65_4, hfz65_5, hfz65_6, hfz65_7, hfz65_8, hfz65_9, hfz65_10, -⟩ := frz_11 BK325.out))
        go_ret
        exact ⟨by first | rfl | (simp [errW_none, errW_some] <;> rfl) | (simp [*, errW_none, errW_some] <;> rfl), by repeat (first | (with_reducible first | exact HB.out | apply below_alloc | apply pw_below_drewN | apply below_drew1 | refine below_set ?_ GE324.out | refine below_set ?_ GE325.out) | exact HB.out)⟩
      ·rw [if_neg c9] at H
       have c9b0 : (a0_5 == a1_5) = false := beq_eq_false_iff_ne.mpr c9
       have c9b1 : (a0_5 != a1_5) = true := bne_iff_ne.mpr c9
       obtain rfl := Option.some.inj H
       go_enter Try.func24, Try.ntmps24
       go_wp2_with (first | ((with_reducible refine gate_dst (N := 2) rfl ?_); refine bx_ 2 #[.int .i64 a0_0, .int .i64 a0_1, .int .i64 a0_2, .slice A0_3 l0_3.length c0_3, .int .i64 a0_4, .int .i64 a0_5, .int .i64 a0_6, .int .i64 a0_7, .slice A0_8 l0_8.length c0_8, .slice A0_9 l0_9.length c0_9, .slice A0_10 l0_10.length c0_10] 48 (h := ?_); intro gb324 hg w66 hbox hb; have BK324 := Aside0.mk (hbox); have GW324 := Aside0.mk ((by rw [hg]; exact (below_size bel) : w.heap.size ≤ gb324)); have GE324 := Aside0.mk ((by rw [hg]; exact (below_size bel) : w.heap.size ≤ gb324)); replace HB := Aside0.mk (below_step bel hb); clear hb hbox hg) | ((with_reducible refine gate_dst (N := 3) rfl ?_); refine bx_ 3 #[.int .i64 a1_0, .int .i64 a1_1, .int .i64 a1_2, .slice A1_3 l1_3.length c1_3, .int .i64 a1_4, .int .i64 a1_5, .int .i64 a1_6, .int .i64 a1_7, .slice A1_8 l1_8.length c1_8, .slice A1_9 l1_9.length c1_9, .slice A1_10 l1_10.length c1_10] 48 (h := ?_); intro gb325 hg w67 hbox hb; have BK325 := Aside0.mk (hbox); have GW325 := Aside0.mk ((by rw [hg]; exact (below_size bel) : w.heap.size ≤ gb325)); have GE325 := Aside0.mk ((by rw [hg]; exact (below_size bel) : w.heap.size ≤ gb325)); have NB324_325 := Aside0.mk ((by rw [hg]; exact Nat.ne_of_lt (blt BK324) : gb324 ≠ gb325)); have NB325_324 := Aside0.mk ((by rw [hg]; exact Nat.ne_of_gt (blt BK324) : gb325 ≠ gb324)); replace BK324 := Aside0.mk (blb BK324 hb); replace HB := Aside0.mk (below_step bel hb); clear hb hbox hg; have hnb68 := NB324_325.out; have hnc68 := NB325_324.out; obtain ⟨hcz69_0, hcz69_1, hcz69_2, hcz69_3, hcz69_4, hcz69_5, hcz69_6, hcz69_7, hcz69_8, hcz69_9, hcz69_10, -⟩ := cells_11 BK324.out trivial; obtain ⟨hfz69_0, hfz69_1, hfz69_2, hfz69_3, hfz69_4, hfz69_5, hfz69_6, hfz69_7, hfz69_8, hfz69_9, hfz69_10, -⟩ := frz_11 BK324.out; obtain ⟨hcz70_0, hcz70_1, hcz70_2, hcz70_3, hcz70_4, hcz70_5, hcz70_6, hcz70_7, hcz70_8, hcz70_9, hcz70_10, -⟩ := cells_11 BK325.out trivial; obtain ⟨hfz70_0, hfz70_1, hfz70_2, hfz70_3, hfz70_4, hfz70_5, hfz70_6, hfz70_7, hfz70_8, hfz70_9, hfz70_10, -⟩ := frz_11 BK325.out) | ((with_reducible refine gate_callee (f := 101) rfl ?_); refine gl_ (some 24) Try.func101 #[.slice A0_3 l0_3.length c0_3, .slice A1_3 l1_3.length c1_3] (h := ?_); (with_reducible refine (laws_eqItemS.calls k _ _ l0_3 _ _ l1_3 true _ ?side1 ?side2 ?side3 ?side4 A6.out).mono ?_); (case side1 => exact kcb); (case side2 => exact HC0_3.out); (case side3 => exact kcb); (case side4 => exact HC1_3.out); rintro e w71 ⟨rfl, hb⟩; refine ⟨_, rfl, ?_⟩; replace BK324 := Aside0.mk (blb BK324 hb); replace BK325 := Aside0.mk (blb BK325 hb); replace HB := Aside0.mk (below_step bel hb); (try clear hb); (try clear hb2); (try clear hk); (try clear hi); obtain ⟨hcz72_0, hcz72_1, hcz72_2, hcz72_3, hcz72_4, hcz72_5, hcz72_6, hcz72_7, hcz72_8, hcz72_9, hcz72_10, -⟩ := cells_11 BK324.out trivial; obtain ⟨hfz72_0, hfz72_1, hfz72_2, hfz72_3, hfz72_4, hfz72_5, hfz72_6, hfz72_7, hfz72_8, hfz72_9, hfz72_10, -⟩ := frz_11 BK324.out; obtain ⟨hcz73_0, hcz73_1, hcz73_2, hcz73_3, hcz73_4, hcz73_5, hcz73_6, hcz73_7, hcz73_8, hcz73_9, hcz73_10, -⟩ := cells_11 BK325.out trivial; obtain ⟨hfz73_0, hfz73_1, hfz73_2, hfz73_3, hfz73_4, hfz73_5, hfz73_6, hfz73_7, hfz73_8, hfz73_9, hfz73_10, -⟩ := frz_11 BK325.out))
       go_ret
       exact ⟨by first | rfl | (simp [errW_none, errW_some] <;> rfl) | (simp [*, errW_none, errW_some] <;> rfl), by repeat (first | (with_reducible first | exact HB.out | apply below_alloc | apply pw_below_drewN | apply below_drew1 | refine below_set ?_ GE324.out | refine below_set ?_ GE325.out) | exact HB.out)⟩
     ·rw [if_neg c8] at H
      have c8b0 : (a0_4 == a1_4) = false := beq_eq_false_iff_ne.mpr c8
      have c8b1 : (a0_4 != a1_4) = true := bne_iff_ne.mpr c8
      obtain rfl := Option.some.inj H
      go_enter Try.func24, Try.ntmps24
      go_wp2_with (first | ((with_reducible refine gate_dst (N := 2) rfl ?_); refine bx_ 2 #[.int .i64 a0_0, .int .i64 a0_1, .int .i64 a0_2, .slice A0_3 l0_3.length c0_3, .int .i64 a0_4, .int .i64 a0_5, .int .i64 a0_6, .int .i64 a0_7, .slice A0_8 l0_8.length c0_8, .slice A0_9 l0_9.length c0_9, .slice A0_10 l0_10.length c0_10] 48 (h := ?_); intro gb324 hg w74 hbox hb; have BK324 := Aside0.mk (hbox); have GW324 := Aside0.mk ((by rw [hg]; exact (below_size bel) : w.heap.size ≤ gb324)); have GE324 := Aside0.mk ((by rw [hg]; exact (below_size bel) : w.heap.size ≤ gb324)); replace HB := Aside0.mk (below_step bel hb); clear hb hbox hg) | ((with_reducible refine gate_dst (N := 3) rfl ?_); refine bx_ 3 #[.int .i64 a1_0, .int .i64 a1_1, .int .i64 a1_2, .slice A1_3 l1_3.length c1_3, .int .i64 a1_4, .int .i64 a1_5, .int .i64 a1_6, .int .i64 a1_7, .slice A1_8 l1_8.length c1_8, .slice A1_9 l1_9.length c1_9, .slice A1_10 l1_10.length c1_10] 48 (h := ?_); intro gb325 hg w75 hbox hb; have BK325 := Aside0.mk (hbox); have GW325 := Aside0.mk ((by rw [hg]; exact (below_size bel) : w.heap.size ≤ gb325)); have GE325 := Aside0.mk ((by rw [hg]; exact (below_size bel) : w.heap.size ≤ gb325)); have NB324_325 := Aside0.mk ((by rw [hg]; exact Nat.ne_of_lt (blt BK324) : gb324 ≠ gb325)); have NB325_324 := Aside0.mk ((by rw [hg]; exact Nat.ne_of_gt (blt BK324) : gb325 ≠ gb324)); replace BK324 := Aside0.mk (blb BK324 hb); replace HB := Aside0.mk (below_step bel hb); clear hb hbox hg; have hnb76 := NB324_325.out; have hnc76 := NB325_324.out; obtain ⟨hcz77_0, hcz77_1, hcz77_2, hcz77_3, hcz77_4, hcz77_5, hcz77_6, hcz77_7, hcz77_8, hcz77_9, hcz77_10, -⟩ := cells_11 BK324.out trivial; obtain ⟨hfz77_0, hfz77_1, hfz77_2, hfz77_3, hfz77_4, hfz77_5, hfz77_6, hfz77_7, hfz77_8, hfz77_9, hfz77_10, -⟩ := frz_11 BK324.out; obtain ⟨hcz78_0, hcz78_1, hcz78_2, hcz78_3, hcz78_4, hcz78_5, hcz78_6, hcz78_7, hcz78_8, hcz78_9, hcz78_10, -⟩ := cells_11 BK325.out trivial; obtain ⟨hfz78_0, hfz78_1, hfz78_2, hfz78_3, hfz78_4, hfz78_5, hfz78_6, hfz78_7, hfz78_8, hfz78_9, hfz78_10, -⟩ := frz_11 BK325.out) | ((with_reducible refine gate_callee (f := 101) rfl ?_); refine gl_ (some 24) Try.func101 #[.slice A0_3 l0_3.length c0_3, .slice A1_3 l1_3.length c1_3] (h := ?_); (with_reducible refine (laws_eqItemS.calls k _ _ l0_3 _ _ l1_3 true _ ?side1 ?side2 ?side3 ?side4 A6.out).mono ?_); (case side1 => exact kcb); (case side2 => exact HC0_3.out); (case side3 => exact kcb); (case side4 => exact HC1_3.out); rintro e w79 ⟨rfl, hb⟩; refine ⟨_, rfl, ?_⟩; replace BK324 := Aside0.mk (blb BK324 hb); replace BK325 := Aside0.mk (blb BK325 hb); replace HB := Aside0.mk (below_step bel hb); (try clear hb); (try clear hb2); (try clear hk); (try clear hi); obtain ⟨hcz80_0, hcz80_1, hcz80_2, hcz80_3, hcz80_4, hcz80_5, hcz80_6, hcz80_7, hcz80_8, hcz80_9, hcz80_10, -⟩ := cells_11 BK324.out trivial; obtain ⟨hfz80_0, hfz80_1, hfz80_2, hfz80_3, hfz80_4, hfz80_5, hfz80_6, hfz80_7, hfz80_8, hfz80_9, hfz80_10, -⟩ := frz_11 BK324.out; obtain ⟨hcz81_0, hcz81_1, hcz81_2, hcz81_3, hcz81_4, hcz81_5, hcz81_6, hcz81_7, hcz81_8, hcz81_9, hcz81_10, -⟩ := cells_11 BK325.out trivial; obtain ⟨hfz81_0, hfz81_1, hfz81_2, hfz81_3, hfz81_4, hfz81_5, hfz81_6, hfz81_7, hfz81_8, hfz81_9, hfz81_10, -⟩ := frz_11 BK325.out))
      go_ret
      exact ⟨by first | rfl | (simp [errW_none, errW_some] <;> rfl) | (simp [*, errW_none, errW_some] <;> rfl), by repeat (first | (with_reducible first | exact HB.out | apply below_alloc | apply pw_below_drewN | apply below_drew1 | refine below_set ?_ GE324.out | refine below_set ?_ GE325.out) | exact HB.out)⟩
    ·replace c7 := Bool.eq_false_iff.mpr c7
     subst c7
     have H1 : (some false) = some r := by rw [if_neg (show ¬ (false = true) by decide)] at H; exact H
     clear H
     have H := H1
     clear H1
     obtain rfl := Option.some.inj H
     go_enter Try.func24, Try.ntmps24
     go_wp2_with (first | ((with_reducible refine gate_dst (N := 2) rfl ?_); refine bx_ 2 #[.int .i64 a0_0, .int .i64 a0_1, .int .i64 a0_2, .slice A0_3 l0_3.length c0_3, .int .i64 a0_4, .int .i64 a0_5, .int .i64 a0_6, .int .i64 a0_7, .slice A0_8 l0_8.length c0_8, .slice A0_9 l0_9.length c0_9, .slice A0_10 l0_10.length c0_10] 48 (h := ?_); intro gb324 hg w82 hbox hb; have BK324 := Aside0.mk (hbox); have GW324 := Aside0.mk ((by rw [hg]; exact (below_size bel) : w.heap.size ≤ gb324)); have GE324 := Aside0.mk ((by rw [hg]; exact (below_size bel) : w.heap.size ≤ gb324)); replace HB := Aside0.mk (below_step bel hb); clear hb hbox hg) | ((with_reducible refine gate_dst (N := 3) rfl ?_); refine bx_ 3 #[.int .i64 a1_0, .int .i64 a1_1, .int .i64 a1_2, .slice A1_3 l1_3.length c1_3, .int .i64 a1_4, .int .i64 a1_5, .int .i64 a1_6, .int .i64 a1_7, .slice A1_8 l1_8.length c1_8, .slice A1_9 l1_9.length c1_9, .slice A1_10 l1_10.length c1_10] 48 (h := ?_); intro gb325 hg w83 hbox hb; have BK325 := Aside0.mk (hbox); have GW325 := Aside0.mk ((by rw [hg]; exact (below_size bel) : w.heap.size ≤ gb325)); have GE325 := Aside0.mk ((by rw [hg]; exact (below_size bel) : w.heap.size ≤ gb325)); have NB324_325 := Aside0.mk ((by rw [hg]; exact Nat.ne_of_lt (blt BK324) : gb324 ≠ gb325)); have NB325_324 := Aside0.mk ((by rw [hg]; exact Nat.ne_of_gt (blt BK324) : gb325 ≠ gb324)); replace BK324 := Aside0.mk (blb BK324 hb); replace HB := Aside0.mk (below_step bel hb); clear hb hbox hg; have hnb84 := NB324_325.out; have hnc84 := NB325_324.out; obtain ⟨hcz85_0, hcz85_1, hcz85_2, hcz85_3, hcz85_4, hcz85_5, hcz85_6, hcz85_7, hcz85_8, hcz85_9, hcz85_10, -⟩ := cells_11 BK324.out trivial; obtain ⟨hfz85_0, hfz85_1, hfz85_2, hfz85_3, hfz85_4, hfz85_5, hfz85_6, hfz85_7, hfz85_8, hfz85_9, hfz85_10, -⟩ := frz_11 BK324.out; obtain ⟨hcz86_0, hcz86_1, hcz86_2, hcz86_3, hcz86_4, hcz86_5, hcz86_6, hcz86_7, hcz86_8, hcz86_9, hcz86_10, -⟩ := cells_11 BK325.out trivial; obtain ⟨hfz86_0, hfz86_1, hfz86_2, hfz86_3, hfz86_4, hfz86_5, hfz86_6, hfz86_7, hfz86_8, hfz86_9, hfz86_10, -⟩ := frz_11 BK325.out) | ((with_reducible refine gate_callee (f := 101) rfl ?_); refine gl_ (some 24) Try.func101 #[.slice A0_3 l0_3.length c0_3, .slice A1_3 l1_3.length c1_3] (h := ?_); (with_reducible refine (laws_eqItemS.calls k _ _ l0_3 _ _ l1_3 false _ ?side1 ?side2 ?side3 ?side4 A6.out).mono ?_); (case side1 => exact kcb); (case side2 => exact HC0_3.out); (case side3 => exact kcb); (case side4 => exact HC1_3.out); rintro e w87 ⟨rfl, hb⟩; refine ⟨_, rfl, ?_⟩; replace BK324 := Aside0.mk (blb BK324 hb); replace BK325 := Aside0.mk (blb BK325 hb); replace HB := Aside0.mk (below_step bel hb); (try clear hb); (try clear hb2); (try clear hk); (try clear hi)))
     go_ret
     exact ⟨by first | rfl | (simp [errW_none, errW_some] <;> rfl) | (simp [*, errW_none, errW_some] <;> rfl), by repeat (first | (with_reducible first | exact HB.out | apply below_alloc | apply pw_below_drewN | apply below_drew1 | refine below_set ?_ GE324.out | refine below_set ?_ GE325.out) | exact HB.out)⟩
   ·rw [if_neg c5] at H
    have c5b0 : (a0_2 == a1_2) = false := beq_eq_false_iff_ne.mpr c5
    have c5b1 : (a0_2 != a1_2) = true := bne_iff_ne.mpr c5
    obtain rfl := Option.some.inj H
    go_enter Try.func24, Try.ntmps24
    go_wp2_with (first | ((with_reducible refine gate_dst (N := 2) rfl ?_); refine bx_ 2 #[.int .i64 a0_0, .int .i64 a0_1, .int .i64 a0_2, .slice A0_3 l0_3.length c0_3, .int .i64 a0_4, .int .i64 a0_5, .int .i64 a0_6, .int .i64 a0_7, .slice A0_8 l0_8.length c0_8, .slice A0_9 l0_9.length c0_9, .slice A0_10 l0_10.length c0_10] 48 (h := ?_); intro gb324 hg w88 hbox hb; have BK324 := Aside0.mk (hbox); have GW324 := Aside0.mk ((by rw [hg]; exact (below_size bel) : w.heap.size ≤ gb324)); have GE324 := Aside0.mk ((by rw [hg]; exact (below_size bel) : w.heap.size ≤ gb324)); replace HB := Aside0.mk (below_step bel hb); clear hb hbox hg) | ((with_reducible refine gate_dst (N := 3) rfl ?_); refine bx_ 3 #[.int .i64 a1_0, .int .i64 a1_1, .int .i64 a1_2, .slice A1_3 l1_3.length c1_3, .int .i64 a1_4, .int .i64 a1_5, .int .i64 a1_6, .int .i64 a1_7, .slice A1_8 l1_8.length c1_8, .slice A1_9 l1_9.length c1_9, .slice A1_10 l1_10.length c1_10] 48 (h := ?_); intro gb325 hg w89 hbox hb; have BK325 := Aside0.mk (hbox); have GW325 := Aside0.mk ((by rw [hg]; exact (below_size bel) : w.heap.size ≤ gb325)); have GE325 := Aside0.mk ((by rw [hg]; exact (below_size bel) : w.heap.size ≤ gb325)); have NB324_325 := Aside0.mk ((by rw [hg]; exact Nat.ne_of_lt (blt BK324) : gb324 ≠ gb325)); have NB325_324 := Aside0.mk ((by rw [hg]; exact Nat.ne_of_gt (blt BK324) : gb325 ≠ gb324)); replace BK324 := Aside0.mk (blb BK324 hb); replace HB := Aside0.mk (below_step bel hb); clear hb hbox hg; have hnb90 := NB324_325.out; have hnc90 := NB325_324.out; obtain ⟨hcz91_0, hcz91_1, hcz91_2, hcz91_3, hcz91_4, hcz91_5, hcz91_6, hcz91_7, hcz91_8, hcz91_9, hcz91_10, -⟩ := cells_11 BK324.out trivial; obtain ⟨hfz91_0, hfz91_1, hfz91_2, hfz91_3, hfz91_4, hfz91_5, hfz91_6, hfz91_7, hfz91_8, hfz91_9, hfz91_10, -⟩ := frz_11 BK324.out; obtain ⟨hcz92_0, hcz92_1, hcz92_2, hcz92_3, hcz92_4, hcz92_5, hcz92_6, hcz92_7, hcz92_8, hcz92_9, hcz92_10, -⟩ := cells_11 BK325.out trivial; obtain ⟨hfz92_0, hfz92_1, hfz92_2, hfz92_3, hfz92_4, hfz92_5, hfz92_6, hfz92_7, hfz92_8, hfz92_9, hfz92_10, -⟩ := frz_11 BK325.out))
    go_ret
    exact ⟨by first | rfl | (simp [errW_none, errW_some] <;> rfl) | (simp [*, errW_none, errW_some] <;> rfl), by repeat (first | (with_reducible first | exact HB.out | apply below_alloc | apply pw_below_drewN | apply below_drew1 | refine below_set ?_ GE324.out | refine below_set ?_ GE325.out) | exact HB.out)⟩
  ·rw [if_neg c4] at H
   have c4b0 : (a0_1 == a1_1) = false := beq_eq_false_iff_ne.mpr c4
   have c4b1 : (a0_1 != a1_1) = true := bne_iff_ne.mpr c4
   obtain rfl := Option.some.inj H
   go_enter Try.func24, Try.ntmps24
   go_wp2_with (first | ((with_reducible refine gate_dst (N := 2) rfl ?_); refine bx_ 2 #[.int .i64 a0_0, .int .i64 a0_1, .int .i64 a0_2, .slice A0_3 l0_3.length c0_3, .int .i64 a0_4, .int .i64 a0_5, .int .i64 a0_6, .int .i64 a0_7, .slice A0_8 l0_8.length c0_8, .slice A0_9 l0_9.length c0_9, .slice A0_10 l0_10.length c0_10] 48 (h := ?_); intro gb324 hg w93 hbox hb; have BK324 := Aside0.mk (hbox); have GW324 := Aside0.mk ((by rw [hg]; exact (below_size bel) : w.heap.size ≤ gb324)); have GE324 := Aside0.mk ((by rw [hg]; exact (below_size bel) : w.heap.size ≤ gb324)); replace HB := Aside0.mk (below_step bel hb); clear hb hbox hg) | ((with_reducible refine gate_dst (N := 3) rfl ?_); refine bx_ 3 #[.int .i64 a1_0, .int .i64 a1_1, .int .i64 a1_2, .slice A1_3 l1_3.length c1_3, .int .i64 a1_4, .int .i64 a1_5, .int .i64 a1_6, .int .i64 a1_7, .slice A1_8 l1_8.length c1_8, .slice A1_9 l1_9.length c1_9, .slice A1_10 l1_10.length c1_10] 48 (h := ?_); intro gb325 hg w94 hbox hb; have BK325 := Aside0.mk (hbox); have GW325 := Aside0.mk ((by rw [hg]; exact (below_size bel) : w.heap.size ≤ gb325)); have GE325 := Aside0.mk ((by rw [hg]; exact (below_size bel) : w.heap.size ≤ gb325)); have NB324_325 := Aside0.mk ((by rw [hg]; exact Nat.ne_of_lt (blt BK324) : gb324 ≠ gb325)); have NB325_324 := Aside0.mk ((by rw [hg]; exact Nat.ne_of_gt (blt BK324) : gb325 ≠ gb324)); replace BK324 := Aside0.mk (blb BK324 hb); replace HB := Aside0.mk (below_step bel hb); clear hb hbox hg; have hnb95 := NB324_325.out; have hnc95 := NB325_324.out; obtain ⟨hcz96_0, hcz96_1, hcz96_2, hcz96_3, hcz96_4, hcz96_5, hcz96_6, hcz96_7, hcz96_8, hcz96_9, hcz96_10, -⟩ := cells_11 BK324.out trivial; obtain ⟨hfz96_0, hfz96_1, hfz96_2, hfz96_3, hfz96_4, hfz96_5, hfz96_6, hfz96_7, hfz96_8, hfz96_9, hfz96_10, -⟩ := frz_11 BK324.out; obtain ⟨hcz97_0, hcz97_1, hcz97_2, hcz97_3, hcz97_4, hcz97_5, hcz97_6, hcz97_7, hcz97_8, hcz97_9, hcz97_10, -⟩ := cells_11 BK325.out trivial; obtain ⟨hfz97_0, hfz97_1, hfz97_2, hfz97_3, hfz97_4, hfz97_5, hfz97_6, hfz97_7, hfz97_8, hfz97_9, hfz97_10, -⟩ := frz_11 BK325.out))
   go_ret
   exact ⟨by first | rfl | (simp [errW_none, errW_some] <;> rfl) | (simp [*, errW_none, errW_some] <;> rfl), by repeat (first | (with_reducible first | exact HB.out | apply below_alloc | apply pw_below_drewN | apply below_drew1 | refine below_set ?_ GE324.out | refine below_set ?_ GE325.out) | exact HB.out)⟩
 ·rw [if_neg c3] at H
  have c3b0 : (a0_0 == a1_0) = false := beq_eq_false_iff_ne.mpr c3
  have c3b1 : (a0_0 != a1_0) = true := bne_iff_ne.mpr c3
  obtain rfl := Option.some.inj H
  go_enter Try.func24, Try.ntmps24
  go_wp2_with (first | ((with_reducible refine gate_dst (N := 2) rfl ?_); refine bx_ 2 #[.int .i64 a0_0, .int .i64 a0_1, .int .i64 a0_2, .slice A0_3 l0_3.length c0_3, .int .i64 a0_4, .int .i64 a0_5, .int .i64 a0_6, .int .i64 a0_7, .slice A0_8 l0_8.length c0_8, .slice A0_9 l0_9.length c0_9, .slice A0_10 l0_10.length c0_10] 48 (h := ?_); intro gb324 hg w98 hbox hb; have BK324 := Aside0.mk (hbox); have GW324 := Aside0.mk ((by rw [hg]; exact (below_size bel) : w.heap.size ≤ gb324)); have GE324 := Aside0.mk ((by rw [hg]; exact (below_size bel) : w.heap.size ≤ gb324)); replace HB := Aside0.mk (below_step bel hb); clear hb hbox hg) | ((with_reducible refine gate_dst (N := 3) rfl ?_); refine bx_ 3 #[.int .i64 a1_0, .int .i64 a1_1, .int .i64 a1_2, .slice A1_3 l1_3.length c1_3, .int .i64 a1_4, .int .i64 a1_5, .int .i64 a1_6, .int .i64 a1_7, .slice A1_8 l1_8.length c1_8, .slice A1_9 l1_9.length c1_9, .slice A1_10 l1_10.length c1_10] 48 (h := ?_); intro gb325 hg w99 hbox hb; have BK325 := Aside0.mk (hbox); have GW325 := Aside0.mk ((by rw [hg]; exact (below_size bel) : w.heap.size ≤ gb325)); have GE325 := Aside0.mk ((by rw [hg]; exact (below_size bel) : w.heap.size ≤ gb325)); have NB324_325 := Aside0.mk ((by rw [hg]; exact Nat.ne_of_lt (blt BK324) : gb324 ≠ gb325)); have NB325_324 := Aside0.mk ((by rw [hg]; exact Nat.ne_of_gt (blt BK324) : gb325 ≠ gb324)); replace BK324 := Aside0.mk (blb BK324 hb); replace HB := Aside0.mk (below_step bel hb); clear hb hbox hg; have hnb100 := NB324_325.out; have hnc100 := NB325_324.out; obtain ⟨hcz101_0, hcz101_1, hcz101_2, hcz101_3, hcz101_4, hcz101_5, hcz101_6, hcz101_7, hcz101_8, hcz101_9, hcz101_10, -⟩ := cells_11 BK324.out trivial; obtain ⟨hfz101_0, hfz101_1, hfz101_2, hfz101_3, hfz101_4, hfz101_5, hfz101_6, hfz101_7, hfz101_8, hfz101_9, hfz101_10, -⟩ := frz_11 BK324.out; obtain ⟨hcz102_0, hcz102_1, hcz102_2, hcz102_3, hcz102_4, hcz102_5, hcz102_6, hcz102_7, hcz102_8, hcz102_9, hcz102_10, -⟩ := cells_11 BK325.out trivial; obtain ⟨hfz102_0, hfz102_1, hfz102_2, hfz102_3, hfz102_4, hfz102_5, hfz102_6, hfz102_7, hfz102_8, hfz102_9, hfz102_10, -⟩ := frz_11 BK325.out))
  go_ret
  exact ⟨by first | rfl | (simp [errW_none, errW_some] <;> rfl) | (simp [*, errW_none, errW_some] <;> rfl), by repeat (first | (with_reducible first | exact HB.out | apply below_alloc | apply pw_below_drewN | apply below_drew1 | refine below_set ?_ GE324.out | refine below_set ?_ GE325.out) | exact HB.out)⟩

end Go.Proofs.Ytdgegnakiljfjaa.PW
