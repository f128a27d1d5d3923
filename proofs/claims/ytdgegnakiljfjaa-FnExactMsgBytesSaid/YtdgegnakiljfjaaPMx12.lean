-- Written for this claim by the session's program pp.py, out of the kit's print and the seat's translation.
import Derived.Test.YtdgegnakiljfjaaPMx0
import Derived.Test.YtdgegnakiljfjaaPMx11
namespace Go.Proofs.Ytdgegnakiljfjaa.PM
open Go.RowKit Go.Proofs.YtdgegnakiljfjaaW.PrintWords Go.Proofs.YtdgegnakiljfjaaW.PrintLast Go.Proofs.YtdgegnakiljfjaaW.PrintMore
attribute [local go_sem] max2_int min2_int max_two min_two max_three min_three max_four min_four   -- for this text's walks alone
set_option linter.unusedVariables false
set_option linter.unusedSimpArgs false

/-! ### laws_eqItemS: function 101 -/
def laws_eqItemS.l0 : Nat → List (S147) → List (S147) → Int → Option (Bool)
 | 0, _, _, _ => none
 | k + 1, x0, x1, x5 => if x5 < (x0.length : Int) then (if 0 ≤ x5 then (if x5 < (x1.length : Int) then ((laws_eqItem.f k ((rd_T147 x0 x5).f0) ((rd_T147 x0 x5).f1.f0) ((rd_T147 x0 x5).f1.f1) ((rd_T147 x0 x5).f1.f2.f0) ((rd_T147 x0 x5).f1.f2.f1) ((rd_T147 x0 x5).f1.f2.f2) ((rd_T147 x0 x5).f1.f2.f3) ((rd_T147 x1 x5).f0) ((rd_T147 x1 x5).f1.f0) ((rd_T147 x1 x5).f1.f1) ((rd_T147 x1 x5).f1.f2.f0) ((rd_T147 x1 x5).f1.f2.f1) ((rd_T147 x1 x5).f1.f2.f2) ((rd_T147 x1 x5).f1.f2.f3)).bind fun t443 => (if t443 = true then (laws_eqItemS.l0 k x0 x1 (wrap64 (x5 + 1))) else (some false))) else (none)) else (none)) else (some true)
def laws_eqItemS.f (k : Nat) (l0 : List (S147)) (l1 : List (S147)) : Option (Bool) := if (l0.length : Int) = (l1.length : Int) then (laws_eqItemS.l0 k l0 l1 0) else (some false)
def laws_eqItemS.T6 : Bool × List (List Nat × List Nat) := (true, [([], []), ([], []), ([0, 1], [0, 1]), ([2], [2]), ([], []), ([], []), ([4, 5], [4, 5]), ([6], [6]), ([3, 7], [3, 7]), ([8], [8])])
def laws_eqItemS.B6 : List Nat := [0, 0, 3, 7, 0, 0, 48, 112, 255, 511]
theorem laws_eqItemS.tab6 : rtab .any (opsOf Try.f101 6) = laws_eqItemS.T6 := by kernel_rfl
theorem laws_eqItemS.bits6 : waitsOk laws_eqItemS.T6.2 laws_eqItemS.B6 = true := by kernel_rfl
set_option maxHeartbeats 8000000 in
set_option maxRecDepth 100000 in
theorem laws_eqItemS.calls (k : Nat) (A0 : Option Addr) (c0 : Nat) (l0 : List (S147)) (A1 : Option Addr) (c1 : Nat) (l1 : List (S147)) (r : Bool) (w : World) (hr0 : Kd.C k147 w A0 l0.length l0) (hc0 : l0.length ≤ c0) (hr1 : Kd.C k147 w A1 l1.length l1) (hc1 : l1.length ≤ c1) (h : laws_eqItemS.f k l0 l1 = some r) :
  Calls Try.prog 101 #[.slice A0 l0.length c0, .slice A1 l1.length c1] w fun e w' => e = .returned (.bool r) ∧ Below w.heap.size w w' := by
 have hu147 := Try.underlying147
 have HR0 := Aside0.mk hr0
 have HC0 := Aside0.mk hc0
 clear hr0 hc0
 have HR1 := Aside0.mk hr1
 have HC1 := Aside0.mk hc1
 clear hr1 hc1
 have HB := Aside0.mk (Below.refl w.heap.size w)
 have H : (if (l0.length : Int) = (l1.length : Int) then (laws_eqItemS.l0 k l0 l1 0) else (some false)) = some r := h
 clear h
 by_cases c3 : (l0.length : Int) = (l1.length : Int)
 ·rw [if_pos c3] at H
  have c3b0 : ((l0.length : Int) == (l1.length : Int)) = true := beq_iff_eq.mpr c3
  have c3b1 : ((l0.length : Int) != (l1.length : Int)) = false := bne_eq_false_iff_eq.mpr c3
  have c3b2 : (l0.length == l1.length) = true := by first | simpa using c3 | (simp at c3 ⊢; omega)
  clear c3
  have H' := Aside0.mk H
  clear H
  go_enter Try.func101, Try.ntmps101
  go_wp2
  go_loopg [5] k (fun kq v5 w' => ∃ (x5_1 : Int), v5 = .int .i64 x5_1 ∧ Aside0 (laws_eqItemS.l0 kq l0 l1 x5_1 = some r) ∧ Aside0 (kq ≤ k) ∧ Aside0 (Below w.heap.size w w'))
  case atStart => exact ⟨(0), rs_, H', ⟨Nat.le_refl _⟩, ⟨bel⟩⟩
  case round =>
   clear H'
   try clear c1; try clear p2; try clear c3; try clear c3b0; try clear c3b1; try clear c3b2
   obtain ⟨x5_1, rfl, HA, HK1, HB⟩ := hrel
   cases gk with
   | zero => exact absurd HA.out (by simp [laws_eqItemS.l0])
   | succ k1 =>
    have H := HA.out
    clear HA
    simp only [laws_eqItemS.l0] at H
    by_cases c4 : x5_1 < (l0.length : Int)
    ·rw [if_pos c4] at H
     have c4b0 : decide (x5_1 < (l0.length : Int)) = true := decide_eq_true c4
     clear c4
     by_cases c5 : 0 ≤ x5_1
     ·rw [if_pos c5] at H
      have c5b0 : decide (0 ≤ x5_1) = true := decide_eq_true c5
      clear c5
      by_cases c6 : x5_1 < (l1.length : Int)
      ·rw [if_pos c6] at H
       have c6b0 : decide (x5_1 < (l1.length : Int)) = true := decide_eq_true c6
       clear c6
       replace H := Option.bind_eq_some_iff.mp H
       obtain ⟨t443, A70, H⟩ := H
       replace H : (if t443 = true then (laws_eqItemS.l0 k1 l0 l1 (wrap64 (x5_1 + 1))) else (some false)) = some r := H
       have A7 := Aside0.mk A70
       clear A70
       by_cases c8 : t443 = true
       ·subst c8
        have H1 : (laws_eqItemS.l0 k1 l0 l1 (wrap64 (x5_1 + 1))) = some r := by rw [if_pos rfl] at H; exact H
        clear H
        have H := H1
        clear H1
        have H' := Aside0.mk H
        clear H
        try go_wp2
        replace HB := Aside0.mk (below_drew1 HB.out)
        have p441 : 0 ≤ (x5_1 : Int) := od
        have q441 : x5_1 < (l0.length : Int) := od
        obtain ⟨ad441, A441_4, c441_4, A441_5, c441_5, e441, hx441_0, hx441_1, hx441_2, hx441_3, hx441_4, hx441_5, hx441_6, hl441_4, hi441_4, hl441_5, hi441_5⟩ := at_T147 HR0.out x5_1 p441 q441
        have hw441_6 := hx441_6
        have hw441_5 := hx441_5
        have hw441_4 := hx441_4
        have hw441_3 := hx441_3
        have hw441_2 := hx441_2
        have hw441_1 := hx441_1
        have hw441_0 := hx441_0
        cases e441
        replace hx441_0 := hxb HB hx441_0
        replace hx441_1 := hxb HB hx441_1
        replace hx441_2 := hxb HB hx441_2
        replace hx441_3 := hxb HB hx441_3
        replace hx441_4 := hxb HB hx441_4
        replace hx441_5 := hxb HB hx441_5
        replace hx441_6 := hxb HB hx441_6
        have HR441_4 := Aside0.mk hi441_4
        have HC441_4 := Aside0.mk hl441_4
        clear hi441_4 hl441_4
        have HR441_5 := Aside0.mk hi441_5
        have HC441_5 := Aside0.mk hl441_5
        clear hi441_5 hl441_5
        replace p441 := eq_true p441
        replace q441 := eq_true q441
        have p442 : 0 ≤ (x5_1 : Int) := od
        have q442 : x5_1 < (l1.length : Int) := od
        obtain ⟨ad442, A442_4, c442_4, A442_5, c442_5, e442, hx442_0, hx442_1, hx442_2, hx442_3, hx442_4, hx442_5, hx442_6, hl442_4, hi442_4, hl442_5, hi442_5⟩ := at_T147 HR1.out x5_1 p442 q442
        have hw442_6 := hx442_6
        have hw442_5 := hx442_5
        have hw442_4 := hx442_4
        have hw442_3 := hx442_3
        have hw442_2 := hx442_2
        have hw442_1 := hx442_1
        have hw442_0 := hx442_0
        cases e442
        replace hx442_0 := hxb HB hx442_0
        replace hx442_1 := hxb HB hx442_1
        replace hx442_2 := hxb HB hx442_2
        replace hx442_3 := hxb HB hx442_3
        replace hx442_4 := hxb HB hx442_4
        replace hx442_5 := hxb HB hx442_5
        replace hx442_6 := hxb HB hx442_6
        have HR442_4 := Aside0.mk hi442_4
        have HC442_4 := Aside0.mk hl442_4
        clear hi442_4 hl442_4
        have HR442_5 := Aside0.mk hi442_5
        have HC442_5 := Aside0.mk hl442_5
        clear hi442_5 hl442_5
        replace p442 := eq_true p442
        replace q442 := eq_true q442
        refine start_ (n := 10) (S := fun w' => w'.cell? (ad441.add ((x5_1).toNat * 7)) = some (.int .i64 ((rd_T147 l0 x5_1).f0)) ∧ w'.cell? ⟨(ad441.add ((x5_1).toNat * 7)).block, (ad441.add ((x5_1).toNat * 7)).off + 1, none⟩ = some (.int .i64 ((rd_T147 l0 x5_1).f1.f0)) ∧ w'.cell? ⟨(ad441.add ((x5_1).toNat * 7)).block, (ad441.add ((x5_1).toNat * 7)).off + 2, none⟩ = some (.int .i64 ((rd_T147 l0 x5_1).f1.f1)) ∧ w'.cell? ⟨(ad441.add ((x5_1).toNat * 7)).block, (ad441.add ((x5_1).toNat * 7)).off + 3, none⟩ = some (.int .i64 ((rd_T147 l0 x5_1).f1.f2.f0)) ∧ w'.cell? ⟨(ad441.add ((x5_1).toNat * 7)).block, (ad441.add ((x5_1).toNat * 7)).off + 4, none⟩ = some (.slice A441_4 ((rd_T147 l0 x5_1).f1.f2.f1).length c441_4) ∧ w'.cell? ⟨(ad441.add ((x5_1).toNat * 7)).block, (ad441.add ((x5_1).toNat * 7)).off + 5, none⟩ = some (.slice A441_5 ((rd_T147 l0 x5_1).f1.f2.f2).length c441_5) ∧ w'.cell? ⟨(ad441.add ((x5_1).toNat * 7)).block, (ad441.add ((x5_1).toNat * 7)).off + 6, none⟩ = some (.int .i64 ((rd_T147 l0 x5_1).f1.f2.f3)) ∧ w'.cell? (ad442.add ((x5_1).toNat * 7)) = some (.int .i64 ((rd_T147 l1 x5_1).f0)) ∧ w'.cell? ⟨(ad442.add ((x5_1).toNat * 7)).block, (ad442.add ((x5_1).toNat * 7)).off + 1, none⟩ = some (.int .i64 ((rd_T147 l1 x5_1).f1.f0)) ∧ w'.cell? ⟨(ad442.add ((x5_1).toNat * 7)).block, (ad442.add ((x5_1).toNat * 7)).off + 2, none⟩ = some (.int .i64 ((rd_T147 l1 x5_1).f1.f1)) ∧ w'.cell? ⟨(ad442.add ((x5_1).toNat * 7)).block, (ad442.add ((x5_1).toNat * 7)).off + 3, none⟩ = some (.int .i64 ((rd_T147 l1 x5_1).f1.f2.f0)) ∧ w'.cell? ⟨(ad442.add ((x5_1).toNat * 7)).block, (ad442.add ((x5_1).toNat * 7)).off + 4, none⟩ = some (.slice A442_4 ((rd_T147 l1 x5_1).f1.f2.f1).length c442_4) ∧ w'.cell? ⟨(ad442.add ((x5_1).toNat * 7)).block, (ad442.add ((x5_1).toNat * 7)).off + 5, none⟩ = some (.slice A442_5 ((rd_T147 l1 x5_1).f1.f2.f2).length c442_5) ∧ w'.cell? ⟨(ad442.add ((x5_1).toNat * 7)).block, (ad442.add ((x5_1).toNat * 7)).off + 6, none⟩ = some (.int .i64 ((rd_T147 l1 x5_1).f1.f2.f3))) (ds := []) (tf 0 10) (by kernel_rfl) rfl rfl ⟨(hxb HB hw441_0 :), (hxb HB hw441_1 :), (hxb HB hw441_2 :), (hxb HB hw441_3 :), (hxb HB hw441_4 :), (hxb HB hw441_5 :), (hxb HB hw441_6 :), (hxb HB hw442_0 :), (hxb HB hw442_1 :), (hxb HB hw442_2 :), (hxb HB hw442_3 :), (hxb HB hw442_4 :), (hxb HB hw442_5 :), (hxb HB hw442_6 :)⟩ (fun hHeld => ?_); refine with_tabW laws_eqItemS.tab6 laws_eqItemS.bits6 (fun HT_ HW_ => ?_)
        generalize wr.drew = w9 at HB HR441_4 HR441_5 HR442_4 HR442_5 hx441_0 hx441_1 hx441_2 hx441_3 hx441_4 hx441_5 hx441_6 hx442_0 hx442_1 hx442_2 hx442_3 hx442_4 hx442_5 hx442_6 hHeld ⊢
        iterate 3 (refine pvn_ HT_ (h := ?_))
        refine pv_ HT_ 4 (some 21) (tb 10 23) (h := ?_)
        refine pv_ HT_ 5 (some 22) (tb 10 55) (h := ?_)
        refine pv_ HT_ 6 (some 23) (tb 10 119) (h := ?_)
        refine tv_ HT_ HW_ hHeld 3 (some 20) (tf 7 3) (h := ?_)
        refine tvn_ HT_ HW_ hHeld (h := ?_)
        refine one_ (i := 8) (N := some 25) (tf 9 1) rfl rfl (one_of HT_.out (by kernel_rfl)) (by decide) (fun K hK => ?_)
        refine gs_ Try.func165 #[.agg #[.int .i64 ((rd_T147 l0 x5_1).f0), .int .i64 ((rd_T147 l0 x5_1).f1.f0), .int .i64 ((rd_T147 l0 x5_1).f1.f1), .int .i64 ((rd_T147 l0 x5_1).f1.f2.f0), .slice A441_4 ((rd_T147 l0 x5_1).f1.f2.f1).length c441_4, .slice A441_5 ((rd_T147 l0 x5_1).f1.f2.f2).length c441_5, .int .i64 ((rd_T147 l0 x5_1).f1.f2.f3)], .agg #[.int .i64 ((rd_T147 l1 x5_1).f0), .int .i64 ((rd_T147 l1 x5_1).f1.f0), .int .i64 ((rd_T147 l1 x5_1).f1.f1), .int .i64 ((rd_T147 l1 x5_1).f1.f2.f0), .slice A442_4 ((rd_T147 l1 x5_1).f1.f2.f1).length c442_4, .slice A442_5 ((rd_T147 l1 x5_1).f1.f2.f2).length c442_5, .int .i64 ((rd_T147 l1 x5_1).f1.f2.f3)]] (h := ?_)
        with_reducible refine (laws_eqItem.calls k1 ((rd_T147 l0 x5_1).f0) ((rd_T147 l0 x5_1).f1.f0) ((rd_T147 l0 x5_1).f1.f1) ((rd_T147 l0 x5_1).f1.f2.f0) _ _ ((rd_T147 l0 x5_1).f1.f2.f1) _ _ ((rd_T147 l0 x5_1).f1.f2.f2) ((rd_T147 l0 x5_1).f1.f2.f3) ((rd_T147 l1 x5_1).f0) ((rd_T147 l1 x5_1).f1.f0) ((rd_T147 l1 x5_1).f1.f1) ((rd_T147 l1 x5_1).f1.f2.f0) _ _ ((rd_T147 l1 x5_1).f1.f2.f1) _ _ ((rd_T147 l1 x5_1).f1.f2.f2) ((rd_T147 l1 x5_1).f1.f2.f3) true _ ?side1 ?side2 ?side3 ?side4 ?side5 ?side6 ?side7 ?side8 A7.out).mono ?_
        (case side1 => exact kcb)
        (case side2 => exact HC441_4.out)
        (case side3 => exact kcb)
        (case side4 => exact HC441_5.out)
        (case side5 => exact kcb)
        (case side6 => exact HC442_4.out)
        (case side7 => exact kcb)
        (case side8 => exact HC442_5.out)
        rintro e w10 ⟨rfl, hb⟩
        refine ⟨_, rfl, ?_⟩
        replace HB := Aside0.mk (below_step bel hb)
        (try clear hb)
        (try clear hb2)
        (try clear hk)
        (try clear hi)
        refine hK.out _ _ ⟨(hxb HB hw441_0 :), (hxb HB hw441_1 :), (hxb HB hw441_2 :), (hxb HB hw441_3 :), (hxb HB hw441_4 :), (hxb HB hw441_5 :), (hxb HB hw441_6 :), (hxb HB hw442_0 :), (hxb HB hw442_1 :), (hxb HB hw442_2 :), (hxb HB hw442_3 :), (hxb HB hw442_4 :), (hxb HB hw442_5 :), (hxb HB hw442_6 :)⟩ (fun hHeld => ?_)
        clear hK K
        refine nrm_ (some 25) (h := ?_)
        refine pvn_ HT_ (h := ?_)
        refine done_ (done_of HT_.out (by kernel_rfl)) ?_
        try go_wp2
        go_roundg k1
        case measure => have := HK1.out; omega
        case rel => exact ⟨(wrap64 (x5_1 + 1)), rs_, H', ⟨by have := HK1.out; omega⟩, ⟨bel⟩⟩
       replace c8 := Bool.eq_false_iff.mpr c8
       subst c8
       have H1 : (some false) = some r := by rw [if_neg (show ¬ (false = true) by decide)] at H; exact H
       clear H
       have H := H1
       clear H1
       obtain rfl := Option.some.inj H
       try go_wp2
       replace HB := Aside0.mk (below_drew1 HB.out)
       have p441 : 0 ≤ (x5_1 : Int) := od
       have q441 : x5_1 < (l0.length : Int) := od
       obtain ⟨ad441, A441_4, c441_4, A441_5, c441_5, e441, hx441_0, hx441_1, hx441_2, hx441_3, hx441_4, hx441_5, hx441_6, hl441_4, hi441_4, hl441_5, hi441_5⟩ := at_T147 HR0.out x5_1 p441 q441
       have hw441_6 := hx441_6
       have hw441_5 := hx441_5
       have hw441_4 := hx441_4
       have hw441_3 := hx441_3
       have hw441_2 := hx441_2
       have hw441_1 := hx441_1
       have hw441_0 := hx441_0
       cases e441
       replace hx441_0 := hxb HB hx441_0
       replace hx441_1 := hxb HB hx441_1
       replace hx441_2 := hxb HB hx441_2
       replace hx441_3 := hxb HB hx441_3
       replace hx441_4 := hxb HB hx441_4
       replace hx441_5 := hxb HB hx441_5
       replace hx441_6 := hxb HB hx441_6
       have HR441_4 := Aside0.mk hi441_4
       have HC441_4 := Aside0.mk hl441_4
       clear hi441_4 hl441_4
       have HR441_5 := Aside0.mk hi441_5
       have HC441_5 := Aside0.mk hl441_5
       clear hi441_5 hl441_5
       replace p441 := eq_true p441
       replace q441 := eq_true q441
       have p442 : 0 ≤ (x5_1 : Int) := od
       have q442 : x5_1 < (l1.length : Int) := od
       obtain ⟨ad442, A442_4, c442_4, A442_5, c442_5, e442, hx442_0, hx442_1, hx442_2, hx442_3, hx442_4, hx442_5, hx442_6, hl442_4, hi442_4, hl442_5, hi442_5⟩ := at_T147 HR1.out x5_1 p442 q442
       have hw442_6 := hx442_6
       have hw442_5 := hx442_5
       have hw442_4 := hx442_4
       have hw442_3 := hx442_3
       have hw442_2 := hx442_2
       have hw442_1 := hx442_1
       have hw442_0 := hx442_0
       cases e442
       replace hx442_0 := hxb HB hx442_0
       replace hx442_1 := hxb HB hx442_1
       replace hx442_2 := hxb HB hx442_2
       replace hx442_3 := hxb HB hx442_3
       replace hx442_4 := hxb HB hx442_4
       replace hx442_5 := hxb HB hx442_5
       replace hx442_6 := hxb HB hx442_6
       have HR442_4 := Aside0.mk hi442_4
       have HC442_4 := Aside0.mk hl442_4
       clear hi442_4 hl442_4
       have HR442_5 := Aside0.mk hi442_5
       have HC442_5 := Aside0.mk hl442_5
       clear hi442_5 hl442_5
       replace p442 := eq_true p442
       replace q442 := eq_true q442
       refine start_ (n := 10) (S := fun w' => w'.cell? (ad441.add ((x5_1).toNat * 7)) = some (.int .i64 ((rd_T147 l0 x5_1).f0)) ∧ w'.cell? ⟨(ad441.add ((x5_1).toNat * 7)).block, (ad441.add ((x5_1).toNat * 7)).off + 1, none⟩ = some (.int .i64 ((rd_T147 l0 x5_1).f1.f0)) ∧ w'.cell? ⟨(ad441.add ((x5_1).toNat * 7)).block, (ad441.add ((x5_1).toNat * 7)).off + 2, none⟩ = some (.int .i64 ((rd_T147 l0 x5_1).f1.f1)) ∧ w'.cell? ⟨(ad441.add ((x5_1).toNat * 7)).block, (ad441.add ((x5_1).toNat * 7)).off + 3, none⟩ = some (.int .i64 ((rd_T147 l0 x5_1).f1.f2.f0)) ∧ w'.cell? ⟨(ad441.add ((x5_1).toNat * 7)).block, (ad441.add ((x5_1).toNat * 7)).off + 4, none⟩ = some (.slice A441_4 ((rd_T147 l0 x5_1).f1.f2.f1).length c441_4) ∧ w'.cell? ⟨(ad441.add ((x5_1).toNat * 7)).block, (ad441.add ((x5_1).toNat * 7)).off + 5, none⟩ = some (.slice A441_5 ((rd_T147 l0 x5_1).f1.f2.f2).length c441_5) ∧ w'.cell? ⟨(ad441.add ((x5_1).toNat * 7)).block, (ad441.add ((x5_1).toNat * 7)).off + 6, none⟩ = some (.int .i64 ((rd_T147 l0 x5_1).f1.f2.f3)) ∧ w'.cell? (ad442.add ((x5_1).toNat * 7)) = some (.int .i64 ((rd_T147 l1 x5_1).f0)) ∧ w'.cell? ⟨(ad442.add ((x5_1).toNat * 7)).block, (ad442.add ((x5_1).toNat * 7)).off + 1, none⟩ = some (.int .i64 ((rd_T147 l1 x5_1).f1.f0)) ∧ w'.cell? ⟨(ad442.add ((x5_1).toNat * 7)).block, (ad442.add ((x5_1).toNat * 7)).off + 2, none⟩ = some (.int .i64 ((rd_T147 l1 x5_1).f1.f1)) ∧ w'.cell? ⟨(ad442.add ((x5_1).toNat * 7)).block, (ad442.add ((x5_1).toNat * 7)).off + 3, none⟩ = some (.int .i64 ((rd_T147 l1 x5_1).f1.f2.f0)) ∧ w'.cell? ⟨(ad442.add ((x5_1).toNat * 7)).block, (ad442.add ((x5_1).toNat * 7)).off + 4, none⟩ = some (.slice A442_4 ((rd_T147 l1 x5_1).f1.f2.f1).length c442_4) ∧ w'.cell? ⟨(ad442.add ((x5_1).toNat * 7)).block, (ad442.add ((x5_1).toNat * 7)).off + 5, none⟩ = some (.slice A442_5 ((rd_T147 l1 x5_1).f1.f2.f2).length c442_5) ∧ w'.cell? ⟨(ad442.add ((x5_1).toNat * 7)).block, (ad442.add ((x5_1).toNat * 7)).off + 6, none⟩ = some (.int .i64 ((rd_T147 l1 x5_1).f1.f2.f3))) (ds := []) (tf 0 10) (by kernel_rfl) rfl rfl ⟨(hxb HB hw441_0 :), (hxb HB hw441_1 :), (hxb HB hw441_2 :), (hxb HB hw441_3 :), (hxb HB hw441_4 :), (hxb HB hw441_5 :), (hxb HB hw441_6 :), (hxb HB hw442_0 :), (hxb HB hw442_1 :), (hxb HB hw442_2 :), (hxb HB hw442_3 :), (hxb HB hw442_4 :), (hxb HB hw442_5 :), (hxb HB hw442_6 :)⟩ (fun hHeld => ?_); refine with_tabW laws_eqItemS.tab6 laws_eqItemS.bits6 (fun HT_ HW_ => ?_)
       generalize wr.drew = w11 at HB HR441_4 HR441_5 HR442_4 HR442_5 hx441_0 hx441_1 hx441_2 hx441_3 hx441_4 hx441_5 hx441_6 hx442_0 hx442_1 hx442_2 hx442_3 hx442_4 hx442_5 hx442_6 hHeld ⊢
       iterate 3 (refine pvn_ HT_ (h := ?_))
       refine pv_ HT_ 4 (some 21) (tb 10 23) (h := ?_)
       refine pv_ HT_ 5 (some 22) (tb 10 55) (h := ?_)
       refine pv_ HT_ 6 (some 23) (tb 10 119) (h := ?_)
       refine tv_ HT_ HW_ hHeld 3 (some 20) (tf 7 3) (h := ?_)
       refine tvn_ HT_ HW_ hHeld (h := ?_)
       refine one_ (i := 8) (N := some 25) (tf 9 1) rfl rfl (one_of HT_.out (by kernel_rfl)) (by decide) (fun K hK => ?_)
       refine gs_ Try.func165 #[.agg #[.int .i64 ((rd_T147 l0 x5_1).f0), .int .i64 ((rd_T147 l0 x5_1).f1.f0), .int .i64 ((rd_T147 l0 x5_1).f1.f1), .int .i64 ((rd_T147 l0 x5_1).f1.f2.f0), .slice A441_4 ((rd_T147 l0 x5_1).f1.f2.f1).length c441_4, .slice A441_5 ((rd_T147 l0 x5_1).f1.f2.f2).length c441_5, .int .i64 ((rd_T147 l0 x5_1).f1.f2.f3)], .agg #[.int .i64 ((rd_T147 l1 x5_1).f0), .int .i64 ((rd_T147 l1 x5_1).f1.f0), .int .i64 ((rd_T147 l1 x5_1).f1.f1), .int .i64 ((rd_T147 l1 x5_1).f1.f2.f0), .slice A442_4 ((rd_T147 l1 x5_1).f1.f2.f1).length c442_4, .slice A442_5 ((rd_T147 l1 x5_1).f1.f2.f2).length c442_5, .int .i64 ((rd_T147 l1 x5_1).f1.f2.f3)]] (h := ?_)
       with_reducible refine (laws_eqItem.calls k1 ((rd_T147 l0 x5_1).f0) ((rd_T147 l0 x5_1).f1.f0) ((rd_T147 l0 x5_1).f1.f1) ((rd_T147 l0 x5_1).f1.f2.f0) _ _ ((rd_T147 l0 x5_1).f1.f2.f1) _ _ ((rd_T147 l0 x5_1).f1.f2.f2) ((rd_T147 l0 x5_1).f1.f2.f3) ((rd_T147 l1 x5_1).f0) ((rd_T147 l1 x5_1).f1.f0) ((rd_T147 l1 x5_1).f1.f1) ((rd_T147 l1 x5_1).f1.f2.f0) _ _ ((rd_T147 l1 x5_1).f1.f2.f1) _ _ ((rd_T147 l1 x5_1).f1.f2.f2) ((rd_T147 l1 x5_1).f1.f2.f3) false _ ?side1 ?side2 ?side3 ?side4 ?side5 ?side6 ?side7 ?side8 A7.out).mono ?_
       (case side1 => exact kcb)
       (case side2 => exact HC441_4.out)
       (case side3 => exact kcb)
       (case side4 => exact HC441_5.out)
       (case side5 => exact kcb)
       (case side6 => exact HC442_4.out)
       (case side7 => exact kcb)
       (case side8 => exact HC442_5.out)
       rintro e w12 ⟨rfl, hb⟩
       refine ⟨_, rfl, ?_⟩
       replace HB := Aside0.mk (below_step bel hb)
       (try clear hb)
       (try clear hb2)
       (try clear hk)
       (try clear hi)
       refine hK.out _ _ ⟨(hxb HB hw441_0 :), (hxb HB hw441_1 :), (hxb HB hw441_2 :), (hxb HB hw441_3 :), (hxb HB hw441_4 :), (hxb HB hw441_5 :), (hxb HB hw441_6 :), (hxb HB hw442_0 :), (hxb HB hw442_1 :), (hxb HB hw442_2 :), (hxb HB hw442_3 :), (hxb HB hw442_4 :), (hxb HB hw442_5 :), (hxb HB hw442_6 :)⟩ (fun hHeld => ?_)
       clear hK K
       refine nrm_ (some 25) (h := ?_)
       refine pvn_ HT_ (h := ?_)
       refine done_ (done_of HT_.out (by kernel_rfl)) ?_
       try go_wp2
       go_ret
       exact ⟨rz_, bel⟩
      rw [if_neg c6] at H
      exact absurd H (by simp)
     rw [if_neg c5] at H
     exact absurd H (by simp)
    rw [if_neg c4] at H
    have c4b0 : decide (x5_1 < (l0.length : Int)) = false := decide_eq_false c4
    clear c4
    obtain rfl := Option.some.inj H
    go_wp2
    go_ret
    exact ⟨rz_, bel⟩
 rw [if_neg c3] at H
 have c3b0 : ((l0.length : Int) == (l1.length : Int)) = false := beq_eq_false_iff_ne.mpr c3
 have c3b1 : ((l0.length : Int) != (l1.length : Int)) = true := bne_iff_ne.mpr c3
 have c3b2 : (l0.length == l1.length) = false := by first | simpa using c3 | (simp at c3 ⊢; omega)
 obtain rfl := Option.some.inj H
 go_enter Try.func101, Try.ntmps101
 go_wp2
 go_ret
 exact ⟨rz_, bel⟩

/-! ### laws_eqMsg: function 36 -/
def laws_eqMsg.f (k : Nat) (a0_0 : Int) (a0_1 : Int) (a0_2 : Int) (a0_3 : Int) (a0_4 : Int) (a0_5 : Int) (l0_6 : List (S147)) (a0_7 : Int) (a0_8 : Bool) (a1_0 : Int) (a1_1 : Int) (a1_2 : Int) (a1_3 : Int) (a1_4 : Int) (a1_5 : Int) (l1_6 : List (S147)) (a1_7 : Int) (a1_8 : Bool) : Option (Bool) := if a0_0 = a1_0 then (if a0_1 = a1_1 then (if a0_2 = a1_2 then (if a0_3 = a1_3 then (if a0_4 = a1_4 then (if a0_5 = a1_5 then ((laws_eqItemS.f k l0_6 l1_6).bind fun t446 => (if t446 = true then (if a0_7 = a1_7 then (if (a0_8 != a1_8) = true then (some false) else (some true)) else (some false)) else (some false))) else (some false)) else (some false)) else (some false)) else (some false)) else (some false)) else (some false)
set_option maxHeartbeats 8000000 in
set_option maxRecDepth 100000 in
theorem laws_eqMsg.calls (k : Nat) (a0_0 : Int) (a0_1 : Int) (a0_2 : Int) (a0_3 : Int) (a0_4 : Int) (a0_5 : Int) (A0_6 : Option Addr) (c0_6 : Nat) (l0_6 : List (S147)) (a0_7 : Int) (a0_8 : Bool) (a1_0 : Int) (a1_1 : Int) (a1_2 : Int) (a1_3 : Int) (a1_4 : Int) (a1_5 : Int) (A1_6 : Option Addr) (c1_6 : Nat) (l1_6 : List (S147)) (a1_7 : Int) (a1_8 : Bool) (r : Bool) (w : World) (hr0_6 : Kd.C k147 w A0_6 l0_6.length l0_6) (hc0_6 : l0_6.length ≤ c0_6) (hr1_6 : Kd.C k147 w A1_6 l1_6.length l1_6) (hc1_6 : l1_6.length ≤ c1_6) (h : laws_eqMsg.f k a0_0 a0_1 a0_2 a0_3 a0_4 a0_5 l0_6 a0_7 a0_8 a1_0 a1_1 a1_2 a1_3 a1_4 a1_5 l1_6 a1_7 a1_8 = some r) :
  Calls Try.prog 36 #[.agg #[.int .i64 a0_0, .int .i64 a0_1, .int .i64 a0_2, .int .i64 a0_3, .int .i64 a0_4, .int .i64 a0_5, .slice A0_6 l0_6.length c0_6, .int .i64 a0_7, .bool a0_8], .agg #[.int .i64 a1_0, .int .i64 a1_1, .int .i64 a1_2, .int .i64 a1_3, .int .i64 a1_4, .int .i64 a1_5, .slice A1_6 l1_6.length c1_6, .int .i64 a1_7, .bool a1_8]] w fun e w' => e = .returned (.bool r) ∧ Below w.heap.size w w' := by
 have hu54 := Try.underlying54
 have HR0_6 := Aside0.mk hr0_6
 have HC0_6 := Aside0.mk hc0_6
 clear hr0_6 hc0_6
 have HR1_6 := Aside0.mk hr1_6
 have HC1_6 := Aside0.mk hc1_6
 clear hr1_6 hc1_6
 have HB := Aside0.mk (Below.refl w.heap.size w)
 have H : (if a0_0 = a1_0 then (if a0_1 = a1_1 then (if a0_2 = a1_2 then (if a0_3 = a1_3 then (if a0_4 = a1_4 then (if a0_5 = a1_5 then ((laws_eqItemS.f k l0_6 l1_6).bind fun t446 => (if t446 = true then (if a0_7 = a1_7 then (if (a0_8 != a1_8) = true then (some false) else (some true)) else (some false)) else (some false))) else (some false)) else (some false)) else (some false)) else (some false)) else (some false)) else (some false)) = some r := h
 clear h
 by_cases c3 : a0_0 = a1_0
 ·rw [if_pos c3] at H
  have c3b0 : (a0_0 == a1_0) = true := beq_iff_eq.mpr c3
  have c3b1 : (a0_0 != a1_0) = false := bne_eq_false_iff_eq.mpr c3
  clear c3
  by_cases c4 : a0_1 = a1_1
  ·rw [if_pos c4] at H
   have c4b0 : (a0_1 == a1_1) = true := beq_iff_eq.mpr c4
   have c4b1 : (a0_1 != a1_1) = false := bne_eq_false_iff_eq.mpr c4
   clear c4
   by_cases c5 : a0_2 = a1_2
   ·rw [if_pos c5] at H
    have c5b0 : (a0_2 == a1_2) = true := beq_iff_eq.mpr c5
    have c5b1 : (a0_2 != a1_2) = false := bne_eq_false_iff_eq.mpr c5
    clear c5
    by_cases c6 : a0_3 = a1_3
    ·rw [if_pos c6] at H
     have c6b0 : (a0_3 == a1_3) = true := beq_iff_eq.mpr c6
     have c6b1 : (a0_3 != a1_3) = false := bne_eq_false_iff_eq.mpr c6
     clear c6
     by_cases c7 : a0_4 = a1_4
     ·rw [if_pos c7] at H
      have c7b0 : (a0_4 == a1_4) = true := beq_iff_eq.mpr c7
      have c7b1 : (a0_4 != a1_4) = false := bne_eq_false_iff_eq.mpr c7
      clear c7
      by_cases c8 : a0_5 = a1_5
      ·rw [if_pos c8] at H
       have c8b0 : (a0_5 == a1_5) = true := beq_iff_eq.mpr c8
       have c8b1 : (a0_5 != a1_5) = false := bne_eq_false_iff_eq.mpr c8
       clear c8
       replace H := Option.bind_eq_some_iff.mp H
       obtain ⟨t446, A90, H⟩ := H
       replace H : (if t446 = true then (if a0_7 = a1_7 then (if (a0_8 != a1_8) = true then (some false) else (some true)) else (some false)) else (some false)) = some r := H
       have A9 := Aside0.mk A90
       clear A90
       by_cases c10 : t446 = true
       ·subst c10
        have H1 : (if a0_7 = a1_7 then (if (a0_8 != a1_8) = true then (some false) else (some true)) else (some false)) = some r := by rw [if_pos rfl] at H; exact H
        clear H
        have H := H1
        clear H1
        by_cases c11 : a0_7 = a1_7
        ·rw [if_pos c11] at H
         have c11b0 : (a0_7 == a1_7) = true := beq_iff_eq.mpr c11
         have c11b1 : (a0_7 != a1_7) = false := bne_eq_false_iff_eq.mpr c11
         clear c11
         by_cases c12 : (a0_8 != a1_8) = true
         ·rw [if_pos c12] at H
          have c12b0 : (a0_8 != a1_8) = true := c12
          (try (have c12b1 : decide (a0_8 = a1_8) = false := by simpa using c12))
          (try (have c12b2 : (a0_8 == a1_8) = false := by simpa using c12))
          (try (have c12b3 : ¬ (a0_8 = a1_8) := by simpa using c12))
          clear c12
          obtain rfl := Option.some.inj H
          go_enter Try.func36, Try.ntmps36
          go_wp2_with (first | ((with_reducible refine gate_dst (N := 2) rfl ?_); refine bx_ 2 #[.int .i64 a0_0, .int .i64 a0_1, .int .i64 a0_2, .int .i64 a0_3, .int .i64 a0_4, .int .i64 a0_5, .slice A0_6 l0_6.length c0_6, .int .i64 a0_7, .bool a0_8] 54 (h := ?_); intro gb444 hg w13 hbox hb; have BK444 := Aside0.mk (hbox); have GW444 := Aside0.mk ((by rw [hg]; exact (below_size bel) : w.heap.size ≤ gb444)); have GE444 := GW444; replace HB := Aside0.mk (below_step bel hb); clear hb hbox hg) | ((with_reducible refine gate_dst (N := 3) rfl ?_); refine bx_ 3 #[.int .i64 a1_0, .int .i64 a1_1, .int .i64 a1_2, .int .i64 a1_3, .int .i64 a1_4, .int .i64 a1_5, .slice A1_6 l1_6.length c1_6, .int .i64 a1_7, .bool a1_8] 54 (h := ?_); intro gb445 hg w14 hbox hb; have BK445 := Aside0.mk (hbox); have GW445 := Aside0.mk ((by rw [hg]; exact (below_size bel) : w.heap.size ≤ gb445)); have GE445 := GW445; have NB444_445 := Aside0.mk ((by rw [hg]; exact Nat.ne_of_lt (blt BK444) : gb444 ≠ gb445)); have NB445_444 := Aside0.mk NB444_445.out.symm; replace BK444 := Aside0.mk (blb BK444 hb); replace HB := Aside0.mk (below_step bel hb); clear hb hbox hg; have hnb15 := NB444_445.out; have hnc15 := NB445_444.out; obtain ⟨hcz16_0, hcz16_1, hcz16_2, hcz16_3, hcz16_4, hcz16_5, hcz16_6, hcz16_7, hcz16_8, -⟩ := cells_9 BK444.out trivial; obtain ⟨hfz16_0, hfz16_1, hfz16_2, hfz16_3, hfz16_4, hfz16_5, hfz16_6, hfz16_7, hfz16_8, -⟩ := frz_9 BK444.out; obtain ⟨hcz17_0, hcz17_1, hcz17_2, hcz17_3, hcz17_4, hcz17_5, hcz17_6, hcz17_7, hcz17_8, -⟩ := cells_9 BK445.out trivial; obtain ⟨hfz17_0, hfz17_1, hfz17_2, hfz17_3, hfz17_4, hfz17_5, hfz17_6, hfz17_7, hfz17_8, -⟩ := frz_9 BK445.out) | ((with_reducible refine gate_callee (f := 101) rfl ?_); refine gl_ (some 39) Try.func101 #[.slice A0_6 l0_6.length c0_6, .slice A1_6 l1_6.length c1_6] (h := ?_); (with_reducible refine (laws_eqItemS.calls k _ _ l0_6 _ _ l1_6 true _ ?side1 ?side2 ?side3 ?side4 A9.out).mono ?_); (case side1 => exact kcb); (case side2 => exact HC0_6.out); (case side3 => exact kcb); (case side4 => exact HC1_6.out); rintro e w18 ⟨rfl, hb⟩; refine ⟨_, rfl, ?_⟩; replace BK444 := Aside0.mk (blb BK444 hb); replace BK445 := Aside0.mk (blb BK445 hb); replace HB := Aside0.mk (below_step bel hb); (try clear hb); (try clear hb2); (try clear hk); (try clear hi); obtain ⟨hcz19_0, hcz19_1, hcz19_2, hcz19_3, hcz19_4, hcz19_5, hcz19_6, hcz19_7, hcz19_8, -⟩ := cells_9 BK444.out trivial; obtain ⟨hfz19_0, hfz19_1, hfz19_2, hfz19_3, hfz19_4, hfz19_5, hfz19_6, hfz19_7, hfz19_8, -⟩ := frz_9 BK444.out; obtain ⟨hcz20_0, hcz20_1, hcz20_2, hcz20_3, hcz20_4, hcz20_5, hcz20_6, hcz20_7, hcz20_8, -⟩ := cells_9 BK445.out trivial; obtain ⟨hfz20_0, hfz20_1, hfz20_2, hfz20_3, hfz20_4, hfz20_5, hfz20_6, hfz20_7, hfz20_8, -⟩ := frz_9 BK445.out))
          go_ret
          exact ⟨rz_, bel⟩
         rw [if_neg c12] at H
         have c12b0 : (a0_8 != a1_8) = false := by simpa using c12
         (try (have c12b1 : decide (a0_8 = a1_8) = true := by simpa using c12))
         (try (have c12b2 : (a0_8 == a1_8) = true := by simpa using c12))
         clear c12
         obtain rfl := Option.some.inj H
         go_enter Try.func36, Try.ntmps36
         go_wp2_with (first | ((with_reducible refine gate_dst (N := 2) rfl ?_); refine bx_ 2 #[.int .i64 a0_0, .int .i64 a0_1, .int .i64 a0_2, .int .i64 a0_3, .int .i64 a0_4, .int .i64 a0_5, .slice A0_6 l0_6.length c0_6, .int .i64 a0_7, .bool a0_8] 54 (h := ?_); intro gb444 hg w21 hbox hb; have BK444 := Aside0.mk (hbox); have GW444 := Aside0.mk ((by rw [hg]; exact (below_size bel) : w.heap.size ≤ gb444)); have GE444 := GW444; replace HB := Aside0.mk (below_step bel hb); clear hb hbox hg) | ((with_reducible refine gate_dst (N := 3) rfl ?_); refine bx_ 3 #[.int .i64 a1_0, .int .i64 a1_1, .int .i64 a1_2, .int .i64 a1_3, .int .i64 a1_4, .int .i64 a1_5, .slice A1_6 l1_6.length c1_6, .int .i64 a1_7, .bool a1_8] 54 (h := ?_); intro gb445 hg w22 hbox hb; have BK445 := Aside0.mk (hbox); have GW445 := Aside0.mk ((by rw [hg]; exact (below_size bel) : w.heap.size ≤ gb445)); have GE445 := GW445; have NB444_445 := Aside0.mk ((by rw [hg]; exact Nat.ne_of_lt (blt BK444) : gb444 ≠ gb445)); have NB445_444 := Aside0.mk NB444_445.out.symm; replace BK444 := Aside0.mk (blb BK444 hb); replace HB := Aside0.mk (below_step bel hb); clear hb hbox hg; have hnb23 := NB444_445.out; have hnc23 := NB445_444.out; obtain ⟨hcz24_0, hcz24_1, hcz24_2, hcz24_3, hcz24_4, hcz24_5, hcz24_6, hcz24_7, hcz24_8, -⟩ := cells_9 BK444.out trivial; obtain ⟨hfz24_0, hfz24_1, hfz24_2, hfz24_3, hfz24_4, hfz24_5, hfz24_6, hfz24_7, hfz24_8, -⟩ := frz_9 BK444.out; obtain ⟨hcz25_0, hcz25_1, hcz25_2, hcz25_3, hcz25_4, hcz25_5, hcz25_6, hcz25_7, hcz25_8, -⟩ := cells_9 BK445.out trivial; obtain ⟨hfz25_0, hfz25_1, hfz25_2, hfz25_3, hfz25_4, hfz25_5, hfz25_6, hfz25_7, hfz25_8, -⟩ := frz_9 BK445.out) | ((with_reducible refine gate_callee (f := 101) rfl ?_); refine gl_ (some 39) Try.func101 #[.slice A0_6 l0_6.length c0_6, .slice A1_6 l1_6.length c1_6] (h := ?_); (with_reducible refine (laws_eqItemS.calls k _ _ l0_6 _ _ l1_6 true _ ?side1 ?side2 ?side3 ?side4 A9.out).mono ?_); (case side1 => exact kcb); (case side2 => exact HC0_6.out); (case side3 => exact kcb); (case side4 => exact HC1_6.out); rintro e w26 ⟨rfl, hb⟩; refine ⟨_, rfl, ?_⟩; replace BK444 := Aside0.mk (blb BK444 hb); replace BK445 := Aside0.mk (blb BK445 hb); replace HB := Aside0.mk (below_step bel hb); (try clear hb); (try clear hb2); (try clear hk); (try clear hi); obtain ⟨hcz27_0, hcz27_1, hcz27_2, hcz27_3, hcz27_4, hcz27_5, hcz27_6, hcz27_7, hcz27_8, -⟩ := cells_9 BK444.out trivial; obtain ⟨hfz27_0, hfz27_1, hfz27_2, hfz27_3, hfz27_4, hfz27_5, hfz27_6, hfz27_7, hfz27_8, -⟩ := frz_9 BK444.out; obtain ⟨hcz28_0, hcz28_1, hcz28_2, hcz28_3, hcz28_4, hcz28_5, hcz28_6, hcz28_7, hcz28_8, -⟩ := cells_9 BK445.out trivial; obtain ⟨hfz28_0, hfz28_1, hfz28_2, hfz28_3, hfz28_4, hfz28_5, hfz28_6, hfz28_7, hfz28_8, -⟩ := frz_9 BK445.out))
         go_ret
         exact ⟨rz_, bel⟩
        rw [if_neg c11] at H
        have c11b0 : (a0_7 == a1_7) = false := beq_eq_false_iff_ne.mpr c11
        have c11b1 : (a0_7 != a1_7) = true := bne_iff_ne.mpr c11
        obtain rfl := Option.some.inj H
        go_enter Try.func36, Try.ntmps36
        go_wp2_with (first | ((with_reducible refine gate_dst (N := 2) rfl ?_); refine bx_ 2 #[.int .i64 a0_0, .int .i64 a0_1, .int .i64 a0_2, .int .i64 a0_3, .int .i64 a0_4, .int .i64 a0_5, .slice A0_6 l0_6.length c0_6, .int .i64 a0_7, .bool a0_8] 54 (h := ?_); intro gb444 hg w29 hbox hb; have BK444 := Aside0.mk (hbox); have GW444 := Aside0.mk ((by rw [hg]; exact (below_size bel) : w.heap.size ≤ gb444)); have GE444 := GW444; replace HB := Aside0.mk (below_step bel hb); clear hb hbox hg) | ((with_reducible refine gate_dst (N := 3) rfl ?_); refine bx_ 3 #[.int .i64 a1_0, .int .i64 a1_1, .int .i64 a1_2, .int .i64 a1_3, .int .i64 a1_4, .int .i64 a1_5, .slice A1_6 l1_6.length c1_6, .int .i64 a1_7, .bool a1_8] 54 (h := ?_); intro gb445 hg w30 hbox hb; have BK445 := Aside0.mk (hbox); have GW445 := Aside0.mk ((by rw [hg]; exact (below_size bel) : w.heap.size ≤ gb445)); have GE445 := GW445; have NB444_445 := Aside0.mk ((by rw [hg]; exact Nat.ne_of_lt (blt BK444) : gb444 ≠ gb445)); have NB445_444 := Aside0.mk NB444_445.out.symm; replace BK444 := Aside0.mk (blb BK444 hb); replace HB := Aside0.mk (below_step bel hb); clear hb hbox hg; have hnb31 := NB444_445.out; have hnc31 := NB445_444.out; obtain ⟨hcz32_0, hcz32_1, hcz32_2, hcz32_3, hcz32_4, hcz32_5, hcz32_6, hcz32_7, hcz32_8, -⟩ := cells_9 BK444.out trivial; obtain ⟨hfz32_0, hfz32_1, hfz32_2, hfz32_3, hfz32_4, hfz32_5, hfz32_6, hfz32_7, hfz32_8, -⟩ := frz_9 BK444.out; obtain ⟨hcz33_0, hcz33_1, hcz33_2, hcz33_3, hcz33_4, hcz33_5, hcz33_6, hcz33_7, hcz33_8, -⟩ := cells_9 BK445.out trivial; obtain ⟨hfz33_0, hfz33_1, hfz33_2, hfz33_3, hfz33_4, hfz33_5, hfz33_6, hfz33_7, hfz33_8, -⟩ := frz_9 BK445.out) | ((with_reducible refine gate_callee (f := 101) rfl ?_); refine gl_ (some 39) Try.func101 #[.slice A0_6 l0_6.length c0_6, .slice A1_6 l1_6.length c1_6] (h := ?_); (with_reducible refine (laws_eqItemS.calls k _ _ l0_6 _ _ l1_6 true _ ?side1 ?side2 ?side3 ?side4 A9.out).mono ?_); (case side1 => exact kcb); (case side2 => exact HC0_6.out); (case side3 => exact kcb); (case side4 => exact HC1_6.out); rintro e w34 ⟨rfl, hb⟩; refine ⟨_, rfl, ?_⟩; replace BK444 := Aside0.mk (blb BK444 hb); replace BK445 := Aside0.mk (blb BK445 hb); replace HB := Aside0.mk (below_step bel hb); (try clear hb); (try clear hb2); (try clear hk); (try clear hi); obtain ⟨hcz35_0, hcz35_1, hcz35_2, hcz35_3, hcz35_4, hcz35_5, hcz35_6, hcz35_7, hcz35_8, -⟩ := cells_9 BK444.out trivial; obtain ⟨hfz35_0, hfz35_1, hfz35_2, hfz35_3, hfz35_4, hfz35_5, hfz35_6, hfz35_7, hfz35_8, -⟩ := frz_9 BK444.out; obtain ⟨hcz36_0, hcz36_1, hcz36_2, hcz36_3, hcz36_4, hcz36_5, hcz36_6, hcz36_7, hcz36_8, -⟩ := cells_9 BK445.out trivial; obtain ⟨hfz36_0, hfz36_1, hfz36_2, hfz36_3, hfz36_4, hfz36_5, hfz36_6, hfz36_7, hfz36_8, -⟩ := frz_9 BK445.out))
        go_ret
        exact ⟨rz_, bel⟩
       replace c10 := Bool.eq_false_iff.mpr c10
       subst c10
       have H1 : (some false) = some r := by rw [if_neg (show ¬ (false = true) by decide)] at H; exact H
       clear H
       have H := H1
       clear H1
       obtain rfl := Option.some.inj H
       go_enter Try.func36, Try.ntmps36
       go_wp2_with (first | ((with_reducible refine gate_dst (N := 2) rfl ?_); refine bx_ 2 #[.int .i64 a0_0, .int .i64 a0_1, .int .i64 a0_2, .int .i64 a0_3, .int .i64 a0_4, .int .i64 a0_5, .slice A0_6 l0_6.length c0_6, .int .i64 a0_7, .bool a0_8] 54 (h := ?_); intro gb444 hg w37 hbox hb; have BK444 := Aside0.mk (hbox); have GW444 := Aside0.mk ((by rw [hg]; exact (below_size bel) : w.heap.size ≤ gb444)); have GE444 := GW444; replace HB := Aside0.mk (below_step bel hb); clear hb hbox hg) | ((with_reducible refine gate_dst (N := 3) rfl ?_); refine bx_ 3 #[.int .i64 a1_0, .int .i64 a1_1, .int .i64 a1_2, .int .i64 a1_3, .int .i64 a1_4, .int .i64 a1_5, .slice A1_6 l1_6.length c1_6, .int .i64 a1_7, .bool a1_8] 54 (h := ?_); intro gb445 hg w38 hbox hb; have BK445 := Aside0.mk (hbox); have GW445 := Aside0.mk ((by rw [hg]; exact (below_size bel) : w.heap.size ≤ gb445)); have GE445 := GW445; have NB444_445 := Aside0.mk ((by rw [hg]; exact Nat.ne_of_lt (blt BK444) : gb444 ≠ gb445)); have NB445_444 := Aside0.mk NB444_445.out.symm; replace BK444 := Aside0.mk (blb BK444 hb); replace HB := Aside0.mk (below_step bel hb); clear hb hbox hg; have hnb39 := NB444_445.out; have hnc39 := NB445_444.out; obtain ⟨hcz40_0, hcz40_1, hcz40_2, hcz40_3, hcz40_4, hcz40_5, hcz40_6, hcz40_7, hcz40_8, -⟩ := cells_9 BK444.out trivial; obtain ⟨hfz40_0, hfz40_1, hfz40_2, hfz40_3, hfz40_4, hfz40_5, hfz40_6, hfz40_7, hfz40_8, -⟩ := frz_9 BK444.out; obtain ⟨hcz41_0, hcz41_1, hcz41_2, hcz41_3, hcz41_4, hcz41_5, hcz41_6, hcz41_7, hcz41_8, -⟩ := cells_9 BK445.out trivial; obtain ⟨hfz41_0, hfz41_1, hfz41_2, hfz41_3, hfz41_4, hfz41_5, hfz41_6, hfz41_7, hfz41_8, -⟩ := frz_9 BK445.out) | ((with_reducible refine gate_callee (f := 101) rfl ?_); refine gl_ (some 39) Try.func101 #[.slice A0_6 l0_6.length c0_6, .slice A1_6 l1_6.length c1_6] (h := ?_); (with_reducible refine (laws_eqItemS.calls k _ _ l0_6 _ _ l1_6 false _ ?side1 ?side2 ?side3 ?side4 A9.out).mono ?_); (case side1 => exact kcb); (case side2 => exact HC0_6.out); (case side3 => exact kcb); (case side4 => exact HC1_6.out); rintro e w42 ⟨rfl, hb⟩; refine ⟨_, rfl, ?_⟩; replace BK444 := Aside0.mk (blb BK444 hb); replace BK445 := Aside0.mk (blb BK445 hb); replace HB := Aside0.mk (below_step bel hb); (try clear hb); (try clear hb2); (try clear hk); (try clear hi)))
       go_ret
       exact ⟨rz_, bel⟩
      rw [if_neg c8] at H
      have c8b0 : (a0_5 == a1_5) = false := beq_eq_false_iff_ne.mpr c8
      have c8b1 : (a0_5 != a1_5) = true := bne_iff_ne.mpr c8
      obtain rfl := Option.some.inj H
      go_enter Try.func36, Try.ntmps36
      go_wp2_with (first | ((with_reducible refine gate_dst (N := 2) rfl ?_); refine bx_ 2 #[.int .i64 a0_0, .int .i64 a0_1, .int .i64 a0_2, .int .i64 a0_3, .int .i64 a0_4, .int .i64 a0_5, .slice A0_6 l0_6.length c0_6, .int .i64 a0_7, .bool a0_8] 54 (h := ?_); intro gb444 hg w43 hbox hb; have BK444 := Aside0.mk (hbox); have GW444 := Aside0.mk ((by rw [hg]; exact (below_size bel) : w.heap.size ≤ gb444)); have GE444 := GW444; replace HB := Aside0.mk (below_step bel hb); clear hb hbox hg) | ((with_reducible refine gate_dst (N := 3) rfl ?_); refine bx_ 3 #[.int .i64 a1_0, .int .i64 a1_1, .int .i64 a1_2, .int .i64 a1_3, .int .i64 a1_4, .int .i64 a1_5, .slice A1_6 l1_6.length c1_6, .int .i64 a1_7, .bool a1_8] 54 (h := ?_); intro gb445 hg w44 hbox hb; have BK445 := Aside0.mk (hbox); have GW445 := Aside0.mk ((by rw [hg]; exact (below_size bel) : w.heap.size ≤ gb445)); have GE445 := GW445; have NB444_445 := Aside0.mk ((by rw [hg]; exact Nat.ne_of_lt (blt BK444) : gb444 ≠ gb445)); have NB445_444 := Aside0.mk NB444_445.out.symm; replace BK444 := Aside0.mk (blb BK444 hb); replace HB := Aside0.mk (below_step bel hb); clear hb hbox hg; have hnb45 := NB444_445.out; have hnc45 := NB445_444.out; obtain ⟨hcz46_0, hcz46_1, hcz46_2, hcz46_3, hcz46_4, hcz46_5, hcz46_6, hcz46_7, hcz46_8, -⟩ := cells_9 BK444.out trivial; obtain ⟨hfz46_0, hfz46_1, hfz46_2, hfz46_3, hfz46_4, hfz46_5, hfz46_6, hfz46_7, hfz46_8, -⟩ := frz_9 BK444.out; obtain ⟨hcz47_0, hcz47_1, hcz47_2, hcz47_3, hcz47_4, hcz47_5, hcz47_6, hcz47_7, hcz47_8, -⟩ := cells_9 BK445.out trivial; obtain ⟨hfz47_0, hfz47_1, hfz47_2, hfz47_3, hfz47_4, hfz47_5, hfz47_6, hfz47_7, hfz47_8, -⟩ := frz_9 BK445.out))
      go_ret
      exact ⟨rz_, bel⟩
     rw [if_neg c7] at H
     have c7b0 : (a0_4 == a1_4) = false := beq_eq_false_iff_ne.mpr c7
     have c7b1 : (a0_4 != a1_4) = true := bne_iff_ne.mpr c7
     obtain rfl := Option.some.inj H
     go_enter Try.func36, Try.ntmps36
     go_wp2_with (first | ((with_reducible refine gate_dst (N := 2) rfl ?_); refine bx_ 2 #[.int .i64 a0_0, .int .i64 a0_1, .int .i64 a0_2, .int .i64 a0_3, .int .i64 a0_4, .int .i64 a0_5, .slice A0_6 l0_6.length c0_6, .int .i64 a0_7, .bool a0_8] 54 (h := ?_); intro gb444 hg w48 hbox hb; have BK444 := Aside0.mk (hbox); have GW444 := Aside0.mk ((by rw [hg]; exact (below_size bel) : w.heap.size ≤ gb444)); have GE444 := GW444; replace HB := Aside0.mk (below_step bel hb); clear hb hbox hg) | ((with_reducible refine gate_dst (N := 3) rfl ?_); refine bx_ 3 #[.int .i64 a1_0, .int .i64 a1_1, .int .i64 a1_2, .int .i64 a1_3, .int .i64 a1_4, .int .i64 a1_5, .slice A1_6 l1_6.length c1_6, .int .i64 a1_7, .bool a1_8] 54 (h := ?_); intro gb445 hg w49 hbox hb; have BK445 := Aside0.mk (hbox); have GW445 := Aside0.mk ((by rw [hg]; exact (below_size bel) : w.heap.size ≤ gb445)); have GE445 := GW445; have NB444_445 := Aside0.mk ((by rw [hg]; exact Nat.ne_of_lt (blt BK444) : gb444 ≠ gb445)); have NB445_444 := Aside0.mk NB444_445.out.symm; replace BK444 := Aside0.mk (blb BK444 hb); replace HB := Aside0.mk (below_step bel hb); clear hb hbox hg; have hnb50 := NB444_445.out; have hnc50 := NB445_444.out; obtain ⟨hcz51_0, hcz51_1, hcz51_2, hcz51_3, hcz51_4, hcz51_5, hcz51_6, hcz51_7, hcz51_8, -⟩ := cells_9 BK444.out trivial; obtain ⟨hfz51_0, hfz51_1, hfz51_2, hfz51_3, hfz51_4, hfz51_5, hfz51_6, hfz51_7, hfz51_8, -⟩ := frz_9 BK444.out; obtain ⟨hcz52_0, hcz52_1, hcz52_2, hcz52_3, hcz52_4, hcz52_5, hcz52_6, hcz52_7, hcz52_8, -⟩ := cells_9 BK445.out trivial; obtain ⟨hfz52_0, hfz52_1, hfz52_2, hfz52_3, hfz52_4, hfz52_5, hfz52_6, hfz52_7, hfz52_8, -⟩ := frz_9 BK445.out))
     go_ret
     exact ⟨rz_, bel⟩
    rw [if_neg c6] at H
    have c6b0 : (a0_3 == a1_3) = false := beq_eq_false_iff_ne.mpr c6
    have c6b1 : (a0_3 != a1_3) = true := bne_iff_ne.mpr c6
    obtain rfl := Option.some.inj H
    go_enter Try.func36, Try.ntmps36
    go_wp2_with (first | ((with_reducible refine gate_dst (N := 2) rfl ?_); refine bx_ 2 #[.int .i64 a0_0, .int .i64 a0_1, .int .i64 a0_2, .int .i64 a0_3, .int .i64 a0_4, .int .i64 a0_5, .slice A0_6 l0_6.length c0_6, .int .i64 a0_7, .bool a0_8] 54 (h := ?_); intro gb444 hg w53 hbox hb; have BK444 := Aside0.mk (hbox); have GW444 := Aside0.mk ((by rw [hg]; exact (below_size bel) : w.heap.size ≤ gb444)); have GE444 := GW444; replace HB := Aside0.mk (below_step bel hb); clear hb hbox hg) | ((with_reducible refine gate_dst (N := 3) rfl ?_); refine bx_ 3 #[.int .i64 a1_0, .int .i64 a1_1, .int .i64 a1_2, .int .i64 a1_3, .int .i64 a1_4, .int .i64 a1_5, .slice A1_6 l1_6.length c1_6, .int .i64 a1_7, .bool a1_8] 54 (h := ?_); intro gb445 hg w54 hbox hb; have BK445 := Aside0.mk (hbox); have GW445 := Aside0.mk ((by rw [hg]; exact (below_size bel) : w.heap.size ≤ gb445)); have GE445 := GW445; have NB444_445 := Aside0.mk ((by rw [hg]; exact Nat.ne_of_lt (blt BK444) : gb444 ≠ gb445)); have NB445_444 := Aside0.mk NB444_445.out.symm; replace BK444 := Aside0.mk (blb BK444 hb); replace HB := Aside0.mk (below_step bel hb); clear hb hbox hg; have hnb55 := NB444_445.out; have hnc55 := NB445_444.out; obtain ⟨hcz56_0, hcz56_1, hcz56_2, hcz56_3, hcz56_4, hcz56_5, hcz56_6, hcz56_7, hcz56_8, -⟩ := cells_9 BK444.out trivial; obtain ⟨hfz56_0, hfz56_1, hfz56_2, hfz56_3, hfz56_4, hfz56_5, hfz56_6, hfz56_7, hfz56_8, -⟩ := frz_9 BK444.out; obtain ⟨hcz57_0, hcz57_1, hcz57_2, hcz57_3, hcz57_4, hcz57_5, hcz57_6, hcz57_7, hcz57_8, -⟩ := cells_9 BK445.out trivial; obtain ⟨hfz57_0, hfz57_1, hfz57_2, hfz57_3, hfz57_4, hfz57_5, hfz57_6, hfz57_7, hfz57_8, -⟩ := frz_9 BK445.out))
    go_ret
    exact ⟨rz_, bel⟩
   rw [if_neg c5] at H
   have c5b0 : (a0_2 == a1_2) = false := beq_eq_false_iff_ne.mpr c5
   have c5b1 : (a0_2 != a1_2) = true := bne_iff_ne.mpr c5
   obtain rfl := Option.some.inj H
   go_enter Try.func36, Try.ntmps36
   go_wp2_with (first | ((with_reducible refine gate_dst (N := 2) rfl ?_); refine bx_ 2 #[.int .i64 a0_0, .int .i64 a0_1, .int .i64 a0_2, .int .i64 a0_3, .int .i64 a0_4, .int .i64 a0_5, .slice A0_6 l0_6.length c0_6, .int .i64 a0_7, .bool a0_8] 54 (h := ?_); intro gb444 hg w58 hbox hb; have BK444 := Aside0.mk (hbox); have GW444 := Aside0.mk ((by rw [hg]; exact (below_size bel) : w.heap.size ≤ gb444)); have GE444 := GW444; replace HB := Aside0.mk (below_step bel hb); clear hb hbox hg) | ((with_reducible refine gate_dst (N := 3) rfl ?_); refine bx_ 3 #[.int .i64 a1_0, .int .i64 a1_1, .int .i64 a1_2, .int .i64 a1_3, .int .i64 a1_4, .int .i64 a1_5, .slice A1_6 l1_6.length c1_6, .int .i64 a1_7, .bool a1_8] 54 (h := ?_); intro gb445 hg w59 hbox hb; have BK445 := Aside0.mk (hbox); have GW445 := Aside0.mk ((by rw [hg]; exact (below_size bel) : w.heap.size ≤ gb445)); have GE445 := GW445; have NB444_445 := Aside0.mk ((by rw [hg]; exact Nat.ne_of_lt (blt BK444) : gb444 ≠ gb445)); have NB445_444 := Aside0.mk NB444_445.out.symm; replace BK444 := Aside0.mk (blb BK444 hb); replace HB := Aside0.mk (below_step bel hb); clear hb hbox hg; have hnb60 := NB444_445.out; have hnc60 := NB445_444.out; obtain ⟨hcz61_0, hcz61_1, hcz61_2, hcz61_3, hcz61_4, hcz61_5, hcz61_6, hcz61_7, hcz61_8, -⟩ := cells_9 BK444.out trivial; obtain ⟨hfz61_0, hfz61_1, hfz61_2, hfz61_3, hfz61_4, hfz61_5, hfz61_6, hfz61_7, hfz61_8, -⟩ := frz_9 BK444.out; obtain ⟨hcz62_0, hcz62_1, hcz62_2, hcz62_3, hcz62_4, hcz62_5, hcz62_6, hcz62_7, hcz62_8, -⟩ := cells_9 BK445.out trivial; obtain ⟨hfz62_0, hfz62_1, hfz62_2, hfz62_3, hfz62_4, hfz62_5, hfz62_6, hfz62_7, hfz62_8, -⟩ := frz_9 BK445.out))
   go_ret
   exact ⟨rz_, bel⟩
  rw [if_neg c4] at H
  have c4b0 : (a0_1 == a1_1) = false := beq_eq_false_iff_ne.mpr c4
  have c4b1 : (a0_1 != a1_1) = true := bne_iff_ne.mpr c4
  obtain rfl := Option.some.inj H
  go_enter Try.func36, Try.ntmps36
  go_wp2_with (first | ((with_reducible refine gate_dst (N := 2) rfl ?_); refine bx_ 2 #[.int .i64 a0_0, .int .i64 a0_1, .int .i64 a0_2, .int .i64 a0_3, .int .i64 a0_4, .int .i64 a0_5, .slice A0_6 l0_6.length c0_6, .int .i64 a0_7, .bool a0_8] 54 (h := ?_); intro gb444 hg w63 hbox hb; have BK444 := Aside0.mk (hbox); have GW444 := Aside0.mk ((by rw [hg]; exact (below_size bel) : w.heap.size ≤ gb444)); have GE444 := GW444; replace HB := Aside0.mk (below_step bel hb); clear hb hbox hg) | ((with_reducible refine gate_dst (N := 3) rfl ?_); refine bx_ 3 #[.int .i64 a1_0, .int .i64 a1_1, .int .i64 a1_2, .int .i64 a1_3, .int .i64 a1_4, .int .i64 a1_5, .slice A1_6 l1_6.length c1_6, .int .i64 a1_7, .bool a1_8] 54 (h := ?_); intro gb445 hg w64 hbox hb; have BK445 := Aside0.mk (hbox); have GW445 := Aside0.mk ((by rw [hg]; exact (below_size bel) : w.heap.size ≤ gb445)); have GE445 := GW445; have NB444_445 := Aside0.mk ((by rw [hg]; exact Nat.ne_of_lt (blt BK444) : gb444 ≠ gb445)); have NB445_444 := Aside0.mk NB444_445.out.symm; replace BK444 := Aside0.mk (blb BK444 hb); replace HB := Aside0.mk (below_step bel hb); clear hb hbox hg; have hnb65 := NB444_445.out; have hnc65 := NB445_444.out; obtain ⟨hcz66_0, hcz66_1, hcz66_2, hcz66_3, hcz66_4, hcz66_5, hcz66_6, hcz66_7, hcz66_8, -⟩ := cells_9 BK444.out trivial; obtain ⟨hfz66_0, hfz66_1, hfz66_2, hfz66_3, hfz66_4, hfz66_5, hfz66_6, hfz66_7, hfz66_8, -⟩ := frz_9 BK444.out; obtain ⟨hcz67_0, hcz67_1, hcz67_2, hcz67_3, hcz67_4, hcz67_5, hcz67_6, hcz67_7, hcz67_8, -⟩ := cells_9 BK445.out trivial; obtain ⟨hfz67_0, hfz67_1, hfz67_2, hfz67_3, hfz67_4, hfz67_5, hfz67_6, hfz67_7, hfz67_8, -⟩ := frz_9 BK445.out))
  go_ret
  exact ⟨rz_, bel⟩
 rw [if_neg c3] at H
 have c3b0 : (a0_0 == a1_0) = false := beq_eq_false_iff_ne.mpr c3
 have c3b1 : (a0_0 != a1_0) = true := bne_iff_ne.mpr c3
 obtain rfl := Option.some.inj H
 go_enter Try.func36, Try.ntmps36
 go_wp2_with (first | ((with_reducible refine gate_dst (N := 2) rfl ?_); refine bx_ 2 #[.int .i64 a0_0, .int .i64 a0_1, .int .i64 a0_2, .int .i64 a0_3, .int .i64 a0_4, .int .i64 a0_5, .slice A0_6 l0_6.length c0_6, .int .i64 a0_7, .bool a0_8] 54 (h := ?_); intro gb444 hg w68 hbox hb; have BK444 := Aside0.mk (hbox); have GW444 := Aside0.mk ((by rw [hg]; exact (below_size bel) : w.heap.size ≤ gb444)); have GE444 := GW444; replace HB := Aside0.mk (below_step bel hb); clear hb hbox hg) | ((with_reducible refine gate_dst (N := 3) rfl ?_); refine bx_ 3 #[.int .i64 a1_0, .int .i64 a1_1, .int .i64 a1_2, .int .i64 a1_3, .int .i64 a1_4, .int .i64 a1_5, .slice A1_6 l1_6.length c1_6, .int .i64 a1_7, .bool a1_8] 54 (h := ?_); intro gb445 hg w69 hbox hb; have BK445 := Aside0.mk (hbox); have GW445 := Aside0.mk ((by rw [hg]; exact (below_size bel) : w.heap.size ≤ gb445)); have GE445 := GW445; have NB444_445 := Aside0.mk ((by rw [hg]; exact Nat.ne_of_lt (blt BK444) : gb444 ≠ gb445)); have NB445_444 := Aside0.mk NB444_445.out.symm; replace BK444 := Aside0.mk (blb BK444 hb); replace HB := Aside0.mk (below_step bel hb); clear hb hbox hg; have hnb70 := NB444_445.out; have hnc70 := NB445_444.out; obtain ⟨hcz71_0, hcz71_1, hcz71_2, hcz71_3, hcz71_4, hcz71_5, hcz71_6, hcz71_7, hcz71_8, -⟩ := cells_9 BK444.out trivial; obtain ⟨hfz71_0, hfz71_1, hfz71_2, hfz71_3, hfz71_4, hfz71_5, hfz71_6, hfz71_7, hfz71_8, -⟩ := frz_9 BK444.out; obtain ⟨hcz72_0, hcz72_1, hcz72_2, hcz72_3, hcz72_4, hcz72_5, hcz72_6, hcz72_7, hcz72_8, -⟩ := cells_9 BK445.out trivial; obtain ⟨hfz72_0, hfz72_1, hfz72_2, hfz72_3, hfz72_4, hfz72_5, hfz72_6, hfz72_7, hfz72_8, -⟩ := frz_9 BK445.out))
 go_ret
 exact ⟨rz_, bel⟩

/-! ### laws_markMsg: function 37 -/
set_option maxHeartbeats 8000000 in
set_option maxRecDepth 100000 in
theorem laws_markMsg.S_flat (P : Nat → Prop) (base : Nat) (v : Value) (l : List Int) (a : Int) (w : World) (hr : Kd.R (Kd.int .u8) 5 w base P v l) (h0 : 0 ≤ a) (h1 : a + l.length ≤ 1000000000) :
  Calls Try.prog 38 #[v, .int .i64 a] w fun e w' => e = .returned (.int .i64 (a + l.length)) ∧ Mk w w' P := by
 obtain ⟨A, c, rfl⟩ := Kd.R_slice hr
 have HR := Aside0.mk hr
 clear hr
 go_enter Try.func38, Try.ntmps38
 go_wp2
 go_loopg [1, 5] l.length (fun gg v1 v5 wr => ∃ x : Int, v1 = .int .i64 (a + x) ∧ v5 = .int .i64 x ∧ 0 ≤ x ∧ x ≤ (l.length : Int) ∧ l.length - x.toNat ≤ gg ∧ Aside0 (Mk w wr P))
 case atStart => exact ⟨0, by rw [Int.add_zero], rfl, by omega, by omega, by omega, ⟨Mk.refl w P⟩⟩
 case round =>
  obtain ⟨x, rfl, rfl, hx0, hx1, hg, M⟩ := hrel
  by_cases hlt : x < (l.length : Int)
  ·obtain ⟨l', hl', hr'⟩ := Mk.R_int M.out (fun _ h => h) HR.out
   have hlt' : x < (l'.length : Int) := by omega
   have c1 : decide (x < (l.length : Int)) = true := decide_eq_true hlt
   have HL := Aside0.mk hlt
   have HLL := Aside0.mk hl'
   have HG := Aside0.mk hg
   clear hlt hg
   obtain ⟨g, cap, e, hb, hgl, cells, hcell⟩ := Kd.R_form hr' (by omega)
   injection e with ea en ec
   subst ea
   obtain ⟨hx, hf⟩ := Kd.R_celln 0 hr' x hx0 (by omega)
   have HP := Aside0.mk (hr'.1 g rfl)
   have HR' := Aside0.mk hr'
   clear hr' hcell hgl hb en ec hl' hlt' hx1
   have p5 : (0 ≤ x) = True := eq_true hx0
   have q5 : (x < (l.length : Int)) = True := eq_true HL.out
   go_wp2_with (first | ((with_reducible refine gate_store (t := 5) (p := 16) rfl ?_); refine store_event (t := 5) (p := 16) (v := ?vo_w8) (w1 := (wr.setCell ⟨g, x.toNat, none⟩ (.int .u8 ((a + x) % 256)))) ?hg ?ho ?hn ?hr ?_; (case ho => rfl); (case hg => rfl); (case hn => rfl); (case hr => first | (go_simp; done) | (go_simp; rfl)); intro w8 hw; have M8 := Aside0.mk (show Mk w w8 P by rw [hw]; exact Mk.set M.out HP.out hx (.inr (.inl ⟨_, _, _, rfl, rfl⟩))); clear hw))
   go_roundg (l.length - (x.toNat + 1))
   case measure => have := HG.out; have := HL.out; omega
   case rel =>
    have hw1 : wrap64 (a + x + 1) = a + (x + 1) := by rw [w64m (by have := HL.out; omega) (by have := HL.out; omega)]; omega
    have hw2 : wrap64 (x + 1) = x + 1 := w64m (by have := HL.out; omega) (by have := HL.out; omega)
    exact ⟨x + 1, by first | rw [hw1] | simp [hw1], by first | rw [hw2] | simp [hw2], by omega, by have := HL.out; omega, by have := HL.out; omega, ⟨M8.out⟩⟩
  have c1 : decide (x < (l.length : Int)) = false := decide_eq_false hlt
  have hx : x = (l.length : Int) := by omega
  clear hlt hg
  subst hx
  go_wp2
  go_ret
  exact ⟨rfl, M.out⟩
def laws_markMsg.SItem_wt (x : S147) : Nat := x.f1.f2.f1.length + x.f1.f2.f2.length + 5
def laws_markMsg.SItem_Eqv (x y : S147) : Prop := x.f1.f2.f1.length = y.f1.f2.f1.length ∧ x.f1.f2.f2.length = y.f1.f2.f2.length
theorem laws_markMsg.SItem_shape (x : S147) (w W : World) (P ok : Nat → Prop) (base : Nat) (cs cs' : List Value) (M : Mk w W P) (hok : ∀ b, ok b → P b) (hm : k147.M w base ok x cs) (hsm : Sm cs cs') : ∃ x', laws_markMsg.SItem_Eqv x x' ∧ k147.M W base ok x' cs' := by
 obtain ⟨hl, he⟩ := hsm
 obtain ⟨v4, v5, rfl, h4, h5⟩ := k147_openM hm
 obtain ⟨A4, c4, rfl⟩ := Kd.R_slice h4
 obtain ⟨A5, c5, rfl⟩ := Kd.R_slice h5
 obtain ⟨u0, hu0, q0⟩ := he 0 _ rfl
 obtain ⟨u1, hu1, q1⟩ := he 1 _ rfl
 obtain ⟨u2, hu2, q2⟩ := he 2 _ rfl
 obtain ⟨u3, hu3, q3⟩ := he 3 _ rfl
 obtain ⟨u4, hu4, q4⟩ := he 4 _ rfl
 obtain ⟨u5, hu5, q5⟩ := he 5 _ rfl
 obtain ⟨u6, hu6, q6⟩ := he 6 _ rfl
 obtain ⟨i0, rfl⟩ := q0.int
 obtain ⟨i1, rfl⟩ := q1.int
 obtain ⟨i2, rfl⟩ := q2.int
 obtain ⟨i3, rfl⟩ := q3.int
 obtain rfl := q4.slice
 obtain rfl := q5.slice
 obtain ⟨i6, rfl⟩ := q6.int
 have hcs : cs' = [.int .i64 i0, .int .i64 i1, .int .i64 i2, .int .i64 i3, .slice A4 x.f1.f2.f1.length c4, .slice A5 x.f1.f2.f2.length c5, .int .i64 i6] := by
  match cs', hl, hu0, hu1, hu2, hu3, hu4, hu5, hu6 with
  | [y0, y1, y2, y3, y4, y5, y6], _, a0, a1, a2, a3, a4, a5, a6 => simp at a0 a1 a2 a3 a4 a5 a6; rw [a0, a1, a2, a3, a4, a5, a6]
 subst hcs
 obtain ⟨f4, l4, g4⟩ := Mk.R_int M hok h4
 obtain ⟨f5, l5, g5⟩ := Mk.R_int M hok h5
 have e := k147_mkM W base ok (⟨i0, ⟨i1, i2, ⟨i3, f4, f5, i6⟩⟩⟩ : S147) (v4 := .slice A4 x.f1.f2.f1.length c4) g4 (v5 := .slice A5 x.f1.f2.f2.length c5) g5
 exact ⟨⟨i0, ⟨i1, i2, ⟨i3, f4, f5, i6⟩⟩⟩, ⟨l4.symm, l5.symm⟩, e⟩
set_option maxHeartbeats 16000000 in
set_option maxRecDepth 100000 in
theorem laws_markMsg.SItem_deep (P : Nat → Prop) (base : Nat) (v : Value) (l : List S147) (a : Int) (w : World) (hr : Kd.R k147 147 w base P v l) (h0 : 0 ≤ a) (h1 : a + ((l.map laws_markMsg.SItem_wt).sum : Nat) ≤ 1000000000) :
  Calls Try.prog 121 #[v, .int .i64 a] w fun e w' => e = .returned (.int .i64 (a + ((l.map laws_markMsg.SItem_wt).sum : Nat))) ∧ Mk w w' P := by
 obtain ⟨A, c, rfl⟩ := Kd.R_slice hr
 have HR := Aside0.mk hr
 have H0 := Aside0.mk h0
 have H1 := Aside0.mk h1
 clear hr h0 h1
 have hu := Try.underlying147
 have huz0 := Try.underlying145
 have huz1 := Try.underlying143
 go_enter Try.func121, Try.ntmps121
 go_wp2
 go_loopg [1, 5] l.length (fun gg v1 v5 wr => ∃ x N1 : Int, v1 = .int .i64 N1 ∧ v5 = .int .i64 x ∧ 0 ≤ x ∧ x ≤ (l.length : Int) ∧ l.length - x.toNat ≤ gg ∧ Aside0 (N1 = a + (((l.take x.toNat).map laws_markMsg.SItem_wt).sum : Nat)) ∧ Aside0 (Mk w wr P))
 case atStart => exact ⟨0, a, rfl, rfl, by omega, by omega, by omega, ⟨by simp⟩, ⟨Mk.refl w P⟩⟩
 case round =>
  obtain ⟨x, N1, rfl, rfl, hx0, hx1, hg, HA, M⟩ := hrel
  by_cases hlt : x < (l.length : Int)
  ·have hn : x.toNat < l.length := by omega
   obtain ⟨l', hl', hs', hr'⟩ := Mk.R (s := laws_markMsg.SItem_Eqv) M.out (fun _ h => h) HR.out (fun y hy ok' hok' d d' hm' hsm' => laws_markMsg.SItem_shape y w wr P ok' base d d' M.out hok' hm' hsm')
   have hn' : x.toNat < l'.length := by omega
   have hE := hs' x.toNat _ _ (List.getElem?_eq_getElem hn) (List.getElem?_eq_getElem hn')
   have c1 : decide (x < (l.length : Int)) = true := decide_eq_true hlt
   obtain ⟨g, cap, e, hb, hgl, cells, hcell⟩ := Kd.R_form hr' (by omega)
   injection e with ea en ec
   subst ea
   obtain ⟨ce, hcl, hM, hcc, hfr⟩ := Kd.R_elem hr' z147 x hx0 (by omega)
   rw [List.getD_eq_getElem?_getD, List.getElem?_eq_getElem hn', Option.getD_some] at hM
   generalize l'[x.toNat] = y at hE hM
   obtain ⟨v4, v5, rfl, hr4, hr5⟩ := k147_openM hM
   obtain ⟨A4, c4, rfl⟩ := Kd.R_slice hr4
   obtain ⟨A5, c5, rfl⟩ := Kd.R_slice hr5
   have hx_0 : wr.cell? ⟨g, x.toNat * 7, none⟩ = some (.int .i64 y.f0) := hcc 0 _ rfl
   have hx_1 : wr.cell? ⟨g, x.toNat * 7 + 1, none⟩ = some (.int .i64 y.f1.f0) := hcc 1 _ rfl
   have hx_2 : wr.cell? ⟨g, x.toNat * 7 + 1 + 1, none⟩ = some (.int .i64 y.f1.f1) := hcc 2 _ rfl
   have hx_3 : wr.cell? ⟨g, x.toNat * 7 + 3, none⟩ = some (.int .i64 y.f1.f2.f0) := hcc 3 _ rfl
   have hx_4 : wr.cell? ⟨g, x.toNat * 7 + 4, none⟩ = some (.slice A4 y.f1.f2.f1.length c4) := hcc 4 _ rfl
   have hx_5 : wr.cell? ⟨g, x.toNat * 7 + 5, none⟩ = some (.slice A5 y.f1.f2.f2.length c5) := hcc 5 _ rfl
   have hx_6 : wr.cell? ⟨g, x.toNat * 7 + 6, none⟩ = some (.int .i64 y.f1.f2.f3) := hcc 6 _ rfl
   have hf_0 : wr.frozen? ⟨g, x.toNat * 7, none⟩ = false := hfr 0
   have hf_1 : wr.frozen? ⟨g, x.toNat * 7 + 1, none⟩ = false := hfr 1
   have hf_2 : wr.frozen? ⟨g, x.toNat * 7 + 1 + 1, none⟩ = false := hfr 2
   have hf_3 : wr.frozen? ⟨g, x.toNat * 7 + 3, none⟩ = false := hfr 3
   have hf_6 : wr.frozen? ⟨g, x.toNat * 7 + 6, none⟩ = false := hfr 6
   have HP := Aside0.mk (hr'.1 g rfl)
   have h4 := Aside0.mk (mk_sum_take laws_markMsg.SItem_wt l (x.toNat + 1))
   have h5 := Aside0.mk (mk_sum_step laws_markMsg.SItem_wt l x.toNat hn)
   have h6 : laws_markMsg.SItem_wt l[x.toNat] = y.f1.f2.f1.length + y.f1.f2.f2.length + 5 := by
    unfold laws_markMsg.SItem_wt
    unfold laws_markMsg.SItem_Eqv at hE
    rw [hE.1, hE.2]
   have hsum : N1 + (y.f1.f2.f1.length + y.f1.f2.f2.length + 5 : Nat) = a + (((l.take (x.toNat + 1)).map laws_markMsg.SItem_wt).sum : Nat) := by rw [HA.out, h5.out, h6]; omega
   have hle : N1 + (y.f1.f2.f1.length + y.f1.f2.f2.length + 5 : Nat) ≤ 1000000000 := by rw [hsum]; have := h4.out; have := H1.out; omega
   have hA0 : 0 ≤ N1 := by rw [HA.out]; have := H0.out; omega
   have hw0 : wrap64 (N1 + 1) = N1 + 1 := w64m (by clear hsum; omega) (by clear hsum; omega)
   have hw1 : wrap64 (N1 + 1 + 1) = N1 + 1 + 1 := w64m (by clear hsum hw0; omega) (by clear hsum hw0; omega)
   have hw2 : wrap64 (N1 + 1 + 1 + 1) = N1 + 1 + 1 + 1 := w64m (by clear hsum hw0 hw1; omega) (by clear hsum hw0 hw1; omega)
   have hw3 : wrap64 (N1 + 1 + 1 + 1 + 1) = N1 + 1 + 1 + 1 + 1 := w64m (by clear hsum hw0 hw1 hw2; omega) (by clear hsum hw0 hw1 hw2; omega)
   have hw6 : wrap64 (N1 + 1 + 1 + 1 + 1 + (y.f1.f2.f1.length : Int) + (y.f1.f2.f2.length : Int) + 1) = N1 + 1 + 1 + 1 + 1 + (y.f1.f2.f1.length : Int) + (y.f1.f2.f2.length : Int) + 1 := w64m (by clear hsum hw0 hw1 hw2 hw3; omega) (by clear hsum hw0 hw1 hw2 hw3; omega)
   have hwx : wrap64 (x + 1) = x + 1 := w64m (by clear hsum hle hw0 hw1 hw2 hw3 hw6; omega) (by have := (Kd.R_reads' HR.out).2.2.2.1; clear hsum hle hw0 hw1 hw2 hw3 hw6; omega)
   have HL := Aside0.mk hlt
   have HG := Aside0.mk hg
   have HR4 := Aside0.mk hr4
   have HR5 := Aside0.mk hr5
   have HLE := Aside0.mk hle
   have HA0 := Aside0.mk hA0
   have HSUM := Aside0.mk hsum
   have SETS0 := Aside0.mk (show ∀ w8, Mk wr w8 P → ∀ (b0 : Int) (b1 : Int) (b2 : Int) (b3 : Int), Mk wr ((((w8.setCell ⟨g, x.toNat * 7, none⟩ (.int .i64 b0)).setCell ⟨g, x.toNat * 7 + 1, none⟩ (.int .i64 b1)).setCell ⟨g, x.toNat * 7 + 1 + 1, none⟩ (.int .i64 b2)).setCell ⟨g, x.toNat * 7 + 3, none⟩ (.int .i64 b3)) P from by
    intro w8 m8 b0 b1 b2 b3
    obtain ⟨u0, hy_0, s0⟩ := m8.cell hx_0
    obtain ⟨d0, rfl⟩ := s0.int
    have n0 := Mk.set m8 HP.out hy_0 (u' := .int .i64 b0) (.inr (.inl ⟨_, _, _, rfl, rfl⟩))
    obtain ⟨u1, hy_1, s1⟩ := n0.cell hx_1
    obtain ⟨d1, rfl⟩ := s1.int
    have n1 := Mk.set n0 HP.out hy_1 (u' := .int .i64 b1) (.inr (.inl ⟨_, _, _, rfl, rfl⟩))
    obtain ⟨u2, hy_2, s2⟩ := n1.cell hx_2
    obtain ⟨d2, rfl⟩ := s2.int
    have n2 := Mk.set n1 HP.out hy_2 (u' := .int .i64 b2) (.inr (.inl ⟨_, _, _, rfl, rfl⟩))
    obtain ⟨u3, hy_3, s3⟩ := n2.cell hx_3
    obtain ⟨d3, rfl⟩ := s3.int
    have n3 := Mk.set n2 HP.out hy_3 (u' := .int .i64 b3) (.inr (.inl ⟨_, _, _, rfl, rfl⟩))
    exact n3)
   have SETS1 := Aside0.mk (show ∀ w8, Mk wr w8 P → ∀ (b6 : Int), Mk wr (w8.setCell ⟨g, x.toNat * 7 + 6, none⟩ (.int .i64 b6)) P from by
    intro w8 m8 b6
    obtain ⟨u6, hy_6, s6⟩ := m8.cell hx_6
    obtain ⟨d6, rfl⟩ := s6.int
    have n0 := Mk.set m8 HP.out hy_6 (u' := .int .i64 b6) (.inr (.inl ⟨_, _, _, rfl, rfl⟩))
    exact n0)
   clear hr' hcell hgl hb en ec hl' hn' hx1 hE hlt hg hr4 hr5 hle hA0 hsum h6 hs' hM hcc hfr hcl h4 h5 hn
   have p5 : (0 ≤ x) = True := eq_true hx0
   have q5 : (x < (l.length : Int)) = True := eq_true HL.out
   go_wp2_with (first | (go_at_call 38; obtain ⟨r4, lr4, gr4⟩ := Mk.R_int (SETS0.out wr (Mk.refl wr P) (N1) (N1 + 1) (N1 + 1 + 1) (N1 + 1 + 1 + 1)) (fun _ (h : P _ ∧ _) => h.1) HR4.out; (try simp only [hw0, hw1, hw2, hw3, hw6]); with_reducible refine (laws_markMsg.S_flat P base (.slice A4 y.f1.f2.f1.length c4) r4 (N1 + 1 + 1 + 1 + 1) _ (Kd.R_mono gr4 (fun _ h => h.1)) (by have := HA0.out; omega) (by have := HLE.out; have := lr4; omega)).mono ?_; rw [lr4]; rintro e w84 ⟨rfl, m8⟩; have M84 := Aside0.mk (Mk.trans (SETS0.out wr (Mk.refl wr P) (N1) (N1 + 1) (N1 + 1 + 1) (N1 + 1 + 1 + 1)) m8); clear m8; obtain ⟨u5_4, hy5_4, s5⟩ := M84.out.cell hx_5; obtain rfl := s5.slice; obtain ⟨u6_4, hy6_4, s6⟩ := M84.out.cell hx_6; obtain ⟨i6_4, rfl⟩ := s6.int; have hz4_6 := M84.out.frz hx_6 hf_6) | (go_at_call 38; obtain ⟨r5, lr5, gr5⟩ := Mk.R_int M84.out (fun _ (h : P _ ∧ _) => h.1) HR5.out; (try simp only [hw0, hw1, hw2, hw3, hw6]); with_reducible refine (laws_markMsg.S_flat P base (.slice A5 y.f1.f2.f2.length c5) r5 (N1 + 1 + 1 + 1 + 1 + (y.f1.f2.f1.length : Int)) _ (Kd.R_mono gr5 (fun _ h => h.1)) (by have := HA0.out; omega) (by have := HLE.out; have := lr5; omega)).mono ?_; rw [lr5]; rintro e w85 ⟨rfl, m8⟩; have M85 := Aside0.mk (Mk.trans M84.out m8); clear m8; obtain ⟨u6_5, hy6_5, s6⟩ := M85.out.cell hx_6; obtain ⟨i6_5, rfl⟩ := s6.int; have hz5_6 := M85.out.frz hx_6 hf_6))
   go_roundg (l.length - (x.toNat + 1))
   case measure => have := HG.out; have := HL.out; omega
   case rel => exact ⟨x + 1, _, rfl, by first | rw [hwx] | simp [hwx], by omega, by have := HL.out; omega, by have := HL.out; omega, ⟨by have := HSUM.out; rw [show (x + 1).toNat = x.toNat + 1 by omega]; (try simp only [hw0, hw1, hw2, hw3, hw6]); omega⟩, ⟨M.out.trans (SETS1.out _ M85.out _)⟩⟩
  have c1 : decide (x < (l.length : Int)) = false := decide_eq_false hlt
  have hA : N1 = a + ((l.map laws_markMsg.SItem_wt).sum : Nat) := by rw [HA.out, List.take_of_length_le (by omega)]
  clear hlt hg
  subst hA
  go_wp2
  go_ret
  exact ⟨rfl, M.out⟩
theorem laws_markMsg.SItem_call (P : Nat → Prop) (base : Nat) (v : Value) (l : List S147) (a : Int) (w1 w : World) (m : Mk w1 w P) (hr : Kd.R k147 147 w1 base P v l) (h0 : 0 ≤ a) (h1 : a + ((l.map laws_markMsg.SItem_wt).sum : Nat) ≤ 1000000000) :
  Calls Try.prog 121 #[v, .int .i64 a] w fun e w' => e = .returned (.int .i64 (a + ((l.map laws_markMsg.SItem_wt).sum : Nat))) ∧ Mk w1 w' P := by
 obtain ⟨l', hl, hs, hr'⟩ := Mk.R (s := laws_markMsg.SItem_Eqv) m (fun _ h => h) hr (fun z hz ok' hok' d d' hm' hsm' => laws_markMsg.SItem_shape z w1 w P ok' base d d' m hok' hm' hsm')
 have e1 : l.map laws_markMsg.SItem_wt = l'.map laws_markMsg.SItem_wt := mk_map_eq laws_markMsg.SItem_wt hl (fun j z z' h h' => by have := hs j z z' h h'; unfold laws_markMsg.SItem_Eqv at this; unfold laws_markMsg.SItem_wt; omega)
 rw [e1] at h1 ⊢
 refine (laws_markMsg.SItem_deep P base v l' a w hr' h0 h1).mono ?_
 rintro e w' ⟨rfl, m'⟩
 exact ⟨rfl, m.trans m'⟩
def laws_markMsg.f (a0 : Int) (a1 : Int) (a2 : Int) (a3 : Int) (a4 : Int) (a5 : Int) (l6 : List S147) (a7 : Int) (a8 : Bool) (a9 : Int) : Option Int := if 0 ≤ a9 ∧ a9 + ((l6.map laws_markMsg.SItem_wt).sum : Nat) ≤ 1000000000 then some (a9 + ((l6.map laws_markMsg.SItem_wt).sum : Nat)) else none
set_option maxHeartbeats 16000000 in
set_option maxRecDepth 100000 in
theorem laws_markMsg.calls (a0 : Int) (a1 : Int) (a2 : Int) (a3 : Int) (a4 : Int) (a5 : Int) (P6_ : Nat → Prop) (u6 : Value) (l6 : List S147) (a7 : Int) (a8 : Bool) (a9 : Int) (r : Int) (w0 w : World) (hB : Below w0.heap.size w0 w) (ho6 : Kd.R k147 147 w w0.heap.size P6_ u6 l6) (h : laws_markMsg.f a0 a1 a2 a3 a4 a5 l6 a7 a8 a9 = some r) :
  Calls Try.prog 37 #[.agg #[.int .i64 a0, .int .i64 a1, .int .i64 a2, .int .i64 a3, .int .i64 a4, .int .i64 a5, u6, .int .i64 a7, .bool a8], .int .i64 a9] w fun e w' => e = .returned (.int .i64 r) ∧ Below w0.heap.size w0 w' ∧ Kept w w' (fun k_ => P6_ k_) := by
 have hu := Try.underlying54
 unfold laws_markMsg.f at h
 split at h
 case isFalse => cases h
 case isTrue hh =>
 obtain rfl := Option.some.inj h
 clear h
 obtain ⟨h0, h1⟩ := hh
 obtain ⟨A6, c6, rfl⟩ := Kd.R_slice ho6
 have HO6 := Aside0.mk (Kd.R_mono (ok' := (fun b => P6_ b ∧ w0.heap.size ≤ b ∧ b < w.heap.size)) (Kd.R_bound ho6) (fun _ h => ⟨h.1, h.2.1, h.2.2.1⟩))
 have HBB := Aside0.mk hB
 have H0 := Aside0.mk h0
 have H1 := Aside0.mk h1
 clear ho6 hB h0 h1
 go_enter Try.func37, Try.ntmps37
 go_wp2_with (first | ((with_reducible refine gate_dst (N := 2) rfl ?_); refine bx_ 2 #[.int .i64 a0, .int .i64 a1, .int .i64 a2, .int .i64 a3, .int .i64 a4, .int .i64 a5, .slice A6 l6.length c6, .int .i64 a7, .bool a8] 54 (h := ?_); intro gb1 hg w1 hbox hb; have BK1 := Aside0.mk (hbox); have HG1 := Aside0.mk hg; have HB1 := Aside0.mk hb; have M1 := Aside0.mk (Mk.refl w1 (fun b => P6_ b ∧ w0.heap.size ≤ b ∧ b < w.heap.size)); clear hb hbox hg; have hcz1_6 : w1.cell? ⟨gb1, 6, none⟩ = some (.slice A6 l6.length c6) := (blk_cell BK1.out 6).trans rfl) | (go_at_call 121; refine (laws_markMsg.SItem_call _ _ _ l6 a9 w1 _ M1.out (Kd.R_below HO6.out HB1.out) H0.out H1.out).mono ?_; rintro e w2 ⟨rfl, m_⟩; have M2 := Aside0.mk m_; clear m_))
 go_ret
 have mm := Mk.newer HB1.out M2.out (fun _ h => h.2.2)
 exact ⟨rfl, mm.below HBB.out (fun _ h => h.2.1), mm.kept.mono (fun _ h => h.1)⟩

/-! ### laws_markByteS: function 38 -/
def laws_markByteS.l0 : Nat → List Int → Int → Int → Option (Int × List Int)
 | 0, _, _, _ => none
 | k + 1, x0, x1, x5 => if x5 < (x0.length : Int) then (if 0 ≤ x5 then (laws_markByteS.l0 k (x0.set (x5 : Int).toNat ((x1) % 256)) (wrap64 (x1 + 1)) (wrap64 (x5 + 1))) else (none)) else (some (x1, x0))
def laws_markByteS.f (k : Nat) (l0 : List Int) (a1 : Int) : Option (Int × List Int) := laws_markByteS.l0 k l0 a1 0
set_option maxHeartbeats 8000000 in
set_option maxRecDepth 100000 in
theorem laws_markByteS.calls (k : Nat) (P0_ : Nat → Prop) (u9000_ : Value) (l0 : List Int) (a1 : Int) (r1 : Int) (r2 : List Int) (w0 w : World) (hB : Below w0.heap.size w0 w) (ho0 : Kd.R (Kd.int .u8) 5 w w0.heap.size P0_ u9000_ l0) (h : laws_markByteS.f k l0 a1 = some (r1, r2)) :
  Calls Try.prog 38 #[u9000_, .int .i64 a1] w fun e w' => e = .returned (.int .i64 r1) ∧ Kd.R (Kd.int .u8) 5 w' w0.heap.size (fun k_ => (P0_ k_ ∨ w.heap.size ≤ k_)) u9000_ r2 ∧ Below w0.heap.size w0 w' ∧ Kept w w' (fun k_ => P0_ k_) := by
 have HO0 := Aside0.mk (show Kd.R (Kd.int .u8) 5 w w0.heap.size (fun k_ => (P0_ k_ ∨ w.heap.size ≤ k_)) u9000_ l0 from Kd.R_mono ho0 (fun k_ hk => (.inl hk)))
 have HK := Aside0.mk (Kept.refl w (fun k_ => P0_ k_))
 have HW0 := Aside0.mk hB.size
 have HB := Aside0.mk hB
 clear hB
 have H : (laws_markByteS.l0 k l0 a1 0) = some (r1, r2) := h
 clear h
 have H' := Aside0.mk H
 clear H
 go_enter Try.func38, Try.ntmps38
 go_wp2
 go_loopg [1, 5] k (fun kq v1 v5 w' => ∃ (x0_1 : List Int) (x1_1 : Int) (x5_1 : Int), v1 = .int .i64 x1_1 ∧ v5 = .int .i64 x5_1 ∧ Aside0 (laws_markByteS.l0 kq x0_1 x1_1 x5_1 = some (r1, r2)) ∧ Aside0 (kq ≤ k) ∧ Aside0 (Kd.R (Kd.int .u8) 5 w' w0.heap.size (fun k_ => (P0_ k_ ∨ w.heap.size ≤ k_)) u9000_ x0_1) ∧ Aside0 (Kept w w' (fun k_ => P0_ k_)) ∧ Aside0 (Below w0.heap.size w0 w'))
 case atStart => exact ⟨(l0), (a1), (0), rs_, rs_, H', ⟨Nat.le_refl _⟩, ⟨by (with_reducible repeat (first | apply Kd.R_alloc | apply Kd.R_drewN | apply Kd.R_drew)); exact HO0.out⟩, ⟨by repeat (first | (with_reducible first | exact HK.out | apply Kept.alloc | apply Kept.drewN | apply Kept.drew) | exact HK.out)⟩, ⟨bel⟩⟩
 case round =>
  clear H'
  try clear p2
  obtain ⟨x0_1, x1_1, x5_1, rfl, rfl, HA, HK1, HO_0, HK, HB⟩ := hrel
  cases gk with
  | zero => exact absurd HA.out (by simp [laws_markByteS.l0])
  | succ k1 =>
   have H := HA.out
   clear HA
   simp only [laws_markByteS.l0] at H
   by_cases c3 : x5_1 < (x0_1.length : Int)
   ·rw [if_pos c3] at H
    have c3b0 : decide (x5_1 < (x0_1.length : Int)) = true := decide_eq_true c3
    clear c3
    by_cases c4 : 0 ≤ x5_1
    ·rw [if_pos c4] at H
     have c4b0 : decide (0 ≤ x5_1) = true := decide_eq_true c4
     clear c4
     obtain ⟨y447, hy447⟩ : ∃ y_ : List Int, y_ = (x0_1.set (x5_1 : Int).toNat ((x1_1) % 256)) := ⟨_, rfl⟩
     replace H : (laws_markByteS.l0 k1 y447 (wrap64 (x1_1 + 1)) (wrap64 (x5_1 + 1))) = some (r1, r2) := by first | (rw [hy447]; with_reducible exact H) | (have H2_ := (Option.bind_some _ _).symm.trans H; rw [hy447]; with_reducible exact H2_) | (have H2_ := (Option.bind_some _ _).symm.trans H; with_reducible exact H2_) | with_reducible exact H | (rw [hy447]; exact H) | exact H
     have Ny447 := Aside0.mk hy447
     clear hy447
     have H' := Aside0.mk H
     clear H
     obtain ⟨Ao6, co6, eo6⟩ := Kd.R_slice HO_0.out
     subst eo6
     have p5 : 0 ≤ (x5_1 : Int) := od
     have q5 : (x5_1 : Int) < ((x0_1.length : Int) : Int) := od
     obtain ⟨go5, co5, eo5, gb5, gl5, cl5, HG5⟩ := Kd.R_form HO_0.out (by omega)
     (first | cases eo5 | (injection eo5 with ea_ en_ ec_; (first | subst ea_ | (injection ea_ with ea_; subst ea_)); subst ec_; clear en_))
     have GB5 := Aside0.mk gb5
     have GG5 := Aside0.mk HG5
     clear gb5 gl5 HG5
     have HMgo5 := Aside0.mk (show (P0_ go5 ∨ w.heap.size ≤ go5) from (HO_0.out.1 _ rfl))
     obtain ⟨hx5_0, hf5_0⟩ := Kd.R_celln 0 HO_0.out (x5_1 : Int) p5 q5
     replace p5 := eq_true p5
     replace q5 := eq_true q5
     have HP7 := Kd.R_putg HO_0.out (x5_1 : Int) ((x1_1) % 256)
     go_wp2_with (first | ((with_reducible refine gate_store (t := 5) (p := 16) rfl ?_); refine store_event (t := 5) (p := 16) (v := ?vo_w8) (w1 := (wr.setCell ⟨go5, (x5_1 : Int).toNat, none⟩ (.int .u8 ((x1_1) % 256)))) ?hg ?ho ?hn ?hr ?_; (case ho => rfl); (case hg => rfl); (case hn => rfl); (case hr => first | (go_simp; done) | (go_simp; rfl)); intro w8 hw; have hg : wr.grownBy w8 (some go5) := (by rw [hw]; exact HP7.2); have hp_ : Kd.R (Kd.int .u8) 5 w8 w0.heap.size (fun k_ => (P0_ k_ ∨ w.heap.size ≤ k_)) (.slice (some ⟨go5, 0, none⟩) x0_1.length co6) y447 := (by rw [hw, Ny447.out]; exact HP7.1); clear HP7; replace HB := Aside0.mk ((by rw [hw]; exact below_set (HB.out) GB5.out : Below w0.heap.size w0 w8)); replace HK := Aside0.mk (Kept.of_grown (S := (fun k_ => P0_ k_)) hg (by repeat (first | (with_reducible first | exact HK.out | apply Kept.alloc | apply Kept.drewN | apply Kept.drew) | exact HK.out)) (fun k_ e_ => (HO_0.out.1 k_ e_))); replace HO_0 := Aside0.mk (hp_); clear hg hw hp_))
     go_roundg k1
     case measure => have := HK1.out; omega
     case rel => exact ⟨(y447), (wrap64 (x1_1 + 1)), (wrap64 (x5_1 + 1)), rs_, rs_, H', ⟨by have := HK1.out; omega⟩, ⟨by (with_reducible repeat (first | apply Kd.R_alloc | apply Kd.R_drewN | apply Kd.R_drew)); exact HO_0.out⟩, ⟨by repeat (first | (with_reducible first | exact HK.out | apply Kept.alloc | apply Kept.drewN | apply Kept.drew) | exact HK.out)⟩, ⟨bel⟩⟩
    rw [if_neg c4] at H
    exact absurd H (by simp)
   rw [if_neg c3] at H
   have c3b0 : decide (x5_1 < (x0_1.length : Int)) = false := decide_eq_false c3
   clear c3
   simp only [Option.some.injEq, Prod.mk.injEq] at H
   obtain ⟨rfl, rfl⟩ := H
   obtain ⟨Ao9, co9, eo9⟩ := Kd.R_slice HO_0.out
   subst eo9
   go_wp2
   go_ret
   exact ⟨rz_, by (with_reducible repeat (first | apply Kd.R_alloc | apply Kd.R_drewN | apply Kd.R_drew)); exact HO_0.out, by repeat (first | (with_reducible first | exact HB.out | apply below_alloc | apply pw_below_drewN | apply below_drew1) | exact HB.out), by repeat (first | (with_reducible first | exact HK.out | apply Kept.alloc | apply Kept.drewN | apply Kept.drew) | exact HK.out)⟩

end Go.Proofs.Ytdgegnakiljfjaa.PM
