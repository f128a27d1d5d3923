-- Written for this claim by the session's program pp.py, out of the kit's print and the seat's translation.
import Derived.Test.YtdgegnakiljfjaaPTx0
import Derived.Test.YtdgegnakiljfjaaPTx2
namespace Go.Proofs.Ytdgegnakiljfjaa.PT
open Go.RowKit Go.Proofs.YtdgegnakiljfjaaW.PrintWords Go.Proofs.YtdgegnakiljfjaaW.PrintLast Go.Proofs.YtdgegnakiljfjaaW.PrintMore
attribute [local go_sem] max2_int min2_int max_two min_two max_three min_three max_four min_four   -- for this text's walks alone
set_option linter.unusedVariables false
set_option linter.unusedSimpArgs false

/-! ### laws_eqRowS: function 87 -/
def laws_eqRowS.l0 : Nat → List (S92) → List (S92) → Int → Option (Bool)
 | 0, _, _, _ => none
 | k + 1, x0, x1, x5 => if x5 < (x0.length : Int) then (if 0 ≤ x5 then (if x5 < (x1.length : Int) then ((laws_eqRow.f k ((rd_T92 x0 x5).f0) ((rd_T92 x0 x5).f1) ((rd_T92 x0 x5).f2) ((rd_T92 x0 x5).f3) ((rd_T92 x1 x5).f0) ((rd_T92 x1 x5).f1) ((rd_T92 x1 x5).f2) ((rd_T92 x1 x5).f3)).bind fun t207 => (if t207 = true then (laws_eqRowS.l0 k x0 x1 (wrap64 (x5 + 1))) else (some false))) else (none)) else (none)) else (some true)
def laws_eqRowS.f (k : Nat) (l0 : List (S92)) (l1 : List (S92)) : Option (Bool) := if (l0.length : Int) = (l1.length : Int) then (laws_eqRowS.l0 k l0 l1 0) else (some false)
def laws_eqRowS.T6 : Bool × List (List Nat × List Nat) := (true, [([], []), ([], []), ([0, 1], [0, 1]), ([2], [2]), ([], []), ([], []), ([4, 5], [4, 5]), ([6], [6]), ([3, 7], [3, 7]), ([8], [8])])
def laws_eqRowS.B6 : List Nat := [0, 0, 3, 7, 0, 0, 48, 112, 255, 511]
theorem laws_eqRowS.tab6 : rtab .any (opsOf Try.f87 6) = laws_eqRowS.T6 := by kernel_rfl
theorem laws_eqRowS.bits6 : waitsOk laws_eqRowS.T6.2 laws_eqRowS.B6 = true := by kernel_rfl
set_option maxHeartbeats 8000000 in
set_option maxRecDepth 100000 in
theorem laws_eqRowS.calls (k : Nat) (A0 : Option Addr) (c0 : Nat) (l0 : List (S92)) (A1 : Option Addr) (c1 : Nat) (l1 : List (S92)) (r : Bool) (w : World) (hr0 : Kd.C k92 w A0 l0.length l0) (hc0 : l0.length ≤ c0) (hr1 : Kd.C k92 w A1 l1.length l1) (hc1 : l1.length ≤ c1) (h : laws_eqRowS.f k l0 l1 = some r) :
  Calls Try.prog 87 #[.slice A0 l0.length c0, .slice A1 l1.length c1] w fun e w' => e = .returned (.bool r) ∧ Below w.heap.size w w' := by
 have hu92 := Try.underlying92
 have HR0 := Aside0.mk hr0
 have HC0 := Aside0.mk hc0
 clear hr0 hc0
 have HR1 := Aside0.mk hr1
 have HC1 := Aside0.mk hc1
 clear hr1 hc1
 have HB := Aside0.mk (Below.refl w.heap.size w)
 have H : (if (l0.length : Int) = (l1.length : Int) then (laws_eqRowS.l0 k l0 l1 0) else (some false)) = some r := h
 clear h
 by_cases c3 : (l0.length : Int) = (l1.length : Int)
 ·rw [if_pos c3] at H
  have c3b0 : ((l0.length : Int) == (l1.length : Int)) = true := beq_iff_eq.mpr c3
  have c3b1 : ((l0.length : Int) != (l1.length : Int)) = false := bne_eq_false_iff_eq.mpr c3
  have c3b2 : (l0.length == l1.length) = true := by first | simpa using c3 | (simp at c3 ⊢; omega)
  clear c3
  have H' := Aside0.mk H
  clear H
  go_enter Try.func87, Try.ntmps87
  go_wp2
  go_loopg [5] k (fun kq v5 w' => ∃ (x5_1 : Int), v5 = .int .i64 x5_1 ∧ Aside0 (laws_eqRowS.l0 kq l0 l1 x5_1 = some r) ∧ Aside0 (kq ≤ k) ∧ Aside0 (Below w.heap.size w w'))
  case atStart => exact ⟨(0), rs_, H', ⟨Nat.le_refl _⟩, ⟨bel⟩⟩
  case round =>
   clear H'
   try clear c1; try clear p2; try clear c3; try clear c3b0; try clear c3b1; try clear c3b2
   obtain ⟨x5_1, rfl, HA, HK1, HB⟩ := hrel
   cases gk with
   | zero => exact absurd HA.out (by simp [laws_eqRowS.l0])
   | succ k1 =>
    have H := HA.out
    clear HA
    simp only [laws_eqRowS.l0] at H
    by_cases c4 : x5_1 < (l0.length : Int)
    ·rw [if_pos c4] at H
     have c4b0 : decide (x5_1 < (l0.length : Int)) = true := decide_eq_true c4
     clear c4
     by_cases c5 : 0 ≤ x5_1
     ·rw [if_pos c5] at H
      have c5b0 : decide (0 ≤ x5_1) = true := decide_eq_true c5
      clear c5
      by_cases c6 : x5_1 < (l1.length : Int)
      ·rw [if_pos c6] at H
       have c6b0 : decide (x5_1 < (l1.length : Int)) = true := decide_eq_true c6
       clear c6
       replace H := Option.bind_eq_some_iff.mp H
       obtain ⟨t207, A70, H⟩ := H
       replace H : (if t207 = true then (laws_eqRowS.l0 k1 l0 l1 (wrap64 (x5_1 + 1))) else (some false)) = some r := H
       have A7 := Aside0.mk A70
       clear A70
       by_cases c8 : t207 = true
       ·subst c8
        have H1 : (laws_eqRowS.l0 k1 l0 l1 (wrap64 (x5_1 + 1))) = some r := by rw [if_pos rfl] at H; exact H
        clear H
        have H := H1
        clear H1
        have H' := Aside0.mk H
        clear H
        try go_wp2
        replace HB := Aside0.mk (below_drew1 HB.out)
        have p205 : 0 ≤ (x5_1 : Int) := od
        have q205 : x5_1 < (l0.length : Int) := od
        obtain ⟨ad205, A205_0, c205_0, A205_1, c205_1, e205, hx205_0, hx205_1, hx205_2, hx205_3, hl205_0, hi205_0, hl205_1, hi205_1⟩ := at_T92 HR0.out x5_1 p205 q205
        have hw205_3 := hx205_3
        have hw205_2 := hx205_2
        have hw205_1 := hx205_1
        have hw205_0 := hx205_0
        cases e205
        replace hx205_0 := hxb HB hx205_0
        replace hx205_1 := hxb HB hx205_1
        replace hx205_2 := hxb HB hx205_2
        replace hx205_3 := hxb HB hx205_3
        have HR205_0 := Aside0.mk hi205_0
        have HC205_0 := Aside0.mk hl205_0
        clear hi205_0 hl205_0
        have HR205_1 := Aside0.mk hi205_1
        have HC205_1 := Aside0.mk hl205_1
        clear hi205_1 hl205_1
        replace p205 := eq_true p205
        replace q205 := eq_true q205
        have p206 : 0 ≤ (x5_1 : Int) := od
        have q206 : x5_1 < (l1.length : Int) := od
        obtain ⟨ad206, A206_0, c206_0, A206_1, c206_1, e206, hx206_0, hx206_1, hx206_2, hx206_3, hl206_0, hi206_0, hl206_1, hi206_1⟩ := at_T92 HR1.out x5_1 p206 q206
        have hw206_3 := hx206_3
        have hw206_2 := hx206_2
        have hw206_1 := hx206_1
        have hw206_0 := hx206_0
        cases e206
        replace hx206_0 := hxb HB hx206_0
        replace hx206_1 := hxb HB hx206_1
        replace hx206_2 := hxb HB hx206_2
        replace hx206_3 := hxb HB hx206_3
        have HR206_0 := Aside0.mk hi206_0
        have HC206_0 := Aside0.mk hl206_0
        clear hi206_0 hl206_0
        have HR206_1 := Aside0.mk hi206_1
        have HC206_1 := Aside0.mk hl206_1
        clear hi206_1 hl206_1
        replace p206 := eq_true p206
        replace q206 := eq_true q206
        refine start_ (n := 10) (S := fun w' => w'.cell? (ad205.add ((x5_1).toNat * 4)) = some (.slice A205_0 ((rd_T92 l0 x5_1).f0).length c205_0) ∧ w'.cell? ⟨(ad205.add ((x5_1).toNat * 4)).block, (ad205.add ((x5_1).toNat * 4)).off + 1, none⟩ = some (.slice A205_1 ((rd_T92 l0 x5_1).f1).length c205_1) ∧ w'.cell? ⟨(ad205.add ((x5_1).toNat * 4)).block, (ad205.add ((x5_1).toNat * 4)).off + 2, none⟩ = some (.int .i64 ((rd_T92 l0 x5_1).f2)) ∧ w'.cell? ⟨(ad205.add ((x5_1).toNat * 4)).block, (ad205.add ((x5_1).toNat * 4)).off + 3, none⟩ = some (.int .i64 ((rd_T92 l0 x5_1).f3)) ∧ w'.cell? (ad206.add ((x5_1).toNat * 4)) = some (.slice A206_0 ((rd_T92 l1 x5_1).f0).length c206_0) ∧ w'.cell? ⟨(ad206.add ((x5_1).toNat * 4)).block, (ad206.add ((x5_1).toNat * 4)).off + 1, none⟩ = some (.slice A206_1 ((rd_T92 l1 x5_1).f1).length c206_1) ∧ w'.cell? ⟨(ad206.add ((x5_1).toNat * 4)).block, (ad206.add ((x5_1).toNat * 4)).off + 2, none⟩ = some (.int .i64 ((rd_T92 l1 x5_1).f2)) ∧ w'.cell? ⟨(ad206.add ((x5_1).toNat * 4)).block, (ad206.add ((x5_1).toNat * 4)).off + 3, none⟩ = some (.int .i64 ((rd_T92 l1 x5_1).f3))) (ds := []) (tf 0 10) (by kernel_rfl) rfl rfl ⟨(hxb HB hw205_0 :), (hxb HB hw205_1 :), (hxb HB hw205_2 :), (hxb HB hw205_3 :), (hxb HB hw206_0 :), (hxb HB hw206_1 :), (hxb HB hw206_2 :), (hxb HB hw206_3 :)⟩ (fun hHeld => ?_); refine with_tabW laws_eqRowS.tab6 laws_eqRowS.bits6 (fun HT_ HW_ => ?_)
        generalize wr.drew = w9 at HB HR205_0 HR205_1 HR206_0 HR206_1 hx205_0 hx205_1 hx205_2 hx205_3 hx206_0 hx206_1 hx206_2 hx206_3 hHeld ⊢
        iterate 3 (refine pvn_ HT_ (h := ?_))
        refine pv_ HT_ 4 (some 21) (tb 10 23) (h := ?_)
        refine pv_ HT_ 5 (some 22) (tb 10 55) (h := ?_)
        refine pv_ HT_ 6 (some 23) (tb 10 119) (h := ?_)
        refine tv_ HT_ HW_ hHeld 3 (some 20) (tf 7 3) (h := ?_)
        refine tvn_ HT_ HW_ hHeld (h := ?_)
        refine one_ (i := 8) (N := some 25) (tf 9 1) rfl rfl (one_of HT_.out (by kernel_rfl)) (by decide) (fun K hK => ?_)
        refine gs_ Try.func155 #[.agg #[.slice A205_0 ((rd_T92 l0 x5_1).f0).length c205_0, .slice A205_1 ((rd_T92 l0 x5_1).f1).length c205_1, .int .i64 ((rd_T92 l0 x5_1).f2), .int .i64 ((rd_T92 l0 x5_1).f3)], .agg #[.slice A206_0 ((rd_T92 l1 x5_1).f0).length c206_0, .slice A206_1 ((rd_T92 l1 x5_1).f1).length c206_1, .int .i64 ((rd_T92 l1 x5_1).f2), .int .i64 ((rd_T92 l1 x5_1).f3)]] (h := ?_)
        with_reducible refine (laws_eqRow.calls k1 _ _ ((rd_T92 l0 x5_1).f0) _ _ ((rd_T92 l0 x5_1).f1) ((rd_T92 l0 x5_1).f2) ((rd_T92 l0 x5_1).f3) _ _ ((rd_T92 l1 x5_1).f0) _ _ ((rd_T92 l1 x5_1).f1) ((rd_T92 l1 x5_1).f2) ((rd_T92 l1 x5_1).f3) true _ ?side1 ?side2 ?side3 ?side4 ?side5 ?side6 ?side7 ?side8 A7.out).mono ?_
        (case side1 => exact kcb)
        (case side2 => exact HC205_0.out)
        (case side3 => exact kcb)
        (case side4 => exact HC205_1.out)
        (case side5 => exact kcb)
        (case side6 => exact HC206_0.out)
        (case side7 => exact kcb)
        (case side8 => exact HC206_1.out)
        rintro e w10 ⟨rfl, hb⟩
        refine ⟨_, rfl, ?_⟩
        replace HB := bst hb
        (try clear hb)
        (try clear hb2)
        (try clear hk)
        (try clear hi)
        refine hK.out _ _ ⟨(hxb HB hw205_0 :), (hxb HB hw205_1 :), (hxb HB hw205_2 :), (hxb HB hw205_3 :), (hxb HB hw206_0 :), (hxb HB hw206_1 :), (hxb HB hw206_2 :), (hxb HB hw206_3 :)⟩ (fun hHeld => ?_)
        clear hK K
        refine nrm_ (some 25) (h := ?_)
        refine pvn_ HT_ (h := ?_)
        refine done_ (done_of HT_.out (by kernel_rfl)) ?_
        try go_wp2
        go_roundg k1
        case measure => have := HK1.out; omega
        case rel => exact ⟨(wrap64 (x5_1 + 1)), rs_, H', ⟨by have := HK1.out; omega⟩, ⟨bel⟩⟩
       replace c8 := Bool.eq_false_iff.mpr c8
       subst c8
       have H1 : (some false) = some r := by rw [if_neg (show ¬ (false = true) by decide)] at H; exact H
       clear H
       have H := H1
       clear H1
       obtain rfl := Option.some.inj H
       try go_wp2
       replace HB := Aside0.mk (below_drew1 HB.out)
       have p205 : 0 ≤ (x5_1 : Int) := od
       have q205 : x5_1 < (l0.length : Int) := od
       obtain ⟨ad205, A205_0, c205_0, A205_1, c205_1, e205, hx205_0, hx205_1, hx205_2, hx205_3, hl205_0, hi205_0, hl205_1, hi205_1⟩ := at_T92 HR0.out x5_1 p205 q205
       have hw205_3 := hx205_3
       have hw205_2 := hx205_2
       have hw205_1 := hx205_1
       have hw205_0 := hx205_0
       cases e205
       replace hx205_0 := hxb HB hx205_0
       replace hx205_1 := hxb HB hx205_1
       replace hx205_2 := hxb HB hx205_2
       replace hx205_3 := hxb HB hx205_3
       have HR205_0 := Aside0.mk hi205_0
       have HC205_0 := Aside0.mk hl205_0
       clear hi205_0 hl205_0
       have HR205_1 := Aside0.mk hi205_1
       have HC205_1 := Aside0.mk hl205_1
       clear hi205_1 hl205_1
       replace p205 := eq_true p205
       replace q205 := eq_true q205
       have p206 : 0 ≤ (x5_1 : Int) := od
       have q206 : x5_1 < (l1.length : Int) := od
       obtain ⟨ad206, A206_0, c206_0, A206_1, c206_1, e206, hx206_0, hx206_1, hx206_2, hx206_3, hl206_0, hi206_0, hl206_1, hi206_1⟩ := at_T92 HR1.out x5_1 p206 q206
       have hw206_3 := hx206_3
       have hw206_2 := hx206_2
       have hw206_1 := hx206_1
       have hw206_0 := hx206_0
       cases e206
       replace hx206_0 := hxb HB hx206_0
       replace hx206_1 := hxb HB hx206_1
       replace hx206_2 := hxb HB hx206_2
       replace hx206_3 := hxb HB hx206_3
       have HR206_0 := Aside0.mk hi206_0
       have HC206_0 := Aside0.mk hl206_0
       clear hi206_0 hl206_0
       have HR206_1 := Aside0.mk hi206_1
       have HC206_1 := Aside0.mk hl206_1
       clear hi206_1 hl206_1
       replace p206 := eq_true p206
       replace q206 := eq_true q206
       refine start_ (n := 10) (S := fun w' => w'.cell? (ad205.add ((x5_1).toNat * 4)) = some (.slice A205_0 ((rd_T92 l0 x5_1).f0).length c205_0) ∧ w'.cell? ⟨(ad205.add ((x5_1).toNat * 4)).block, (ad205.add ((x5_1).toNat * 4)).off + 1, none⟩ = some (.slice A205_1 ((rd_T92 l0 x5_1).f1).length c205_1) ∧ w'.cell? ⟨(ad205.add ((x5_1).toNat * 4)).block, (ad205.add ((x5_1).toNat * 4)).off + 2, none⟩ = some (.int .i64 ((rd_T92 l0 x5_1).f2)) ∧ w'.cell? ⟨(ad205.add ((x5_1).toNat * 4)).block, (ad205.add ((x5_1).toNat * 4)).off + 3, none⟩ = some (.int .i64 ((rd_T92 l0 x5_1).f3)) ∧ w'.cell? (ad206.add ((x5_1).toNat * 4)) = some (.slice A206_0 ((rd_T92 l1 x5_1).f0).length c206_0) ∧ w'.cell? ⟨(ad206.add ((x5_1).toNat * 4)).block, (ad206.add ((x5_1).toNat * 4)).off + 1, none⟩ = some (.slice A206_1 ((rd_T92 l1 x5_1).f1).length c206_1) ∧ w'.cell? ⟨(ad206.add ((x5_1).toNat * 4)).block, (ad206.add ((x5_1).toNat * 4)).off + 2, none⟩ = some (.int .i64 ((rd_T92 l1 x5_1).f2)) ∧ w'.cell? ⟨(ad206.add ((x5_1).toNat * 4)).block, (ad206.add ((x5_1).toNat * 4)).off + 3, none⟩ = some (.int .i64 ((rd_T92 l1 x5_1).f3))) (ds := []) (tf 0 10) (by kernel_rfl) rfl rfl ⟨(hxb HB hw205_0 :), (hxb HB hw205_1 :), (hxb HB hw205_2 :), (hxb HB hw205_3 :), (hxb HB hw206_0 :), (hxb HB hw206_1 :), (hxb HB hw206_2 :), (hxb HB hw206_3 :)⟩ (fun hHeld => ?_); refine with_tabW laws_eqRowS.tab6 laws_eqRowS.bits6 (fun HT_ HW_ => ?_)
       generalize wr.drew = w11 at HB HR205_0 HR205_1 HR206_0 HR206_1 hx205_0 hx205_1 hx205_2 hx205_3 hx206_0 hx206_1 hx206_2 hx206_3 hHeld ⊢
       iterate 3 (refine pvn_ HT_ (h := ?_))
       refine pv_ HT_ 4 (some 21) (tb 10 23) (h := ?_)
       refine pv_ HT_ 5 (some 22) (tb 10 55) (h := ?_)
       refine pv_ HT_ 6 (some 23) (tb 10 119) (h := ?_)
       refine tv_ HT_ HW_ hHeld 3 (some 20) (tf 7 3) (h := ?_)
       refine tvn_ HT_ HW_ hHeld (h := ?_)
       refine one_ (i := 8) (N := some 25) (tf 9 1) rfl rfl (one_of HT_.out (by kernel_rfl)) (by decide) (fun K hK => ?_)
       refine gs_ Try.func155 #[.agg #[.slice A205_0 ((rd_T92 l0 x5_1).f0).length c205_0, .slice A205_1 ((rd_T92 l0 x5_1).f1).length c205_1, .int .i64 ((rd_T92 l0 x5_1).f2), .int .i64 ((rd_T92 l0 x5_1).f3)], .agg #[.slice A206_0 ((rd_T92 l1 x5_1).f0).length c206_0, .slice A206_1 ((rd_T92 l1 x5_1).f1).length c206_1, .int .i64 ((rd_T92 l1 x5_1).f2), .int .i64 ((rd_T92 l1 x5_1).f3)]] (h := ?_)
       with_reducible refine (laws_eqRow.calls k1 _ _ ((rd_T92 l0 x5_1).f0) _ _ ((rd_T92 l0 x5_1).f1) ((rd_T92 l0 x5_1).f2) ((rd_T92 l0 x5_1).f3) _ _ ((rd_T92 l1 x5_1).f0) _ _ ((rd_T92 l1 x5_1).f1) ((rd_T92 l1 x5_1).f2) ((rd_T92 l1 x5_1).f3) false _ ?side1 ?side2 ?side3 ?side4 ?side5 ?side6 ?side7 ?side8 A7.out).mono ?_
       (case side1 => exact kcb)
       (case side2 => exact HC205_0.out)
       (case side3 => exact kcb)
       (case side4 => exact HC205_1.out)
       (case side5 => exact kcb)
       (case side6 => exact HC206_0.out)
       (case side7 => exact kcb)
       (case side8 => exact HC206_1.out)
       rintro e w12 ⟨rfl, hb⟩
       refine ⟨_, rfl, ?_⟩
       replace HB := bst hb
       (try clear hb)
       (try clear hb2)
       (try clear hk)
       (try clear hi)
       refine hK.out _ _ ⟨(hxb HB hw205_0 :), (hxb HB hw205_1 :), (hxb HB hw205_2 :), (hxb HB hw205_3 :), (hxb HB hw206_0 :), (hxb HB hw206_1 :), (hxb HB hw206_2 :), (hxb HB hw206_3 :)⟩ (fun hHeld => ?_)
       clear hK K
       refine nrm_ (some 25) (h := ?_)
       refine pvn_ HT_ (h := ?_)
       refine done_ (done_of HT_.out (by kernel_rfl)) ?_
       try go_wp2
       go_ret
       exact ⟨rz_, bel⟩
      rw [if_neg c6] at H
      exact absurd H (by simp)
     rw [if_neg c5] at H
     exact absurd H (by simp)
    rw [if_neg c4] at H
    have c4b0 : decide (x5_1 < (l0.length : Int)) = false := decide_eq_false c4
    clear c4
    obtain rfl := Option.some.inj H
    go_wp2
    go_ret
    exact ⟨rz_, bel⟩
 rw [if_neg c3] at H
 have c3b0 : ((l0.length : Int) == (l1.length : Int)) = false := beq_eq_false_iff_ne.mpr c3
 have c3b1 : ((l0.length : Int) != (l1.length : Int)) = true := bne_iff_ne.mpr c3
 have c3b2 : (l0.length == l1.length) = false := by first | simpa using c3 | (simp at c3 ⊢; omega)
 obtain rfl := Option.some.inj H
 go_enter Try.func87, Try.ntmps87
 go_wp2
 go_ret
 exact ⟨rz_, bel⟩

/-! ### laws_eqTomb: function 156 -/
def laws_eqTomb.f (k : Nat) (l0_0 : List Int) (a0_1 : Int) (l1_0 : List Int) (a1_1 : Int) : Option (Bool) := (laws_eqByteS.f k l0_0 l1_0).bind fun t210 => (if t210 = true then (if a0_1 = a1_1 then (some true) else (some false)) else (some false))
set_option maxHeartbeats 8000000 in
set_option maxRecDepth 100000 in
theorem laws_eqTomb.calls (k : Nat) (A0_0 : Option Addr) (c0_0 : Nat) (l0_0 : List Int) (a0_1 : Int) (A1_0 : Option Addr) (c1_0 : Nat) (l1_0 : List Int) (a1_1 : Int) (r : Bool) (w : World) (hr0_0 : Kd.C (Kd.int .u8) w A0_0 l0_0.length l0_0) (hc0_0 : l0_0.length ≤ c0_0) (hr1_0 : Kd.C (Kd.int .u8) w A1_0 l1_0.length l1_0) (hc1_0 : l1_0.length ≤ c1_0) (h : laws_eqTomb.f k l0_0 a0_1 l1_0 a1_1 = some r) :
  Calls Try.prog 156 #[.agg #[.slice A0_0 l0_0.length c0_0, .int .i64 a0_1], .agg #[.slice A1_0 l1_0.length c1_0, .int .i64 a1_1]] w fun e w' => e = .returned (.bool r) ∧ Below w.heap.size w w' := by
 have hu94 := Try.underlying94
 have HR0_0 := Aside0.mk hr0_0
 have HC0_0 := Aside0.mk hc0_0
 clear hr0_0 hc0_0
 have HR1_0 := Aside0.mk hr1_0
 have HC1_0 := Aside0.mk hc1_0
 clear hr1_0 hc1_0
 have HB := Aside0.mk (Below.refl w.heap.size w)
 have H : ((laws_eqByteS.f k l0_0 l1_0).bind fun t210 => (if t210 = true then (if a0_1 = a1_1 then (some true) else (some false)) else (some false))) = some r := h
 clear h
 replace H := Option.bind_eq_some_iff.mp H
 obtain ⟨t210, A30, H⟩ := H
 replace H : (if t210 = true then (if a0_1 = a1_1 then (some true) else (some false)) else (some false)) = some r := H
 have A3 := Aside0.mk A30
 clear A30
 by_cases c4 : t210 = true
 ·subst c4
  have H1 : (if a0_1 = a1_1 then (some true) else (some false)) = some r := by rw [if_pos rfl] at H; exact H
  clear H
  have H := H1
  clear H1
  by_cases c5 : a0_1 = a1_1
  ·rw [if_pos c5] at H
   have c5b0 : (a0_1 == a1_1) = true := beq_iff_eq.mpr c5
   have c5b1 : (a0_1 != a1_1) = false := bne_eq_false_iff_eq.mpr c5
   clear c5
   obtain rfl := Option.some.inj H
   go_enter Try.func156, Try.ntmps156
   go_wp2_with (first | ((with_reducible refine gate_dst (N := 2) rfl ?_); refine bx_ 2 #[.slice A0_0 l0_0.length c0_0, .int .i64 a0_1] 94 (h := ?_); intro gb208 hg w6 hbox hb; have BK208 := Aside0.mk (hbox); have GW208 := Aside0.mk ((by rw [hg]; exact (below_size bel) : w.heap.size ≤ gb208)); have GE208 := GW208; replace HB := bst hb; clear hb hbox hg) | ((with_reducible refine gate_dst (N := 3) rfl ?_); refine bx_ 3 #[.slice A1_0 l1_0.length c1_0, .int .i64 a1_1] 94 (h := ?_); intro gb209 hg w7 hbox hb; have BK209 := Aside0.mk (hbox); have GW209 := Aside0.mk ((by rw [hg]; exact (below_size bel) : w.heap.size ≤ gb209)); have GE209 := GW209; have NB208_209 := Aside0.mk ((by rw [hg]; exact Nat.ne_of_lt (blt BK208) : gb208 ≠ gb209)); have NB209_208 := Aside0.mk NB208_209.out.symm; replace BK208 := Aside0.mk (blb BK208 hb); replace HB := bst hb; clear hb hbox hg; have hnb8 := NB208_209.out; have hnc8 := NB209_208.out; obtain ⟨C9_0, C9_1, -⟩ := cells_2 BK208.out trivial; obtain ⟨F9_0, F9_1, -⟩ := frz_2 BK208.out; obtain ⟨C10_0, C10_1, -⟩ := cells_2 BK209.out trivial; obtain ⟨F10_0, F10_1, -⟩ := frz_2 BK209.out) | ((with_reducible refine gate_callee (f := 35) rfl ?_); refine gl_ (some 9) Try.func35 #[.slice A0_0 l0_0.length c0_0, .slice A1_0 l1_0.length c1_0] (h := ?_); (with_reducible refine (laws_eqByteS.calls k _ _ l0_0 _ _ l1_0 true _ ?side1 ?side2 ?side3 ?side4 A3.out).mono ?_); (case side1 => exact kcb); (case side2 => exact HC0_0.out); (case side3 => exact kcb); (case side4 => exact HC1_0.out); rintro e w' ⟨rfl, ⟨nd, rfl⟩⟩; refine ⟨_, rfl, ?_⟩))
   go_ret
   exact ⟨rz_, bel⟩
  rw [if_neg c5] at H
  have c5b0 : (a0_1 == a1_1) = false := beq_eq_false_iff_ne.mpr c5
  have c5b1 : (a0_1 != a1_1) = true := bne_iff_ne.mpr c5
  obtain rfl := Option.some.inj H
  go_enter Try.func156, Try.ntmps156
  go_wp2_with (first | ((with_reducible refine gate_dst (N := 2) rfl ?_); refine bx_ 2 #[.slice A0_0 l0_0.length c0_0, .int .i64 a0_1] 94 (h := ?_); intro gb208 hg w11 hbox hb; have BK208 := Aside0.mk (hbox); have GW208 := Aside0.mk ((by rw [hg]; exact (below_size bel) : w.heap.size ≤ gb208)); have GE208 := GW208; replace HB := bst hb; clear hb hbox hg) | ((with_reducible refine gate_dst (N := 3) rfl ?_); refine bx_ 3 #[.slice A1_0 l1_0.length c1_0, .int .i64 a1_1] 94 (h := ?_); intro gb209 hg w12 hbox hb; have BK209 := Aside0.mk (hbox); have GW209 := Aside0.mk ((by rw [hg]; exact (below_size bel) : w.heap.size ≤ gb209)); have GE209 := GW209; have NB208_209 := Aside0.mk ((by rw [hg]; exact Nat.ne_of_lt (blt BK208) : gb208 ≠ gb209)); have NB209_208 := Aside0.mk NB208_209.out.symm; replace BK208 := Aside0.mk (blb BK208 hb); replace HB := bst hb; clear hb hbox hg; have hnb13 := NB208_209.out; have hnc13 := NB209_208.out; obtain ⟨C14_0, C14_1, -⟩ := cells_2 BK208.out trivial; obtain ⟨F14_0, F14_1, -⟩ := frz_2 BK208.out; obtain ⟨C15_0, C15_1, -⟩ := cells_2 BK209.out trivial; obtain ⟨F15_0, F15_1, -⟩ := frz_2 BK209.out) | ((with_reducible refine gate_callee (f := 35) rfl ?_); refine gl_ (some 9) Try.func35 #[.slice A0_0 l0_0.length c0_0, .slice A1_0 l1_0.length c1_0] (h := ?_); (with_reducible refine (laws_eqByteS.calls k _ _ l0_0 _ _ l1_0 true _ ?side1 ?side2 ?side3 ?side4 A3.out).mono ?_); (case side1 => exact kcb); (case side2 => exact HC0_0.out); (case side3 => exact kcb); (case side4 => exact HC1_0.out); rintro e w' ⟨rfl, ⟨nd, rfl⟩⟩; refine ⟨_, rfl, ?_⟩))
  go_ret
  exact ⟨rz_, bel⟩
 replace c4 := Bool.eq_false_iff.mpr c4
 subst c4
 have H1 : (some false) = some r := by rw [if_neg (show ¬ (false = true) by decide)] at H; exact H
 clear H
 have H := H1
 clear H1
 obtain rfl := Option.some.inj H
 go_enter Try.func156, Try.ntmps156
 go_wp2_with (first | ((with_reducible refine gate_dst (N := 2) rfl ?_); refine bx_ 2 #[.slice A0_0 l0_0.length c0_0, .int .i64 a0_1] 94 (h := ?_); intro gb208 hg w16 hbox hb; have BK208 := Aside0.mk (hbox); have GW208 := Aside0.mk ((by rw [hg]; exact (below_size bel) : w.heap.size ≤ gb208)); have GE208 := GW208; replace HB := bst hb; clear hb hbox hg) | ((with_reducible refine gate_dst (N := 3) rfl ?_); refine bx_ 3 #[.slice A1_0 l1_0.length c1_0, .int .i64 a1_1] 94 (h := ?_); intro gb209 hg w17 hbox hb; have BK209 := Aside0.mk (hbox); have GW209 := Aside0.mk ((by rw [hg]; exact (below_size bel) : w.heap.size ≤ gb209)); have GE209 := GW209; have NB208_209 := Aside0.mk ((by rw [hg]; exact Nat.ne_of_lt (blt BK208) : gb208 ≠ gb209)); have NB209_208 := Aside0.mk NB208_209.out.symm; replace BK208 := Aside0.mk (blb BK208 hb); replace HB := bst hb; clear hb hbox hg; have hnb18 := NB208_209.out; have hnc18 := NB209_208.out; obtain ⟨C19_0, C19_1, -⟩ := cells_2 BK208.out trivial; obtain ⟨F19_0, F19_1, -⟩ := frz_2 BK208.out; obtain ⟨C20_0, C20_1, -⟩ := cells_2 BK209.out trivial; obtain ⟨F20_0, F20_1, -⟩ := frz_2 BK209.out) | ((with_reducible refine gate_callee (f := 35) rfl ?_); refine gl_ (some 9) Try.func35 #[.slice A0_0 l0_0.length c0_0, .slice A1_0 l1_0.length c1_0] (h := ?_); (with_reducible refine (laws_eqByteS.calls k _ _ l0_0 _ _ l1_0 false _ ?side1 ?side2 ?side3 ?side4 A3.out).mono ?_); (case side1 => exact kcb); (case side2 => exact HC0_0.out); (case side3 => exact kcb); (case side4 => exact HC1_0.out); rintro e w' ⟨rfl, ⟨nd, rfl⟩⟩; refine ⟨_, rfl, ?_⟩))
 go_ret
 exact ⟨rz_, bel⟩

/-! ### laws_eqTombS: function 88 -/
def laws_eqTombS.l0 : Nat → List (S94) → List (S94) → Int → Option (Bool)
 | 0, _, _, _ => none
 | k + 1, x0, x1, x5 => if x5 < (x0.length : Int) then (if 0 ≤ x5 then (if x5 < (x1.length : Int) then ((laws_eqTomb.f k ((rd_T94 x0 x5).f0) ((rd_T94 x0 x5).f1) ((rd_T94 x1 x5).f0) ((rd_T94 x1 x5).f1)).bind fun t213 => (if t213 = true then (laws_eqTombS.l0 k x0 x1 (wrap64 (x5 + 1))) else (some false))) else (none)) else (none)) else (some true)
def laws_eqTombS.f (k : Nat) (l0 : List (S94)) (l1 : List (S94)) : Option (Bool) := if (l0.length : Int) = (l1.length : Int) then (laws_eqTombS.l0 k l0 l1 0) else (some false)
def laws_eqTombS.T6 : Bool × List (List Nat × List Nat) := (true, [([], []), ([], []), ([0, 1], [0, 1]), ([2], [2]), ([], []), ([], []), ([4, 5], [4, 5]), ([6], [6]), ([3, 7], [3, 7]), ([8], [8])])
def laws_eqTombS.B6 : List Nat := [0, 0, 3, 7, 0, 0, 48, 112, 255, 511]
theorem laws_eqTombS.tab6 : rtab .any (opsOf Try.f88 6) = laws_eqTombS.T6 := by kernel_rfl
theorem laws_eqTombS.bits6 : waitsOk laws_eqTombS.T6.2 laws_eqTombS.B6 = true := by kernel_rfl
set_option maxHeartbeats 8000000 in
set_option maxRecDepth 100000 in
theorem laws_eqTombS.calls (k : Nat) (A0 : Option Addr) (c0 : Nat) (l0 : List (S94)) (A1 : Option Addr) (c1 : Nat) (l1 : List (S94)) (r : Bool) (w : World) (hr0 : Kd.C k94 w A0 l0.length l0) (hc0 : l0.length ≤ c0) (hr1 : Kd.C k94 w A1 l1.length l1) (hc1 : l1.length ≤ c1) (h : laws_eqTombS.f k l0 l1 = some r) :
  Calls Try.prog 88 #[.slice A0 l0.length c0, .slice A1 l1.length c1] w fun e w' => e = .returned (.bool r) ∧ Below w.heap.size w w' := by
 have hu94 := Try.underlying94
 have HR0 := Aside0.mk hr0
 have HC0 := Aside0.mk hc0
 clear hr0 hc0
 have HR1 := Aside0.mk hr1
 have HC1 := Aside0.mk hc1
 clear hr1 hc1
 have HB := Aside0.mk (Below.refl w.heap.size w)
 have H : (if (l0.length : Int) = (l1.length : Int) then (laws_eqTombS.l0 k l0 l1 0) else (some false)) = some r := h
 clear h
 by_cases c3 : (l0.length : Int) = (l1.length : Int)
 ·rw [if_pos c3] at H
  have c3b0 : ((l0.length : Int) == (l1.length : Int)) = true := beq_iff_eq.mpr c3
  have c3b1 : ((l0.length : Int) != (l1.length : Int)) = false := bne_eq_false_iff_eq.mpr c3
  have c3b2 : (l0.length == l1.length) = true := by first | simpa using c3 | (simp at c3 ⊢; omega)
  clear c3
  have H' := Aside0.mk H
  clear H
  go_enter Try.func88, Try.ntmps88
  go_wp2
  go_loopg [5] k (fun kq v5 w' => ∃ (x5_1 : Int), v5 = .int .i64 x5_1 ∧ Aside0 (laws_eqTombS.l0 kq l0 l1 x5_1 = some r) ∧ Aside0 (kq ≤ k) ∧ Aside0 (Below w.heap.size w w'))
  case atStart => exact ⟨(0), rs_, H', ⟨Nat.le_refl _⟩, ⟨bel⟩⟩
  case round =>
   clear H'
   try clear c1; try clear p2; try clear c3; try clear c3b0; try clear c3b1; try clear c3b2
   obtain ⟨x5_1, rfl, HA, HK1, HB⟩ := hrel
   cases gk with
   | zero => exact absurd HA.out (by simp [laws_eqTombS.l0])
   | succ k1 =>
    have H := HA.out
    clear HA
    simp only [laws_eqTombS.l0] at H
    by_cases c4 : x5_1 < (l0.length : Int)
    ·rw [if_pos c4] at H
     have c4b0 : decide (x5_1 < (l0.length : Int)) = true := decide_eq_true c4
     clear c4
     by_cases c5 : 0 ≤ x5_1
     ·rw [if_pos c5] at H
      have c5b0 : decide (0 ≤ x5_1) = true := decide_eq_true c5
      clear c5
      by_cases c6 : x5_1 < (l1.length : Int)
      ·rw [if_pos c6] at H
       have c6b0 : decide (x5_1 < (l1.length : Int)) = true := decide_eq_true c6
       clear c6
       replace H := Option.bind_eq_some_iff.mp H
       obtain ⟨t213, A70, H⟩ := H
       replace H : (if t213 = true then (laws_eqTombS.l0 k1 l0 l1 (wrap64 (x5_1 + 1))) else (some false)) = some r := H
       have A7 := Aside0.mk A70
       clear A70
       by_cases c8 : t213 = true
       ·subst c8
        have H1 : (laws_eqTombS.l0 k1 l0 l1 (wrap64 (x5_1 + 1))) = some r := by rw [if_pos rfl] at H; exact H
        clear H
        have H := H1
        clear H1
        have H' := Aside0.mk H
        clear H
        try go_wp2
        replace HB := Aside0.mk (below_drew1 HB.out)
        have p211 : 0 ≤ (x5_1 : Int) := od
        have q211 : x5_1 < (l0.length : Int) := od
        obtain ⟨ad211, A211_0, c211_0, e211, hx211_0, hx211_1, hl211_0, hi211_0⟩ := at_T94 HR0.out x5_1 p211 q211
        have hw211_1 := hx211_1
        have hw211_0 := hx211_0
        cases e211
        replace hx211_0 := hxb HB hx211_0
        replace hx211_1 := hxb HB hx211_1
        have HR211_0 := Aside0.mk hi211_0
        have HC211_0 := Aside0.mk hl211_0
        clear hi211_0 hl211_0
        replace p211 := eq_true p211
        replace q211 := eq_true q211
        have p212 : 0 ≤ (x5_1 : Int) := od
        have q212 : x5_1 < (l1.length : Int) := od
        obtain ⟨ad212, A212_0, c212_0, e212, hx212_0, hx212_1, hl212_0, hi212_0⟩ := at_T94 HR1.out x5_1 p212 q212
        have hw212_1 := hx212_1
        have hw212_0 := hx212_0
        cases e212
        replace hx212_0 := hxb HB hx212_0
        replace hx212_1 := hxb HB hx212_1
        have HR212_0 := Aside0.mk hi212_0
        have HC212_0 := Aside0.mk hl212_0
        clear hi212_0 hl212_0
        replace p212 := eq_true p212
        replace q212 := eq_true q212
        refine start_ (n := 10) (S := fun w' => w'.cell? (ad211.add ((x5_1).toNat * 2)) = some (.slice A211_0 ((rd_T94 l0 x5_1).f0).length c211_0) ∧ w'.cell? ⟨(ad211.add ((x5_1).toNat * 2)).block, (ad211.add ((x5_1).toNat * 2)).off + 1, none⟩ = some (.int .i64 ((rd_T94 l0 x5_1).f1)) ∧ w'.cell? (ad212.add ((x5_1).toNat * 2)) = some (.slice A212_0 ((rd_T94 l1 x5_1).f0).length c212_0) ∧ w'.cell? ⟨(ad212.add ((x5_1).toNat * 2)).block, (ad212.add ((x5_1).toNat * 2)).off + 1, none⟩ = some (.int .i64 ((rd_T94 l1 x5_1).f1))) (ds := []) (tf 0 10) (by kernel_rfl) rfl rfl ⟨(hxb HB hw211_0 :), (hxb HB hw211_1 :), (hxb HB hw212_0 :), (hxb HB hw212_1 :)⟩ (fun hHeld => ?_); refine with_tabW laws_eqTombS.tab6 laws_eqTombS.bits6 (fun HT_ HW_ => ?_)
        generalize wr.drew = w9 at HB HR211_0 HR212_0 hx211_0 hx211_1 hx212_0 hx212_1 hHeld ⊢
        iterate 3 (refine pvn_ HT_ (h := ?_))
        refine pv_ HT_ 4 (some 21) (tb 10 23) (h := ?_)
        refine pv_ HT_ 5 (some 22) (tb 10 55) (h := ?_)
        refine pv_ HT_ 6 (some 23) (tb 10 119) (h := ?_)
        refine tv_ HT_ HW_ hHeld 3 (some 20) (tf 7 3) (h := ?_)
        refine tvn_ HT_ HW_ hHeld (h := ?_)
        refine one_ (i := 8) (N := some 25) (tf 9 1) rfl rfl (one_of HT_.out (by kernel_rfl)) (by decide) (fun K hK => ?_)
        refine gs_ Try.func156 #[.agg #[.slice A211_0 ((rd_T94 l0 x5_1).f0).length c211_0, .int .i64 ((rd_T94 l0 x5_1).f1)], .agg #[.slice A212_0 ((rd_T94 l1 x5_1).f0).length c212_0, .int .i64 ((rd_T94 l1 x5_1).f1)]] (h := ?_)
        with_reducible refine (laws_eqTomb.calls k1 _ _ ((rd_T94 l0 x5_1).f0) ((rd_T94 l0 x5_1).f1) _ _ ((rd_T94 l1 x5_1).f0) ((rd_T94 l1 x5_1).f1) true _ ?side1 ?side2 ?side3 ?side4 A7.out).mono ?_
        (case side1 => exact kcb)
        (case side2 => exact HC211_0.out)
        (case side3 => exact kcb)
        (case side4 => exact HC212_0.out)
        rintro e w10 ⟨rfl, hb⟩
        refine ⟨_, rfl, ?_⟩
        replace HB := bst hb
        (try clear hb)
        (try clear hb2)
        (try clear hk)
        (try clear hi)
        refine hK.out _ _ ⟨(hxb HB hw211_0 :), (hxb HB hw211_1 :), (hxb HB hw212_0 :), (hxb HB hw212_1 :)⟩ (fun hHeld => ?_)
        clear hK K
        refine nrm_ (some 25) (h := ?_)
        refine pvn_ HT_ (h := ?_)
        refine done_ (done_of HT_.out (by kernel_rfl)) ?_
        try go_wp2
        go_roundg k1
        case measure => have := HK1.out; omega
        case rel => exact ⟨(wrap64 (x5_1 + 1)), rs_, H', ⟨by have := HK1.out; omega⟩, ⟨bel⟩⟩
       replace c8 := Bool.eq_false_iff.mpr c8
       subst c8
       have H1 : (some false) = some r := by rw [if_neg (show ¬ (false = true) by decide)] at H; exact H
       clear H
       have H := H1
       clear H1
       obtain rfl := Option.some.inj H
       try go_wp2
       replace HB := Aside0.mk (below_drew1 HB.out)
       have p211 : 0 ≤ (x5_1 : Int) := od
       have q211 : x5_1 < (l0.length : Int) := od
       obtain ⟨ad211, A211_0, c211_0, e211, hx211_0, hx211_1, hl211_0, hi211_0⟩ := at_T94 HR0.out x5_1 p211 q211
       have hw211_1 := hx211_1
       have hw211_0 := hx211_0
       cases e211
       replace hx211_0 := hxb HB hx211_0
       replace hx211_1 := hxb HB hx211_1
       have HR211_0 := Aside0.mk hi211_0
       have HC211_0 := Aside0.mk hl211_0
       clear hi211_0 hl211_0
       replace p211 := eq_true p211
       replace q211 := eq_true q211
       have p212 : 0 ≤ (x5_1 : Int) := od
       have q212 : x5_1 < (l1.length : Int) := od
       obtain ⟨ad212, A212_0, c212_0, e212, hx212_0, hx212_1, hl212_0, hi212_0⟩ := at_T94 HR1.out x5_1 p212 q212
       have hw212_1 := hx212_1
       have hw212_0 := hx212_0
       cases e212
       replace hx212_0 := hxb HB hx212_0
       replace hx212_1 := hxb HB hx212_1
       have HR212_0 := Aside0.mk hi212_0
       have HC212_0 := Aside0.mk hl212_0
       clear hi212_0 hl212_0
       replace p212 := eq_true p212
       replace q212 := eq_true q212
       refine start_ (n := 10) (S := fun w' => w'.cell? (ad211.add ((x5_1).toNat * 2)) = some (.slice A211_0 ((rd_T94 l0 x5_1).f0).length c211_0) ∧ w'.cell? ⟨(ad211.add ((x5_1).toNat * 2)).block, (ad211.add ((x5_1).toNat * 2)).off + 1, none⟩ = some (.int .i64 ((rd_T94 l0 x5_1).f1)) ∧ w'.cell? (ad212.add ((x5_1).toNat * 2)) = some (.slice A212_0 ((rd_T94 l1 x5_1).f0).length c212_0) ∧ w'.cell? ⟨(ad212.add ((x5_1).toNat * 2)).block, (ad212.add ((x5_1).toNat * 2)).off + 1, none⟩ = some (.int .i64 ((rd_T94 l1 x5_1).f1))) (ds := []) (tf 0 10) (by kernel_rfl) rfl rfl ⟨(hxb HB hw211_0 :), (hxb HB hw211_1 :), (hxb HB hw212_0 :), (hxb HB hw212_1 :)⟩ (fun hHeld => ?_); refine with_tabW laws_eqTombS.tab6 laws_eqTombS.bits6 (fun HT_ HW_ => ?_)
       generalize wr.drew = w11 at HB HR211_0 HR212_0 hx211_0 hx211_1 hx212_0 hx212_1 hHeld ⊢
       iterate 3 (refine pvn_ HT_ (h := ?_))
       refine pv_ HT_ 4 (some 21) (tb 10 23) (h := ?_)
       refine pv_ HT_ 5 (some 22) (tb 10 55) (h := ?_)
       refine pv_ HT_ 6 (some 23) (tb 10 119) (h := ?_)
       refine tv_ HT_ HW_ hHeld 3 (some 20) (tf 7 3) (h := ?_)
       refine tvn_ HT_ HW_ hHeld (h := ?_)
       refine one_ (i := 8) (N := some 25) (tf 9 1) rfl rfl (one_of HT_.out (by kernel_rfl)) (by decide) (fun K hK => ?_)
       refine gs_ Try.func156 #[.agg #[.slice A211_0 ((rd_T94 l0 x5_1).f0).length c211_0, .int .i64 ((rd_T94 l0 x5_1).f1)], .agg #[.slice A212_0 ((rd_T94 l1 x5_1).f0).length c212_0, .int .i64 ((rd_T94 l1 x5_1).f1)]] (h := ?_)
       with_reducible refine (laws_eqTomb.calls k1 _ _ ((rd_T94 l0 x5_1).f0) ((rd_T94 l0 x5_1).f1) _ _ ((rd_T94 l1 x5_1).f0) ((rd_T94 l1 x5_1).f1) false _ ?side1 ?side2 ?side3 ?side4 A7.out).mono ?_
       (case side1 => exact kcb)
       (case side2 => exact HC211_0.out)
       (case side3 => exact kcb)
       (case side4 => exact HC212_0.out)
       rintro e w12 ⟨rfl, hb⟩
       refine ⟨_, rfl, ?_⟩
       replace HB := bst hb
       (try clear hb)
       (try clear hb2)
       (try clear hk)
       (try clear hi)
       refine hK.out _ _ ⟨(hxb HB hw211_0 :), (hxb HB hw211_1 :), (hxb HB hw212_0 :), (hxb HB hw212_1 :)⟩ (fun hHeld => ?_)
       clear hK K
       refine nrm_ (some 25) (h := ?_)
       refine pvn_ HT_ (h := ?_)
       refine done_ (done_of HT_.out (by kernel_rfl)) ?_
       try go_wp2
       go_ret
       exact ⟨rz_, bel⟩
      rw [if_neg c6] at H
      exact absurd H (by simp)
     rw [if_neg c5] at H
     exact absurd H (by simp)
    rw [if_neg c4] at H
    have c4b0 : decide (x5_1 < (l0.length : Int)) = false := decide_eq_false c4
    clear c4
    obtain rfl := Option.some.inj H
    go_wp2
    go_ret
    exact ⟨rz_, bel⟩
 rw [if_neg c3] at H
 have c3b0 : ((l0.length : Int) == (l1.length : Int)) = false := beq_eq_false_iff_ne.mpr c3
 have c3b1 : ((l0.length : Int) != (l1.length : Int)) = true := bne_iff_ne.mpr c3
 have c3b2 : (l0.length == l1.length) = false := by first | simpa using c3 | (simp at c3 ⊢; omega)
 obtain rfl := Option.some.inj H
 go_enter Try.func88, Try.ntmps88
 go_wp2
 go_ret
 exact ⟨rz_, bel⟩

/-! ### laws_eqSession: function 157 -/
def laws_eqSession.f (a0_0 : Int) (a0_1 : Bool) (a1_0 : Int) (a1_1 : Bool) : Option (Bool) := if a0_0 = a1_0 then (if (a0_1 != a1_1) = true then (some false) else (some true)) else (some false)
set_option maxHeartbeats 8000000 in
set_option maxRecDepth 100000 in
theorem laws_eqSession.calls (a0_0 : Int) (a0_1 : Bool) (a1_0 : Int) (a1_1 : Bool) (r : Bool) (w : World) (h : laws_eqSession.f a0_0 a0_1 a1_0 a1_1 = some r) :
  Calls Try.prog 157 #[.agg #[.int .i64 a0_0, .bool a0_1], .agg #[.int .i64 a1_0, .bool a1_1]] w fun e w' => e = .returned (.bool r) ∧ Below w.heap.size w w' := by
 have hu109 := Try.underlying109
 have HB := Aside0.mk (Below.refl w.heap.size w)
 have H : (if a0_0 = a1_0 then (if (a0_1 != a1_1) = true then (some false) else (some true)) else (some false)) = some r := h
 clear h
 by_cases c3 : a0_0 = a1_0
 ·rw [if_pos c3] at H
  have c3b0 : (a0_0 == a1_0) = true := beq_iff_eq.mpr c3
  have c3b1 : (a0_0 != a1_0) = false := bne_eq_false_iff_eq.mpr c3
  clear c3
  by_cases c4 : (a0_1 != a1_1) = true
  ·rw [if_pos c4] at H
   have c4b0 : (a0_1 != a1_1) = true := c4
   (try (have c4b1 : decide (a0_1 = a1_1) = false := by simpa using c4))
   (try (have c4b2 : (a0_1 == a1_1) = false := by simpa using c4))
   (try (have c4b3 : ¬ (a0_1 = a1_1) := by simpa using c4))
   clear c4
   obtain rfl := Option.some.inj H
   go_enter Try.func157, Try.ntmps157
   go_wp2_with (first | ((with_reducible refine gate_dst (N := 2) rfl ?_); refine bx_ 2 #[.int .i64 a0_0, .bool a0_1] 109 (h := ?_); intro gb214 hg w5 hbox hb; have BK214 := Aside0.mk (hbox); have GW214 := Aside0.mk ((by rw [hg]; exact (below_size bel) : w.heap.size ≤ gb214)); have GE214 := GW214; replace HB := bst hb; clear hb hbox hg) | ((with_reducible refine gate_dst (N := 3) rfl ?_); refine bx_ 3 #[.int .i64 a1_0, .bool a1_1] 109 (h := ?_); intro gb215 hg w6 hbox hb; have BK215 := Aside0.mk (hbox); have GW215 := Aside0.mk ((by rw [hg]; exact (below_size bel) : w.heap.size ≤ gb215)); have GE215 := GW215; have NB214_215 := Aside0.mk ((by rw [hg]; exact Nat.ne_of_lt (blt BK214) : gb214 ≠ gb215)); have NB215_214 := Aside0.mk NB214_215.out.symm; replace BK214 := Aside0.mk (blb BK214 hb); replace HB := bst hb; clear hb hbox hg; have hnb7 := NB214_215.out; have hnc7 := NB215_214.out; obtain ⟨C8_0, C8_1, -⟩ := cells_2 BK214.out trivial; obtain ⟨F8_0, F8_1, -⟩ := frz_2 BK214.out; obtain ⟨C9_0, C9_1, -⟩ := cells_2 BK215.out trivial; obtain ⟨F9_0, F9_1, -⟩ := frz_2 BK215.out))
   go_ret
   exact ⟨rz_, bel⟩
  rw [if_neg c4] at H
  have c4b0 : (a0_1 != a1_1) = false := by simpa using c4
  (try (have c4b1 : decide (a0_1 = a1_1) = true := by simpa using c4))
  (try (have c4b2 : (a0_1 == a1_1) = true := by simpa using c4))
  clear c4
  obtain rfl := Option.some.inj H
  go_enter Try.func157, Try.ntmps157
  go_wp2_with (first | ((with_reducible refine gate_dst (N := 2) rfl ?_); refine bx_ 2 #[.int .i64 a0_0, .bool a0_1] 109 (h := ?_); intro gb214 hg w10 hbox hb; have BK214 := Aside0.mk (hbox); have GW214 := Aside0.mk ((by rw [hg]; exact (below_size bel) : w.heap.size ≤ gb214)); have GE214 := GW214; replace HB := bst hb; clear hb hbox hg) | ((with_reducible refine gate_dst (N := 3) rfl ?_); refine bx_ 3 #[.int .i64 a1_0, .bool a1_1] 109 (h := ?_); intro gb215 hg w11 hbox hb; have BK215 := Aside0.mk (hbox); have GW215 := Aside0.mk ((by rw [hg]; exact (below_size bel) : w.heap.size ≤ gb215)); have GE215 := GW215; have NB214_215 := Aside0.mk ((by rw [hg]; exact Nat.ne_of_lt (blt BK214) : gb214 ≠ gb215)); have NB215_214 := Aside0.mk NB214_215.out.symm; replace BK214 := Aside0.mk (blb BK214 hb); replace HB := bst hb; clear hb hbox hg; have hnb12 := NB214_215.out; have hnc12 := NB215_214.out; obtain ⟨C13_0, C13_1, -⟩ := cells_2 BK214.out trivial; obtain ⟨F13_0, F13_1, -⟩ := frz_2 BK214.out; obtain ⟨C14_0, C14_1, -⟩ := cells_2 BK215.out trivial; obtain ⟨F14_0, F14_1, -⟩ := frz_2 BK215.out))
  go_ret
  exact ⟨rz_, bel⟩
 rw [if_neg c3] at H
 have c3b0 : (a0_0 == a1_0) = false := beq_eq_false_iff_ne.mpr c3
 have c3b1 : (a0_0 != a1_0) = true := bne_iff_ne.mpr c3
 obtain rfl := Option.some.inj H
 go_enter Try.func157, Try.ntmps157
 go_wp2_with (first | ((with_reducible refine gate_dst (N := 2) rfl ?_); refine bx_ 2 #[.int .i64 a0_0, .bool a0_1] 109 (h := ?_); intro gb214 hg w15 hbox hb; have BK214 := Aside0.mk (hbox); have GW214 := Aside0.mk ((by rw [hg]; exact (below_size bel) : w.heap.size ≤ gb214)); have GE214 := GW214; replace HB := bst hb; clear hb hbox hg) | ((with_reducible refine gate_dst (N := 3) rfl ?_); refine bx_ 3 #[.int .i64 a1_0, .bool a1_1] 109 (h := ?_); intro gb215 hg w16 hbox hb; have BK215 := Aside0.mk (hbox); have GW215 := Aside0.mk ((by rw [hg]; exact (below_size bel) : w.heap.size ≤ gb215)); have GE215 := GW215; have NB214_215 := Aside0.mk ((by rw [hg]; exact Nat.ne_of_lt (blt BK214) : gb214 ≠ gb215)); have NB215_214 := Aside0.mk NB214_215.out.symm; replace BK214 := Aside0.mk (blb BK214 hb); replace HB := bst hb; clear hb hbox hg; have hnb17 := NB214_215.out; have hnc17 := NB215_214.out; obtain ⟨C18_0, C18_1, -⟩ := cells_2 BK214.out trivial; obtain ⟨F18_0, F18_1, -⟩ := frz_2 BK214.out; obtain ⟨C19_0, C19_1, -⟩ := cells_2 BK215.out trivial; obtain ⟨F19_0, F19_1, -⟩ := frz_2 BK215.out))
 go_ret
 exact ⟨rz_, bel⟩

end Go.Proofs.Ytdgegnakiljfjaa.PT
