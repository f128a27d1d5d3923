-- Written for this claim by the session's program pp.py, out of the kit's print and the seat's translation.
import Derived.Test.YtdgegnakiljfjaaPAx0
import Derived.Test.YtdgegnakiljfjaaPAx7
namespace Go.Proofs.Ytdgegnakiljfjaa.PA
open Go.RowKit Go.Proofs.YtdgegnakiljfjaaW.PrintWords Go.Proofs.YtdgegnakiljfjaaW.PrintLast Go.Proofs.YtdgegnakiljfjaaW.PrintMore
attribute [local go_sem] max2_int min2_int max_two min_two max_three min_three max_four min_four   -- for this text's walks alone
set_option linter.unusedVariables false
set_option linter.unusedSimpArgs false

/-! ### laws_eqSession: function 157 -/
def laws_eqSession.f (a0_0 : Int) (a0_1 : Bool) (a1_0 : Int) (a1_1 : Bool) : Option (Bool) := if a0_0 = a1_0 then (if (a0_1 != a1_1) = true then (some false) else (some true)) else (some false)
set_option maxHeartbeats 8000000 in
set_option maxRecDepth 100000 in
theorem laws_eqSession.calls (a0_0 : Int) (a0_1 : Bool) (a1_0 : Int) (a1_1 : Bool) (r : Bool) (w : World) (h : laws_eqSession.f a0_0 a0_1 a1_0 a1_1 = some r) :
  Calls Try.prog 157 #[.agg #[.int .i64 a0_0, .bool a0_1], .agg #[.int .i64 a1_0, .bool a1_1]] w fun e w' => e = .returned (.bool r) ∧ Below w.heap.size w w' := by
 have hu109 := Try.underlying109
 have HB := Aside0.mk (Below.refl w.heap.size w)
 have H : (if a0_0 = a1_0 then (if (a0_1 != a1_1) = true then (some false) else (some true)) else (some false)) = some r := h
 clear h
 by_cases c3 : a0_0 = a1_0
 ·rw [if_pos c3] at H
  have c3b0 : (a0_0 == a1_0) = true := beq_iff_eq.mpr c3
  have c3b1 : (a0_0 != a1_0) = false := bne_eq_false_iff_eq.mpr c3
  clear c3
  by_cases c4 : (a0_1 != a1_1) = true
  ·rw [if_pos c4] at H
   have c4b0 : (a0_1 != a1_1) = true := c4
   (try (have c4b1 : decide (a0_1 = a1_1) = false := by simpa using c4))
   (try (have c4b2 : (a0_1 == a1_1) = false := by simpa using c4))
   (try (have c4b3 : ¬ (a0_1 = a1_1) := by simpa using c4))
   clear c4
   obtain rfl := Option.some.inj H
   go_enter Try.func157, Try.ntmps157
   go_wp2_with (first | ((with_reducible refine gate_dst (N := 2) rfl ?_); refine bx_ 2 #[.int .i64 a0_0, .bool a0_1] 109 (h := ?_); intro gb288 hg w5 hbox hb; have BK288 := Aside0.mk (hbox); have GW288 := Aside0.mk ((by rw [hg]; exact (below_size bel) : w.heap.size ≤ gb288)); have GE288 := GW288; replace HB := Aside0.mk (below_step bel hb); clear hb hbox hg) | ((with_reducible refine gate_dst (N := 3) rfl ?_); refine bx_ 3 #[.int .i64 a1_0, .bool a1_1] 109 (h := ?_); intro gb289 hg w6 hbox hb; have BK289 := Aside0.mk (hbox); have GW289 := Aside0.mk ((by rw [hg]; exact (below_size bel) : w.heap.size ≤ gb289)); have GE289 := GW289; have NB288_289 := Aside0.mk ((by rw [hg]; exact Nat.ne_of_lt (blt BK288) : gb288 ≠ gb289)); have NB289_288 := Aside0.mk NB288_289.out.symm; replace BK288 := Aside0.mk (blb BK288 hb); replace HB := Aside0.mk (below_step bel hb); clear hb hbox hg; have hnb7 := NB288_289.out; have hnc7 := NB289_288.out; obtain ⟨hcz8_0, hcz8_1, -⟩ := cells_2 BK288.out trivial; obtain ⟨hfz8_0, hfz8_1, -⟩ := frz_2 BK288.out; obtain ⟨hcz9_0, hcz9_1, -⟩ := cells_2 BK289.out trivial; obtain ⟨hfz9_0, hfz9_1, -⟩ := frz_2 BK289.out))
   go_ret
   exact ⟨rz_, bel⟩
  rw [if_neg c4] at H
  have c4b0 : (a0_1 != a1_1) = false := by simpa using c4
  (try (have c4b1 : decide (a0_1 = a1_1) = true := by simpa using c4))
  (try (have c4b2 : (a0_1 == a1_1) = true := by simpa using c4))
  clear c4
  obtain rfl := Option.some.inj H
  go_enter Try.func157, Try.ntmps157
  go_wp2_with (first | ((with_reducible refine gate_dst (N := 2) rfl ?_); refine bx_ 2 #[.int .i64 a0_0, .bool a0_1] 109 (h := ?_); intro gb288 hg w10 hbox hb; have BK288 := Aside0.mk (hbox); have GW288 := Aside0.mk ((by rw [hg]; exact (below_size bel) : w.heap.size ≤ gb288)); have GE288 := GW288; replace HB := Aside0.mk (below_step bel hb); clear hb hbox hg) | ((with_reducible refine gate_dst (N := 3) rfl ?_); refine bx_ 3 #[.int .i64 a1_0, .bool a1_1] 109 (h := ?_); intro gb289 hg w11 hbox hb; have BK289 := Aside0.mk (hbox); have GW289 := Aside0.mk ((by rw [hg]; exact (below_size bel) : w.heap.size ≤ gb289)); have GE289 := GW289; have NB288_289 := Aside0.mk ((by rw [hg]; exact Nat.ne_of_lt (blt BK288) : gb288 ≠ gb289)); have NB289_288 := Aside0.mk NB288_289.out.symm; replace BK288 := Aside0.mk (blb BK288 hb); replace HB := Aside0.mk (below_step bel hb); clear hb hbox hg; have hnb12 := NB288_289.out; have hnc12 := NB289_288.out; obtain ⟨hcz13_0, hcz13_1, -⟩ := cells_2 BK288.out trivial; obtain ⟨hfz13_0, hfz13_1, -⟩ := frz_2 BK288.out; obtain ⟨hcz14_0, hcz14_1, -⟩ := cells_2 BK289.out trivial; obtain ⟨hfz14_0, hfz14_1, -⟩ := frz_2 BK289.out))
  go_ret
  exact ⟨rz_, bel⟩
 rw [if_neg c3] at H
 have c3b0 : (a0_0 == a1_0) = false := beq_eq_false_iff_ne.mpr c3
 have c3b1 : (a0_0 != a1_0) = true := bne_iff_ne.mpr c3
 obtain rfl := Option.some.inj H
 go_enter Try.func157, Try.ntmps157
 go_wp2_with (first | ((with_reducible refine gate_dst (N := 2) rfl ?_); refine bx_ 2 #[.int .i64 a0_0, .bool a0_1] 109 (h := ?_); intro gb288 hg w15 hbox hb; have BK288 := Aside0.mk (hbox); have GW288 := Aside0.mk ((by rw [hg]; exact (below_size bel) : w.heap.size ≤ gb288)); have GE288 := GW288; replace HB := Aside0.mk (below_step bel hb); clear hb hbox hg) | ((with_reducible refine gate_dst (N := 3) rfl ?_); refine bx_ 3 #[.int .i64 a1_0, .bool a1_1] 109 (h := ?_); intro gb289 hg w16 hbox hb; have BK289 := Aside0.mk (hbox); have GW289 := Aside0.mk ((by rw [hg]; exact (below_size bel) : w.heap.size ≤ gb289)); have GE289 := GW289; have NB288_289 := Aside0.mk ((by rw [hg]; exact Nat.ne_of_lt (blt BK288) : gb288 ≠ gb289)); have NB289_288 := Aside0.mk NB288_289.out.symm; replace BK288 := Aside0.mk (blb BK288 hb); replace HB := Aside0.mk (below_step bel hb); clear hb hbox hg; have hnb17 := NB288_289.out; have hnc17 := NB289_288.out; obtain ⟨hcz18_0, hcz18_1, -⟩ := cells_2 BK288.out trivial; obtain ⟨hfz18_0, hfz18_1, -⟩ := frz_2 BK288.out; obtain ⟨hcz19_0, hcz19_1, -⟩ := cells_2 BK289.out trivial; obtain ⟨hfz19_0, hfz19_1, -⟩ := frz_2 BK289.out))
 go_ret
 exact ⟨rz_, bel⟩

/-! ### laws_eqSessionS: function 89 -/
def laws_eqSessionS.l0 : Nat → List (S109) → List (S109) → Int → Option (Bool)
 | 0, _, _, _ => none
 | k + 1, x0, x1, x5 => if x5 < (x0.length : Int) then (if 0 ≤ x5 then (if x5 < (x1.length : Int) then ((laws_eqSession.f ((rd_T109 x0 x5).f0) ((rd_T109 x0 x5).f1) ((rd_T109 x1 x5).f0) ((rd_T109 x1 x5).f1)).bind fun t292 => (if t292 = true then (laws_eqSessionS.l0 k x0 x1 (wrap64 (x5 + 1))) else (some false))) else (none)) else (none)) else (some true)
def laws_eqSessionS.f (k : Nat) (l0 : List (S109)) (l1 : List (S109)) : Option (Bool) := if (l0.length : Int) = (l1.length : Int) then (laws_eqSessionS.l0 k l0 l1 0) else (some false)
def laws_eqSessionS.T6 : Bool × List (List Nat × List Nat) := (true, [([], []), ([], []), ([0, 1], [0, 1]), ([2], [2]), ([], []), ([], []), ([4, 5], [4, 5]), ([6], [6]), ([3, 7], [3, 7]), ([8], [8])])
def laws_eqSessionS.B6 : List Nat := [0, 0, 3, 7, 0, 0, 48, 112, 255, 511]
theorem laws_eqSessionS.tab6 : rtab .any (opsOf Try.f89 6) = laws_eqSessionS.T6 := by kernel_rfl
theorem laws_eqSessionS.bits6 : waitsOk laws_eqSessionS.T6.2 laws_eqSessionS.B6 = true := by kernel_rfl
set_option maxHeartbeats 8000000 in
set_option maxRecDepth 100000 in
theorem laws_eqSessionS.calls (k : Nat) (A0 : Option Addr) (c0 : Nat) (l0 : List (S109)) (A1 : Option Addr) (c1 : Nat) (l1 : List (S109)) (r : Bool) (w : World) (hr0 : Kd.C k109 w A0 l0.length l0) (hc0 : l0.length ≤ c0) (hr1 : Kd.C k109 w A1 l1.length l1) (hc1 : l1.length ≤ c1) (h : laws_eqSessionS.f k l0 l1 = some r) :
  Calls Try.prog 89 #[.slice A0 l0.length c0, .slice A1 l1.length c1] w fun e w' => e = .returned (.bool r) ∧ Below w.heap.size w w' := by
 have hu109 := Try.underlying109
 have HR0 := Aside0.mk hr0
 have HC0 := Aside0.mk hc0
 clear hr0 hc0
 have HR1 := Aside0.mk hr1
 have HC1 := Aside0.mk hc1
 clear hr1 hc1
 have HB := Aside0.mk (Below.refl w.heap.size w)
 have H : (if (l0.length : Int) = (l1.length : Int) then (laws_eqSessionS.l0 k l0 l1 0) else (some false)) = some r := h
 clear h
 by_cases c3 : (l0.length : Int) = (l1.length : Int)
 ·rw [if_pos c3] at H
  have c3b0 : ((l0.length : Int) == (l1.length : Int)) = true := beq_iff_eq.mpr c3
  have c3b1 : ((l0.length : Int) != (l1.length : Int)) = false := bne_eq_false_iff_eq.mpr c3
  have c3b2 : (l0.length == l1.length) = true := by first | simpa using c3 | (simp at c3 ⊢; omega)
  clear c3
  have H' := Aside0.mk H
  clear H
  go_enter Try.func89, Try.ntmps89
  go_wp2
  go_loopg [5] k (fun kq v5 w' => ∃ (x5_1 : Int), v5 = .int .i64 x5_1 ∧ Aside0 (laws_eqSessionS.l0 kq l0 l1 x5_1 = some r) ∧ Aside0 (kq ≤ k) ∧ Aside0 (Below w.heap.size w w'))
  case atStart => exact ⟨(0), rs_, H', ⟨Nat.le_refl _⟩, ⟨bel⟩⟩
  case round =>
   clear H'
   try clear c1; try clear p2; try clear c3; try clear c3b0; try clear c3b1; try clear c3b2
   obtain ⟨x5_1, rfl, HA, HK1, HB⟩ := hrel
   cases gk with
   | zero => exact absurd HA.out (by simp [laws_eqSessionS.l0])
   | succ k1 =>
    have H := HA.out
    clear HA
    simp only [laws_eqSessionS.l0] at H
    by_cases c4 : x5_1 < (l0.length : Int)
    ·rw [if_pos c4] at H
     have c4b0 : decide (x5_1 < (l0.length : Int)) = true := decide_eq_true c4
     clear c4
     by_cases c5 : 0 ≤ x5_1
     ·rw [if_pos c5] at H
      have c5b0 : decide (0 ≤ x5_1) = true := decide_eq_true c5
      clear c5
      by_cases c6 : x5_1 < (l1.length : Int)
      ·rw [if_pos c6] at H
       have c6b0 : decide (x5_1 < (l1.length : Int)) = true := decide_eq_true c6
       clear c6
       replace H := Option.bind_eq_some_iff.mp H
       obtain ⟨t292, A70, H⟩ := H
       replace H : (if t292 = true then (laws_eqSessionS.l0 k1 l0 l1 (wrap64 (x5_1 + 1))) else (some false)) = some r := H
       have A7 := Aside0.mk A70
       clear A70
       by_cases c8 : t292 = true
       ·subst c8
        have H1 : (laws_eqSessionS.l0 k1 l0 l1 (wrap64 (x5_1 + 1))) = some r := by rw [if_pos rfl] at H; exact H
        clear H
        have H := H1
        clear H1
        have H' := Aside0.mk H
        clear H
        try go_wp2
        replace HB := Aside0.mk (below_drew1 HB.out)
        have p290 : 0 ≤ (x5_1 : Int) := od
        have q290 : x5_1 < (l0.length : Int) := od
        obtain ⟨ad290, e290, hx290_0, hx290_1⟩ := at_T109 HR0.out x5_1 p290 q290
        have hw290_1 := hx290_1
        have hw290_0 := hx290_0
        cases e290
        replace hx290_0 := hxb HB hx290_0
        replace hx290_1 := hxb HB hx290_1
        replace p290 := eq_true p290
        replace q290 := eq_true q290
        have p291 : 0 ≤ (x5_1 : Int) := od
        have q291 : x5_1 < (l1.length : Int) := od
        obtain ⟨ad291, e291, hx291_0, hx291_1⟩ := at_T109 HR1.out x5_1 p291 q291
        have hw291_1 := hx291_1
        have hw291_0 := hx291_0
        cases e291
        replace hx291_0 := hxb HB hx291_0
        replace hx291_1 := hxb HB hx291_1
        replace p291 := eq_true p291
        replace q291 := eq_true q291
        refine start_ (n := 10) (S := fun w' => w'.cell? (ad290.add ((x5_1).toNat * 2)) = some (.int .i64 ((rd_T109 l0 x5_1).f0)) ∧ w'.cell? ⟨(ad290.add ((x5_1).toNat * 2)).block, (ad290.add ((x5_1).toNat * 2)).off + 1, none⟩ = some (.bool ((rd_T109 l0 x5_1).f1)) ∧ w'.cell? (ad291.add ((x5_1).toNat * 2)) = some (.int .i64 ((rd_T109 l1 x5_1).f0)) ∧ w'.cell? ⟨(ad291.add ((x5_1).toNat * 2)).block, (ad291.add ((x5_1).toNat * 2)).off + 1, none⟩ = some (.bool ((rd_T109 l1 x5_1).f1))) (ds := []) (tf 0 10) (by kernel_rfl) rfl rfl ⟨(hxb HB hw290_0 :), (hxb HB hw290_1 :), (hxb HB hw291_0 :), (hxb HB hw291_1 :)⟩ (fun hHeld => ?_); refine with_tabW laws_eqSessionS.tab6 laws_eqSessionS.bits6 (fun HT_ HW_ => ?_)
        generalize wr.drew = w9 at HB hx290_0 hx290_1 hx291_0 hx291_1 hHeld ⊢
        iterate 3 (refine pvn_ HT_ (h := ?_))
        refine pv_ HT_ 4 (some 21) (tb 10 23) (h := ?_)
        refine pv_ HT_ 5 (some 22) (tb 10 55) (h := ?_)
        refine pv_ HT_ 6 (some 23) (tb 10 119) (h := ?_)
        refine tv_ HT_ HW_ hHeld 3 (some 20) (tf 7 3) (h := ?_)
        refine tvn_ HT_ HW_ hHeld (h := ?_)
        refine one_ (i := 8) (N := some 25) (tf 9 1) rfl rfl (one_of HT_.out (by kernel_rfl)) (by decide) (fun K hK => ?_)
        refine gs_ Try.func157 #[.agg #[.int .i64 ((rd_T109 l0 x5_1).f0), .bool ((rd_T109 l0 x5_1).f1)], .agg #[.int .i64 ((rd_T109 l1 x5_1).f0), .bool ((rd_T109 l1 x5_1).f1)]] (h := ?_)
        with_reducible refine (laws_eqSession.calls ((rd_T109 l0 x5_1).f0) ((rd_T109 l0 x5_1).f1) ((rd_T109 l1 x5_1).f0) ((rd_T109 l1 x5_1).f1) true _ A7.out).mono ?_
        rintro e w10 ⟨rfl, hb⟩
        refine ⟨_, rfl, ?_⟩
        replace HB := Aside0.mk (below_step bel hb)
        (try clear hb)
        (try clear hb2)
        (try clear hk)
        (try clear hi)
        refine hK.out _ _ ⟨(hxb HB hw290_0 :), (hxb HB hw290_1 :), (hxb HB hw291_0 :), (hxb HB hw291_1 :)⟩ (fun hHeld => ?_)
        clear hK K
        refine nrm_ (some 25) (h := ?_)
        refine pvn_ HT_ (h := ?_)
        refine done_ (done_of HT_.out (by kernel_rfl)) ?_
        try go_wp2
        go_roundg k1
        case measure => have := HK1.out; omega
        case rel => exact ⟨(wrap64 (x5_1 + 1)), rs_, H', ⟨by have := HK1.out; omega⟩, ⟨bel⟩⟩
       replace c8 := Bool.eq_false_iff.mpr c8
       subst c8
       have H1 : (some false) = some r := by rw [if_neg (show ¬ (false = true) by decide)] at H; exact H
       clear H
       have H := H1
       clear H1
       obtain rfl := Option.some.inj H
       try go_wp2
       replace HB := Aside0.mk (below_drew1 HB.out)
       have p290 : 0 ≤ (x5_1 : Int) := od
       have q290 : x5_1 < (l0.length : Int) := od
       obtain ⟨ad290, e290, hx290_0, hx290_1⟩ := at_T109 HR0.out x5_1 p290 q290
       have hw290_1 := hx290_1
       have hw290_0 := hx290_0
       cases e290
       replace hx290_0 := hxb HB hx290_0
       replace hx290_1 := hxb HB hx290_1
       replace p290 := eq_true p290
       replace q290 := eq_true q290
       have p291 : 0 ≤ (x5_1 : Int) := od
       have q291 : x5_1 < (l1.length : Int) := od
       obtain ⟨ad291, e291, hx291_0, hx291_1⟩ := at_T109 HR1.out x5_1 p291 q291
       have hw291_1 := hx291_1
       have hw291_0 := hx291_0
       cases e291
       replace hx291_0 := hxb HB hx291_0
       replace hx291_1 := hxb HB hx291_1
       replace p291 := eq_true p291
       replace q291 := eq_true q291
       refine start_ (n := 10) (S := fun w' => w'.cell? (ad290.add ((x5_1).toNat * 2)) = some (.int .i64 ((rd_T109 l0 x5_1).f0)) ∧ w'.cell? ⟨(ad290.add ((x5_1).toNat * 2)).block, (ad290.add ((x5_1).toNat * 2)).off + 1, none⟩ = some (.bool ((rd_T109 l0 x5_1).f1)) ∧ w'.cell? (ad291.add ((x5_1).toNat * 2)) = some (.int .i64 ((rd_T109 l1 x5_1).f0)) ∧ w'.cell? ⟨(ad291.add ((x5_1).toNat * 2)).block, (ad291.add ((x5_1).toNat * 2)).off + 1, none⟩ = some (.bool ((rd_T109 l1 x5_1).f1))) (ds := []) (tf 0 10) (by kernel_rfl) rfl rfl ⟨(hxb HB hw290_0 :), (hxb HB hw290_1 :), (hxb HB hw291_0 :), (hxb HB hw291_1 :)⟩ (fun hHeld => ?_); refine with_tabW laws_eqSessionS.tab6 laws_eqSessionS.bits6 (fun HT_ HW_ => ?_)
       generalize wr.drew = w11 at HB hx290_0 hx290_1 hx291_0 hx291_1 hHeld ⊢
       iterate 3 (refine pvn_ HT_ (h := ?_))
       refine pv_ HT_ 4 (some 21) (tb 10 23) (h := ?_)
       refine pv_ HT_ 5 (some 22) (tb 10 55) (h := ?_)
       refine pv_ HT_ 6 (some 23) (tb 10 119) (h := ?_)
       refine tv_ HT_ HW_ hHeld 3 (some 20) (tf 7 3) (h := ?_)
       refine tvn_ HT_ HW_ hHeld (h := ?_)
       refine one_ (i := 8) (N := some 25) (tf 9 1) rfl rfl (one_of HT_.out (by kernel_rfl)) (by decide) (fun K hK => ?_)
       refine gs_ Try.func157 #[.agg #[.int .i64 ((rd_T109 l0 x5_1).f0), .bool ((rd_T109 l0 x5_1).f1)], .agg #[.int .i64 ((rd_T109 l1 x5_1).f0), .bool ((rd_T109 l1 x5_1).f1)]] (h := ?_)
       with_reducible refine (laws_eqSession.calls ((rd_T109 l0 x5_1).f0) ((rd_T109 l0 x5_1).f1) ((rd_T109 l1 x5_1).f0) ((rd_T109 l1 x5_1).f1) false _ A7.out).mono ?_
       rintro e w12 ⟨rfl, hb⟩
       refine ⟨_, rfl, ?_⟩
       replace HB := Aside0.mk (below_step bel hb)
       (try clear hb)
       (try clear hb2)
       (try clear hk)
       (try clear hi)
       refine hK.out _ _ ⟨(hxb HB hw290_0 :), (hxb HB hw290_1 :), (hxb HB hw291_0 :), (hxb HB hw291_1 :)⟩ (fun hHeld => ?_)
       clear hK K
       refine nrm_ (some 25) (h := ?_)
       refine pvn_ HT_ (h := ?_)
       refine done_ (done_of HT_.out (by kernel_rfl)) ?_
       try go_wp2
       go_ret
       exact ⟨rz_, bel⟩
      rw [if_neg c6] at H
      exact absurd H (by simp)
     rw [if_neg c5] at H
     exact absurd H (by simp)
    rw [if_neg c4] at H
    have c4b0 : decide (x5_1 < (l0.length : Int)) = false := decide_eq_false c4
    clear c4
    obtain rfl := Option.some.inj H
    go_wp2
    go_ret
    exact ⟨rz_, bel⟩
 rw [if_neg c3] at H
 have c3b0 : ((l0.length : Int) == (l1.length : Int)) = false := beq_eq_false_iff_ne.mpr c3
 have c3b1 : ((l0.length : Int) != (l1.length : Int)) = true := bne_iff_ne.mpr c3
 have c3b2 : (l0.length == l1.length) = false := by first | simpa using c3 | (simp at c3 ⊢; omega)
 obtain rfl := Option.some.inj H
 go_enter Try.func89, Try.ntmps89
 go_wp2
 go_ret
 exact ⟨rz_, bel⟩

/-! ### laws_eqReply: function 122 -/
def laws_eqReply.f (a0_0 : Int) (a0_1 : Int) (a1_0 : Int) (a1_1 : Int) : Option (Bool) := if a0_0 = a1_0 then (if a0_1 = a1_1 then (some true) else (some false)) else (some false)
set_option maxHeartbeats 8000000 in
set_option maxRecDepth 100000 in
theorem laws_eqReply.calls (a0_0 : Int) (a0_1 : Int) (a1_0 : Int) (a1_1 : Int) (r : Bool) (w : World) (h : laws_eqReply.f a0_0 a0_1 a1_0 a1_1 = some r) :
  Calls Try.prog 122 #[.agg #[.int .i64 a0_0, .int .i64 a0_1], .agg #[.int .i64 a1_0, .int .i64 a1_1]] w fun e w' => e = .returned (.bool r) ∧ Below w.heap.size w w' := by
 have hu73 := Try.underlying73
 have HB := Aside0.mk (Below.refl w.heap.size w)
 have H : (if a0_0 = a1_0 then (if a0_1 = a1_1 then (some true) else (some false)) else (some false)) = some r := h
 clear h
 by_cases c3 : a0_0 = a1_0
 ·rw [if_pos c3] at H
  have c3b0 : (a0_0 == a1_0) = true := beq_iff_eq.mpr c3
  have c3b1 : (a0_0 != a1_0) = false := bne_eq_false_iff_eq.mpr c3
  clear c3
  by_cases c4 : a0_1 = a1_1
  ·rw [if_pos c4] at H
   have c4b0 : (a0_1 == a1_1) = true := beq_iff_eq.mpr c4
   have c4b1 : (a0_1 != a1_1) = false := bne_eq_false_iff_eq.mpr c4
   clear c4
   obtain rfl := Option.some.inj H
   go_enter Try.func122, Try.ntmps122
   go_wp2_with (first | ((with_reducible refine gate_dst (N := 2) rfl ?_); refine bx_ 2 #[.int .i64 a0_0, .int .i64 a0_1] 73 (h := ?_); intro gb293 hg w5 hbox hb; have BK293 := Aside0.mk (hbox); have GW293 := Aside0.mk ((by rw [hg]; exact (below_size bel) : w.heap.size ≤ gb293)); have GE293 := GW293; replace HB := Aside0.mk (below_step bel hb); clear hb hbox hg) | ((with_reducible refine gate_dst (N := 3) rfl ?_); refine bx_ 3 #[.int .i64 a1_0, .int .i64 a1_1] 73 (h := ?_); intro gb294 hg w6 hbox hb; have BK294 := Aside0.mk (hbox); have GW294 := Aside0.mk ((by rw [hg]; exact (below_size bel) : w.heap.size ≤ gb294)); have GE294 := GW294; have NB293_294 := Aside0.mk ((by rw [hg]; exact Nat.ne_of_lt (blt BK293) : gb293 ≠ gb294)); have NB294_293 := Aside0.mk NB293_294.out.symm; replace BK293 := Aside0.mk (blb BK293 hb); replace HB := Aside0.mk (below_step bel hb); clear hb hbox hg; have hnb7 := NB293_294.out; have hnc7 := NB294_293.out; obtain ⟨hcz8_0, hcz8_1, -⟩ := cells_2 BK293.out trivial; obtain ⟨hfz8_0, hfz8_1, -⟩ := frz_2 BK293.out; obtain ⟨hcz9_0, hcz9_1, -⟩ := cells_2 BK294.out trivial; obtain ⟨hfz9_0, hfz9_1, -⟩ := frz_2 BK294.out))
   go_ret
   exact ⟨rz_, bel⟩
  rw [if_neg c4] at H
  have c4b0 : (a0_1 == a1_1) = false := beq_eq_false_iff_ne.mpr c4
  have c4b1 : (a0_1 != a1_1) = true := bne_iff_ne.mpr c4
  obtain rfl := Option.some.inj H
  go_enter Try.func122, Try.ntmps122
  go_wp2_with (first | ((with_reducible refine gate_dst (N := 2) rfl ?_); refine bx_ 2 #[.int .i64 a0_0, .int .i64 a0_1] 73 (h := ?_); intro gb293 hg w10 hbox hb; have BK293 := Aside0.mk (hbox); have GW293 := Aside0.mk ((by rw [hg]; exact (below_size bel) : w.heap.size ≤ gb293)); have GE293 := GW293; replace HB := Aside0.mk (below_step bel hb); clear hb hbox hg) | ((with_reducible refine gate_dst (N := 3) rfl ?_); refine bx_ 3 #[.int .i64 a1_0, .int .i64 a1_1] 73 (h := ?_); intro gb294 hg w11 hbox hb; have BK294 := Aside0.mk (hbox); have GW294 := Aside0.mk ((by rw [hg]; exact (below_size bel) : w.heap.size ≤ gb294)); have GE294 := GW294; have NB293_294 := Aside0.mk ((by rw [hg]; exact Nat.ne_of_lt (blt BK293) : gb293 ≠ gb294)); have NB294_293 := Aside0.mk NB293_294.out.symm; replace BK293 := Aside0.mk (blb BK293 hb); replace HB := Aside0.mk (below_step bel hb); clear hb hbox hg; have hnb12 := NB293_294.out; have hnc12 := NB294_293.out; obtain ⟨hcz13_0, hcz13_1, -⟩ := cells_2 BK293.out trivial; obtain ⟨hfz13_0, hfz13_1, -⟩ := frz_2 BK293.out; obtain ⟨hcz14_0, hcz14_1, -⟩ := cells_2 BK294.out trivial; obtain ⟨hfz14_0, hfz14_1, -⟩ := frz_2 BK294.out))
  go_ret
  exact ⟨rz_, bel⟩
 rw [if_neg c3] at H
 have c3b0 : (a0_0 == a1_0) = false := beq_eq_false_iff_ne.mpr c3
 have c3b1 : (a0_0 != a1_0) = true := bne_iff_ne.mpr c3
 obtain rfl := Option.some.inj H
 go_enter Try.func122, Try.ntmps122
 go_wp2_with (first | ((with_reducible refine gate_dst (N := 2) rfl ?_); refine bx_ 2 #[.int .i64 a0_0, .int .i64 a0_1] 73 (h := ?_); intro gb293 hg w15 hbox hb; have BK293 := Aside0.mk (hbox); have GW293 := Aside0.mk ((by rw [hg]; exact (below_size bel) : w.heap.size ≤ gb293)); have GE293 := GW293; replace HB := Aside0.mk (below_step bel hb); clear hb hbox hg) | ((with_reducible refine gate_dst (N := 3) rfl ?_); refine bx_ 3 #[.int .i64 a1_0, .int .i64 a1_1] 73 (h := ?_); intro gb294 hg w16 hbox hb; have BK294 := Aside0.mk (hbox); have GW294 := Aside0.mk ((by rw [hg]; exact (below_size bel) : w.heap.size ≤ gb294)); have GE294 := GW294; have NB293_294 := Aside0.mk ((by rw [hg]; exact Nat.ne_of_lt (blt BK293) : gb293 ≠ gb294)); have NB294_293 := Aside0.mk NB293_294.out.symm; replace BK293 := Aside0.mk (blb BK293 hb); replace HB := Aside0.mk (below_step bel hb); clear hb hbox hg; have hnb17 := NB293_294.out; have hnc17 := NB294_293.out; obtain ⟨hcz18_0, hcz18_1, -⟩ := cells_2 BK293.out trivial; obtain ⟨hfz18_0, hfz18_1, -⟩ := frz_2 BK293.out; obtain ⟨hcz19_0, hcz19_1, -⟩ := cells_2 BK294.out trivial; obtain ⟨hfz19_0, hfz19_1, -⟩ := frz_2 BK294.out))
 go_ret
 exact ⟨rz_, bel⟩

/-! ### laws_eqLast: function 42 -/
def laws_eqLast.f (a0_0 : Int) (a0_1 : Int) (a0_2 : Int) (a0_3 : Int) (a1_0 : Int) (a1_1 : Int) (a1_2 : Int) (a1_3 : Int) : Option (Bool) := if a0_0 = a1_0 then (if a0_1 = a1_1 then ((laws_eqReply.f a0_2 a0_3 a1_2 a1_3).bind fun t297 => (if t297 = true then (some true) else (some false))) else (some false)) else (some false)
set_option maxHeartbeats 8000000 in
set_option maxRecDepth 100000 in
theorem laws_eqLast.calls (a0_0 : Int) (a0_1 : Int) (a0_2 : Int) (a0_3 : Int) (a1_0 : Int) (a1_1 : Int) (a1_2 : Int) (a1_3 : Int) (r : Bool) (w : World) (h : laws_eqLast.f a0_0 a0_1 a0_2 a0_3 a1_0 a1_1 a1_2 a1_3 = some r) :
  Calls Try.prog 42 #[.agg #[.int .i64 a0_0, .int .i64 a0_1, .int .i64 a0_2, .int .i64 a0_3], .agg #[.int .i64 a1_0, .int .i64 a1_1, .int .i64 a1_2, .int .i64 a1_3]] w fun e w' => e = .returned (.bool r) ∧ Below w.heap.size w w' := by
 have hu75 := Try.underlying75
 have hu73 := Try.underlying73
 have HB := Aside0.mk (Below.refl w.heap.size w)
 have H : (if a0_0 = a1_0 then (if a0_1 = a1_1 then ((laws_eqReply.f a0_2 a0_3 a1_2 a1_3).bind fun t297 => (if t297 = true then (some true) else (some false))) else (some false)) else (some false)) = some r := h
 clear h
 by_cases c3 : a0_0 = a1_0
 ·rw [if_pos c3] at H
  have c3b0 : (a0_0 == a1_0) = true := beq_iff_eq.mpr c3
  have c3b1 : (a0_0 != a1_0) = false := bne_eq_false_iff_eq.mpr c3
  clear c3
  by_cases c4 : a0_1 = a1_1
  ·rw [if_pos c4] at H
   have c4b0 : (a0_1 == a1_1) = true := beq_iff_eq.mpr c4
   have c4b1 : (a0_1 != a1_1) = false := bne_eq_false_iff_eq.mpr c4
   clear c4
   replace H := Option.bind_eq_some_iff.mp H
   obtain ⟨t297, A50, H⟩ := H
   replace H : (if t297 = true then (some true) else (some false)) = some r := H
   have A5 := Aside0.mk A50
   clear A50
   by_cases c6 : t297 = true
   ·subst c6
    have H1 : (some true) = some r := by rw [if_pos rfl] at H; exact H
    clear H
    have H := H1
    clear H1
    obtain rfl := Option.some.inj H
    go_enter Try.func42, Try.ntmps42
    go_wp2_with (first | ((with_reducible refine gate_dst (N := 2) rfl ?_); refine bx_ 2 #[.int .i64 a0_0, .int .i64 a0_1, .int .i64 a0_2, .int .i64 a0_3] 75 (h := ?_); intro gb295 hg w7 hbox hb; have BK295 := Aside0.mk (hbox); have GW295 := Aside0.mk ((by rw [hg]; exact (below_size bel) : w.heap.size ≤ gb295)); have GE295 := GW295; replace HB := Aside0.mk (below_step bel hb); clear hb hbox hg) | ((with_reducible refine gate_dst (N := 3) rfl ?_); refine bx_ 3 #[.int .i64 a1_0, .int .i64 a1_1, .int .i64 a1_2, .int .i64 a1_3] 75 (h := ?_); intro gb296 hg w8 hbox hb; have BK296 := Aside0.mk (hbox); have GW296 := Aside0.mk ((by rw [hg]; exact (below_size bel) : w.heap.size ≤ gb296)); have GE296 := GW296; have NB295_296 := Aside0.mk ((by rw [hg]; exact Nat.ne_of_lt (blt BK295) : gb295 ≠ gb296)); have NB296_295 := Aside0.mk NB295_296.out.symm; replace BK295 := Aside0.mk (blb BK295 hb); replace HB := Aside0.mk (below_step bel hb); clear hb hbox hg; have hnb9 := NB295_296.out; have hnc9 := NB296_295.out; obtain ⟨hcz10_0, hcz10_1, hcz10_2, hcz10_3, -⟩ := cells_4 BK295.out trivial; obtain ⟨hfz10_0, hfz10_1, hfz10_2, hfz10_3, -⟩ := frz_4 BK295.out; obtain ⟨hcz11_0, hcz11_1, hcz11_2, hcz11_3, -⟩ := cells_4 BK296.out trivial; obtain ⟨hfz11_0, hfz11_1, hfz11_2, hfz11_3, -⟩ := frz_4 BK296.out) | ((with_reducible refine gate_callee (f := 122) rfl ?_); refine gl_ (some 19) Try.func122 #[.agg #[.int .i64 a0_2, .int .i64 a0_3], .agg #[.int .i64 a1_2, .int .i64 a1_3]] (h := ?_); (with_reducible refine (laws_eqReply.calls a0_2 a0_3 a1_2 a1_3 true _ A5.out).mono ?_); rintro e w12 ⟨rfl, hb⟩; refine ⟨_, rfl, ?_⟩; replace BK295 := Aside0.mk (blb BK295 hb); replace BK296 := Aside0.mk (blb BK296 hb); replace HB := Aside0.mk (below_step bel hb); (try clear hb); (try clear hb2); (try clear hk); (try clear hi)))
    go_ret
    exact ⟨rz_, bel⟩
   replace c6 := Bool.eq_false_iff.mpr c6
   subst c6
   have H1 : (some false) = some r := by rw [if_neg (show ¬ (false = true) by decide)] at H; exact H
   clear H
   have H := H1
   clear H1
   obtain rfl := Option.some.inj H
   go_enter Try.func42, Try.ntmps42
   go_wp2_with (first | ((with_reducible refine gate_dst (N := 2) rfl ?_); refine bx_ 2 #[.int .i64 a0_0, .int .i64 a0_1, .int .i64 a0_2, .int .i64 a0_3] 75 (h := ?_); intro gb295 hg w13 hbox hb; have BK295 := Aside0.mk (hbox); have GW295 := Aside0.mk ((by rw [hg]; exact (below_size bel) : w.heap.size ≤ gb295)); have GE295 := GW295; replace HB := Aside0.mk (below_step bel hb); clear hb hbox hg) | ((with_reducible refine gate_dst (N := 3) rfl ?_); refine bx_ 3 #[.int .i64 a1_0, .int .i64 a1_1, .int .i64 a1_2, .int .i64 a1_3] 75 (h := ?_); intro gb296 hg w14 hbox hb; have BK296 := Aside0.mk (hbox); have GW296 := Aside0.mk ((by rw [hg]; exact (below_size bel) : w.heap.size ≤ gb296)); have GE296 := GW296; have NB295_296 := Aside0.mk ((by rw [hg]; exact Nat.ne_of_lt (blt BK295) : gb295 ≠ gb296)); have NB296_295 := Aside0.mk NB295_296.out.symm; replace BK295 := Aside0.mk (blb BK295 hb); replace HB := Aside0.mk (below_step bel hb); clear hb hbox hg; have hnb15 := NB295_296.out; have hnc15 := NB296_295.out; obtain ⟨hcz16_0, hcz16_1, hcz16_2, hcz16_3, -⟩ := cells_4 BK295.out trivial; obtain ⟨hfz16_0, hfz16_1, hfz16_2, hfz16_3, -⟩ := frz_4 BK295.out; obtain ⟨hcz17_0, hcz17_1, hcz17_2, hcz17_3, -⟩ := cells_4 BK296.out trivial; obtain ⟨hfz17_0, hfz17_1, hfz17_2, hfz17_3, -⟩ := frz_4 BK296.out) | ((with_reducible refine gate_callee (f := 122) rfl ?_); refine gl_ (some 19) Try.func122 #[.agg #[.int .i64 a0_2, .int .i64 a0_3], .agg #[.int .i64 a1_2, .int .i64 a1_3]] (h := ?_); (with_reducible refine (laws_eqReply.calls a0_2 a0_3 a1_2 a1_3 false _ A5.out).mono ?_); rintro e w18 ⟨rfl, hb⟩; refine ⟨_, rfl, ?_⟩; replace BK295 := Aside0.mk (blb BK295 hb); replace BK296 := Aside0.mk (blb BK296 hb); replace HB := Aside0.mk (below_step bel hb); (try clear hb); (try clear hb2); (try clear hk); (try clear hi)))
   go_ret
   exact ⟨rz_, bel⟩
  rw [if_neg c4] at H
  have c4b0 : (a0_1 == a1_1) = false := beq_eq_false_iff_ne.mpr c4
  have c4b1 : (a0_1 != a1_1) = true := bne_iff_ne.mpr c4
  obtain rfl := Option.some.inj H
  go_enter Try.func42, Try.ntmps42
  go_wp2_with (first | ((with_reducible refine gate_dst (N := 2) rfl ?_); refine bx_ 2 #[.int .i64 a0_0, .int .i64 a0_1, .int .i64 a0_2, .int .i64 a0_3] 75 (h := ?_); intro gb295 hg w19 hbox hb; have BK295 := Aside0.mk (hbox); have GW295 := Aside0.mk ((by rw [hg]; exact (below_size bel) : w.heap.size ≤ gb295)); have GE295 := GW295; replace HB := Aside0.mk (below_step bel hb); clear hb hbox hg) | ((with_reducible refine gate_dst (N := 3) rfl ?_); refine bx_ 3 #[.int .i64 a1_0, .int .i64 a1_1, .int .i64 a1_2, .int .i64 a1_3] 75 (h := ?_); intro gb296 hg w20 hbox hb; have BK296 := Aside0.mk (hbox); have GW296 := Aside0.mk ((by rw [hg]; exact (below_size bel) : w.heap.size ≤ gb296)); have GE296 := GW296; have NB295_296 := Aside0.mk ((by rw [hg]; exact Nat.ne_of_lt (blt BK295) : gb295 ≠ gb296)); have NB296_295 := Aside0.mk NB295_296.out.symm; replace BK295 := Aside0.mk (blb BK295 hb); replace HB := Aside0.mk (below_step bel hb); clear hb hbox hg; have hnb21 := NB295_296.out; have hnc21 := NB296_295.out; obtain ⟨hcz22_0, hcz22_1, hcz22_2, hcz22_3, -⟩ := cells_4 BK295.out trivial; obtain ⟨hfz22_0, hfz22_1, hfz22_2, hfz22_3, -⟩ := frz_4 BK295.out; obtain ⟨hcz23_0, hcz23_1, hcz23_2, hcz23_3, -⟩ := cells_4 BK296.out trivial; obtain ⟨hfz23_0, hfz23_1, hfz23_2, hfz23_3, -⟩ := frz_4 BK296.out))
  go_ret
  exact ⟨rz_, bel⟩
 rw [if_neg c3] at H
 have c3b0 : (a0_0 == a1_0) = false := beq_eq_false_iff_ne.mpr c3
 have c3b1 : (a0_0 != a1_0) = true := bne_iff_ne.mpr c3
 obtain rfl := Option.some.inj H
 go_enter Try.func42, Try.ntmps42
 go_wp2_with (first | ((with_reducible refine gate_dst (N := 2) rfl ?_); refine bx_ 2 #[.int .i64 a0_0, .int .i64 a0_1, .int .i64 a0_2, .int .i64 a0_3] 75 (h := ?_); intro gb295 hg w24 hbox hb; have BK295 := Aside0.mk (hbox); have GW295 := Aside0.mk ((by rw [hg]; exact (below_size bel) : w.heap.size ≤ gb295)); have GE295 := GW295; replace HB := Aside0.mk (below_step bel hb); clear hb hbox hg) | ((with_reducible refine gate_dst (N := 3) rfl ?_); refine bx_ 3 #[.int .i64 a1_0, .int .i64 a1_1, .int .i64 a1_2, .int .i64 a1_3] 75 (h := ?_); intro gb296 hg w25 hbox hb; have BK296 := Aside0.mk (hbox); have GW296 := Aside0.mk ((by rw [hg]; exact (below_size bel) : w.heap.size ≤ gb296)); have GE296 := GW296; have NB295_296 := Aside0.mk ((by rw [hg]; exact Nat.ne_of_lt (blt BK295) : gb295 ≠ gb296)); have NB296_295 := Aside0.mk NB295_296.out.symm; replace BK295 := Aside0.mk (blb BK295 hb); replace HB := Aside0.mk (below_step bel hb); clear hb hbox hg; have hnb26 := NB295_296.out; have hnc26 := NB296_295.out; obtain ⟨hcz27_0, hcz27_1, hcz27_2, hcz27_3, -⟩ := cells_4 BK295.out trivial; obtain ⟨hfz27_0, hfz27_1, hfz27_2, hfz27_3, -⟩ := frz_4 BK295.out; obtain ⟨hcz28_0, hcz28_1, hcz28_2, hcz28_3, -⟩ := cells_4 BK296.out trivial; obtain ⟨hfz28_0, hfz28_1, hfz28_2, hfz28_3, -⟩ := frz_4 BK296.out))
 go_ret
 exact ⟨rz_, bel⟩

/-! ### laws_eqLastS: function 90 -/
def laws_eqLastS.l0 : Nat → List (S75) → List (S75) → Int → Option (Bool)
 | 0, _, _, _ => none
 | k + 1, x0, x1, x5 => if x5 < (x0.length : Int) then (if 0 ≤ x5 then (if x5 < (x1.length : Int) then ((laws_eqLast.f ((rd_T75 x0 x5).f0) ((rd_T75 x0 x5).f1) ((rd_T75 x0 x5).f2.f0) ((rd_T75 x0 x5).f2.f1) ((rd_T75 x1 x5).f0) ((rd_T75 x1 x5).f1) ((rd_T75 x1 x5).f2.f0) ((rd_T75 x1 x5).f2.f1)).bind fun t300 => (if t300 = true then (laws_eqLastS.l0 k x0 x1 (wrap64 (x5 + 1))) else (some false))) else (none)) else (none)) else (some true)
def laws_eqLastS.f (k : Nat) (l0 : List (S75)) (l1 : List (S75)) : Option (Bool) := if (l0.length : Int) = (l1.length : Int) then (laws_eqLastS.l0 k l0 l1 0) else (some false)
def laws_eqLastS.T6 : Bool × List (List Nat × List Nat) := (true, [([], []), ([], []), ([0, 1], [0, 1]), ([2], [2]), ([], []), ([], []), ([4, 5], [4, 5]), ([6], [6]), ([3, 7], [3, 7]), ([8], [8])])
def laws_eqLastS.B6 : List Nat := [0, 0, 3, 7, 0, 0, 48, 112, 255, 511]
theorem laws_eqLastS.tab6 : rtab .any (opsOf Try.f90 6) = laws_eqLastS.T6 := by kernel_rfl
theorem laws_eqLastS.bits6 : waitsOk laws_eqLastS.T6.2 laws_eqLastS.B6 = true := by kernel_rfl
set_option maxHeartbeats 8000000 in
set_option maxRecDepth 100000 in
theorem laws_eqLastS.calls (k : Nat) (A0 : Option Addr) (c0 : Nat) (l0 : List (S75)) (A1 : Option Addr) (c1 : Nat) (l1 : List (S75)) (r : Bool) (w : World) (hr0 : Kd.C k75 w A0 l0.length l0) (hc0 : l0.length ≤ c0) (hr1 : Kd.C k75 w A1 l1.length l1) (hc1 : l1.length ≤ c1) (h : laws_eqLastS.f k l0 l1 = some r) :
  Calls Try.prog 90 #[.slice A0 l0.length c0, .slice A1 l1.length c1] w fun e w' => e = .returned (.bool r) ∧ Below w.heap.size w w' := by
 have hu75 := Try.underlying75
 have HR0 := Aside0.mk hr0
 have HC0 := Aside0.mk hc0
 clear hr0 hc0
 have HR1 := Aside0.mk hr1
 have HC1 := Aside0.mk hc1
 clear hr1 hc1
 have HB := Aside0.mk (Below.refl w.heap.size w)
 have H : (if (l0.length : Int) = (l1.length : Int) then (laws_eqLastS.l0 k l0 l1 0) else (some false)) = some r := h
 clear h
 by_cases c3 : (l0.length : Int) = (l1.length : Int)
 ·rw [if_pos c3] at H
  have c3b0 : ((l0.length : Int) == (l1.length : Int)) = true := beq_iff_eq.mpr c3
  have c3b1 : ((l0.length : Int) != (l1.length : Int)) = false := bne_eq_false_iff_eq.mpr c3
  have c3b2 : (l0.length == l1.length) = true := by first | simpa using c3 | (simp at c3 ⊢; omega)
  clear c3
  have H' := Aside0.mk H
  clear H
  go_enter Try.func90, Try.ntmps90
  go_wp2
  go_loopg [5] k (fun kq v5 w' => ∃ (x5_1 : Int), v5 = .int .i64 x5_1 ∧ Aside0 (laws_eqLastS.l0 kq l0 l1 x5_1 = some r) ∧ Aside0 (kq ≤ k) ∧ Aside0 (Below w.heap.size w w'))
  case atStart => exact ⟨(0), rs_, H', ⟨Nat.le_refl _⟩, ⟨bel⟩⟩
  case round =>
   clear H'
   try clear c1; try clear p2; try clear c3; try clear c3b0; try clear c3b1; try clear c3b2
   obtain ⟨x5_1, rfl, HA, HK1, HB⟩ := hrel
   cases gk with
   | zero => exact absurd HA.out (by simp [laws_eqLastS.l0])
   | succ k1 =>
    have H := HA.out
    clear HA
    simp only [laws_eqLastS.l0] at H
    by_cases c4 : x5_1 < (l0.length : Int)
    ·rw [if_pos c4] at H
     have c4b0 : decide (x5_1 < (l0.length : Int)) = true := decide_eq_true c4
     clear c4
     by_cases c5 : 0 ≤ x5_1
     ·rw [if_pos c5] at H
      have c5b0 : decide (0 ≤ x5_1) = true := decide_eq_true c5
      clear c5
      by_cases c6 : x5_1 < (l1.length : Int)
      ·rw [if_pos c6] at H
       have c6b0 : decide (x5_1 < (l1.length : Int)) = true := decide_eq_true c6
       clear c6
       replace H := Option.bind_eq_some_iff.mp H
       obtain ⟨t300, A70, H⟩ := H
       replace H : (if t300 = true then (laws_eqLastS.l0 k1 l0 l1 (wrap64 (x5_1 + 1))) else (some false)) = some r := H
       have A7 := Aside0.mk A70
       clear A70
       by_cases c8 : t300 = true
       ·subst c8
        have H1 : (laws_eqLastS.l0 k1 l0 l1 (wrap64 (x5_1 + 1))) = some r := by rw [if_pos rfl] at H; exact H
        clear H
        have H := H1
        clear H1
        have H' := Aside0.mk H
        clear H
        try go_wp2
        replace HB := Aside0.mk (below_drew1 HB.out)
        have p298 : 0 ≤ (x5_1 : Int) := od
        have q298 : x5_1 < (l0.length : Int) := od
        obtain ⟨ad298, e298, hx298_0, hx298_1, hx298_2, hx298_3⟩ := at_T75 HR0.out x5_1 p298 q298
        have hw298_3 := hx298_3
        have hw298_2 := hx298_2
        have hw298_1 := hx298_1
        have hw298_0 := hx298_0
        cases e298
        replace hx298_0 := hxb HB hx298_0
        replace hx298_1 := hxb HB hx298_1
        replace hx298_2 := hxb HB hx298_2
        replace hx298_3 := hxb HB hx298_3
        replace p298 := eq_true p298
        replace q298 := eq_true q298
        have p299 : 0 ≤ (x5_1 : Int) := od
        have q299 : x5_1 < (l1.length : Int) := od
        obtain ⟨ad299, e299, hx299_0, hx299_1, hx299_2, hx299_3⟩ := at_T75 HR1.out x5_1 p299 q299
        have hw299_3 := hx299_3
        have hw299_2 := hx299_2
        have hw299_1 := hx299_1
        have hw299_0 := hx299_0
        cases e299
        replace hx299_0 := hxb HB hx299_0
        replace hx299_1 := hxb HB hx299_1
        replace hx299_2 := hxb HB hx299_2
        replace hx299_3 := hxb HB hx299_3
        replace p299 := eq_true p299
        replace q299 := eq_true q299
        refine start_ (n := 10) (S := fun w' => w'.cell? (ad298.add ((x5_1).toNat * 4)) = some (.int .i64 ((rd_T75 l0 x5_1).f0)) ∧ w'.cell? ⟨(ad298.add ((x5_1).toNat * 4)).block, (ad298.add ((x5_1).toNat * 4)).off + 1, none⟩ = some (.int .i64 ((rd_T75 l0 x5_1).f1)) ∧ w'.cell? ⟨(ad298.add ((x5_1).toNat * 4)).block, (ad298.add ((x5_1).toNat * 4)).off + 2, none⟩ = some (.int .i64 ((rd_T75 l0 x5_1).f2.f0)) ∧ w'.cell? ⟨(ad298.add ((x5_1).toNat * 4)).block, (ad298.add ((x5_1).toNat * 4)).off + 3, none⟩ = some (.int .i64 ((rd_T75 l0 x5_1).f2.f1)) ∧ w'.cell? (ad299.add ((x5_1).toNat * 4)) = some (.int .i64 ((rd_T75 l1 x5_1).f0)) ∧ w'.cell? ⟨(ad299.add ((x5_1).toNat * 4)).block, (ad299.add ((x5_1).toNat * 4)).off + 1, none⟩ = some (.int .i64 ((rd_T75 l1 x5_1).f1)) ∧ w'.cell? ⟨(ad299.add ((x5_1).toNat * 4)).block, (ad299.add ((x5_1).toNat * 4)).off + 2, none⟩ = some (.int .i64 ((rd_T75 l1 x5_1).f2.f0)) ∧ w'.cell? ⟨(ad299.add ((x5_1).toNat * 4)).block, (ad299.add ((x5_1).toNat * 4)).off + 3, none⟩ = some (.int .i64 ((rd_T75 l1 x5_1).f2.f1))) (ds := []) (tf 0 10) (by kernel_rfl) rfl rfl ⟨(hxb HB hw298_0 :), (hxb HB hw298_1 :), (hxb HB hw298_2 :), (hxb HB hw298_3 :), (hxb HB hw299_0 :), (hxb HB hw299_1 :), (hxb HB hw299_2 :), (hxb HB hw299_3 :)⟩ (fun hHeld => ?_); refine with_tabW laws_eqLastS.tab6 laws_eqLastS.bits6 (fun HT_ HW_ => ?_)
        generalize wr.drew = w9 at HB hx298_0 hx298_1 hx298_2 hx298_3 hx299_0 hx299_1 hx299_2 hx299_3 hHeld ⊢
        iterate 3 (refine pvn_ HT_ (h := ?_))
        refine pv_ HT_ 4 (some 21) (tb 10 23) (h := ?_)
        refine pv_ HT_ 5 (some 22) (tb 10 55) (h := ?_)
        refine pv_ HT_ 6 (some 23) (tb 10 119) (h := ?_)
        refine tv_ HT_ HW_ hHeld 3 (some 20) (tf 7 3) (h := ?_)
        refine tvn_ HT_ HW_ hHeld (h := ?_)
        refine one_ (i := 8) (N := some 25) (tf 9 1) rfl rfl (one_of HT_.out (by kernel_rfl)) (by decide) (fun K hK => ?_)
        refine gs_ Try.func42 #[.agg #[.int .i64 ((rd_T75 l0 x5_1).f0), .int .i64 ((rd_T75 l0 x5_1).f1), .int .i64 ((rd_T75 l0 x5_1).f2.f0), .int .i64 ((rd_T75 l0 x5_1).f2.f1)], .agg #[.int .i64 ((rd_T75 l1 x5_1).f0), .int .i64 ((rd_T75 l1 x5_1).f1), .int .i64 ((rd_T75 l1 x5_1).f2.f0), .int .i64 ((rd_T75 l1 x5_1).f2.f1)]] (h := ?_)
        with_reducible refine (laws_eqLast.calls ((rd_T75 l0 x5_1).f0) ((rd_T75 l0 x5_1).f1) ((rd_T75 l0 x5_1).f2.f0) ((rd_T75 l0 x5_1).f2.f1) ((rd_T75 l1 x5_1).f0) ((rd_T75 l1 x5_1).f1) ((rd_T75 l1 x5_1).f2.f0) ((rd_T75 l1 x5_1).f2.f1) true _ A7.out).mono ?_
        rintro e w10 ⟨rfl, hb⟩
        refine ⟨_, rfl, ?_⟩
        replace HB := Aside0.mk (below_step bel hb)
        (try clear hb)
        (try clear hb2)
        (try clear hk)
        (try clear hi)
        refine hK.out _ _ ⟨(hxb HB hw298_0 :), (hxb HB hw298_1 :), (hxb HB hw298_2 :), (hxb HB hw298_3 :), (hxb HB hw299_0 :), (hxb HB hw299_1 :), (hxb HB hw299_2 :), (hxb HB hw299_3 :)⟩ (fun hHeld => ?_)
        clear hK K
        refine nrm_ (some 25) (h := ?_)
        refine pvn_ HT_ (h := ?_)
        refine done_ (done_of HT_.out (by kernel_rfl)) ?_
        try go_wp2
        go_roundg k1
        case measure => have := HK1.out; omega
        case rel => exact ⟨(wrap64 (x5_1 + 1)), rs_, H', ⟨by have := HK1.out; omega⟩, ⟨bel⟩⟩
       replace c8 := Bool.eq_false_iff.mpr c8
       subst c8
       have H1 : (some false) = some r := by rw [if_neg (show ¬ (false = true) by decide)] at H; exact H
       clear H
       have H := H1
       clear H1
       obtain rfl := Option.some.inj H
       try go_wp2
       replace HB := Aside0.mk (below_drew1 HB.out)
       have p298 : 0 ≤ (x5_1 : Int) := od
       have q298 : x5_1 < (l0.length : Int) := od
       obtain ⟨ad298, e298, hx298_0, hx298_1, hx298_2, hx298_3⟩ := at_T75 HR0.out x5_1 p298 q298
       have hw298_3 := hx298_3
       have hw298_2 := hx298_2
       have hw298_1 := hx298_1
       have hw298_0 := hx298_0
       cases e298
       replace hx298_0 := hxb HB hx298_0
       replace hx298_1 := hxb HB hx298_1
       replace hx298_2 := hxb HB hx298_2
       replace hx298_3 := hxb HB hx298_3
       replace p298 := eq_true p298
       replace q298 := eq_true q298
       have p299 : 0 ≤ (x5_1 : Int) := od
       have q299 : x5_1 < (l1.length : Int) := od
       obtain ⟨ad299, e299, hx299_0, hx299_1, hx299_2, hx299_3⟩ := at_T75 HR1.out x5_1 p299 q299
       have hw299_3 := hx299_3
       have hw299_2 := hx299_2
       have hw299_1 := hx299_1
       have hw299_0 := hx299_0
       cases e299
       replace hx299_0 := hxb HB hx299_0
       replace hx299_1 := hxb HB hx299_1
       replace hx299_2 := hxb HB hx299_2
       replace hx299_3 := hxb HB hx299_3
       replace p299 := eq_true p299
       replace q299 := eq_true q299
       refine start_ (n := 10) (S := fun w' => w'.cell? (ad298.add ((x5_1).toNat * 4)) = some (.int .i64 ((rd_T75 l0 x5_1).f0)) ∧ w'.cell? ⟨(ad298.add ((x5_1).toNat * 4)).block, (ad298.add ((x5_1).toNat * 4)).off + 1, none⟩ = some (.int .i64 ((rd_T75 l0 x5_1).f1)) ∧ w'.cell? ⟨(ad298.add ((x5_1).toNat * 4)).block, (ad298.add ((x5_1).toNat * 4)).off + 2, none⟩ = some (.int .i64 ((rd_T75 l0 x5_1).f2.f0)) ∧ w'.cell? ⟨(ad298.add ((x5_1).toNat * 4)).block, (ad298.add ((x5_1).toNat * 4)).off + 3, none⟩ = some (.int .i64 ((rd_T75 l0 x5_1).f2.f1)) ∧ w'.cell? (ad299.add ((x5_1).toNat * 4)) = some (.int .i64 ((rd_T75 l1 x5_1).f0)) ∧ w'.cell? ⟨(ad299.add ((x5_1).toNat * 4)).block, (ad299.add ((x5_1).toNat * 4)).off + 1, none⟩ = some (.int .i64 ((rd_T75 l1 x5_1).f1)) ∧ w'.cell? ⟨(ad299.add ((x5_1).toNat * 4)).block, (ad299.add ((x5_1).toNat * 4)).off + 2, none⟩ = some (.int .i64 ((rd_T75 l1 x5_1).f2.f0)) ∧ w'.cell? ⟨(ad299.add ((x5_1).toNat * 4)).block, (ad299.add ((x5_1).toNat * 4)).off + 3, none⟩ = some (.int .i64 ((rd_T75 l1 x5_1).f2.f1))) (ds := []) (tf 0 10) (by kernel_rfl) rfl rfl ⟨(hxb HB hw298_0 :), (hxb HB hw298_1 :), (hxb HB hw298_2 :), (hxb HB hw298_3 :), (hxb HB hw299_0 :), (hxb HB hw299_1 :), (hxb HB hw299_2 :), (hxb HB hw299_3 :)⟩ (fun hHeld => ?_); refine with_tabW laws_eqLastS.tab6 laws_eqLastS.bits6 (fun HT_ HW_ => ?_)
       generalize wr.drew = w11 at HB hx298_0 hx298_1 hx298_2 hx298_3 hx299_0 hx299_1 hx299_2 hx299_3 hHeld ⊢
       iterate 3 (refine pvn_ HT_ (h := ?_))
       refine pv_ HT_ 4 (some 21) (tb 10 23) (h := ?_)
       refine pv_ HT_ 5 (some 22) (tb 10 55) (h := ?_)
       refine pv_ HT_ 6 (some 23) (tb 10 119) (h := ?_)
       refine tv_ HT_ HW_ hHeld 3 (some 20) (tf 7 3) (h := ?_)
       refine tvn_ HT_ HW_ hHeld (h := ?_)
       refine one_ (i := 8) (N := some 25) (tf 9 1) rfl rfl (one_of HT_.out (by kernel_rfl)) (by decide) (fun K hK => ?_)
       refine gs_ Try.func42 #[.agg #[.int .i64 ((rd_T75 l0 x5_1).f0), .int .i64 ((rd_T75 l0 x5_1).f1), .int .i64 ((rd_T75 l0 x5_1).f2.f0), .int .i64 ((rd_T75 l0 x5_1).f2.f1)], .agg #[.int .i64 ((rd_T75 l1 x5_1).f0), .int .i64 ((rd_T75 l1 x5_1).f1), .int .i64 ((rd_T75 l1 x5_1).f2.f0), .int .i64 ((rd_T75 l1 x5_1).f2.f1)]] (h := ?_)
       with_reducible refine (laws_eqLast.calls ((rd_T75 l0 x5_1).f0) ((rd_T75 l0 x5_1).f1) ((rd_T75 l0 x5_1).f2.f0) ((rd_T75 l0 x5_1).f2.f1) ((rd_T75 l1 x5_1).f0) ((rd_T75 l1 x5_1).f1) ((rd_T75 l1 x5_1).f2.f0) ((rd_T75 l1 x5_1).f2.f1) false _ A7.out).mono ?_
       rintro e w12 ⟨rfl, hb⟩
       refine ⟨_, rfl, ?_⟩
       replace HB := Aside0.mk (below_step bel hb)
       (try clear hb)
       (try clear hb2)
       (try clear hk)
       (try clear hi)
       refine hK.out _ _ ⟨(hxb HB hw298_0 :), (hxb HB hw298_1 :), (hxb HB hw298_2 :), (hxb HB hw298_3 :), (hxb HB hw299_0 :), (hxb HB hw299_1 :), (hxb HB hw299_2 :), (hxb HB hw299_3 :)⟩ (fun hHeld => ?_)
       clear hK K
       refine nrm_ (some 25) (h := ?_)
       refine pvn_ HT_ (h := ?_)
       refine done_ (done_of HT_.out (by kernel_rfl)) ?_
       try go_wp2
       go_ret
       exact ⟨rz_, bel⟩
      rw [if_neg c6] at H
      exact absurd H (by simp)
     rw [if_neg c5] at H
     exact absurd H (by simp)
    rw [if_neg c4] at H
    have c4b0 : decide (x5_1 < (l0.length : Int)) = false := decide_eq_false c4
    clear c4
    obtain rfl := Option.some.inj H
    go_wp2
    go_ret
    exact ⟨rz_, bel⟩
 rw [if_neg c3] at H
 have c3b0 : ((l0.length : Int) == (l1.length : Int)) = false := beq_eq_false_iff_ne.mpr c3
 have c3b1 : ((l0.length : Int) != (l1.length : Int)) = true := bne_iff_ne.mpr c3
 have c3b2 : (l0.length == l1.length) = false := by first | simpa using c3 | (simp at c3 ⊢; omega)
 obtain rfl := Option.some.inj H
 go_enter Try.func90, Try.ntmps90
 go_wp2
 go_ret
 exact ⟨rz_, bel⟩

/-! ### laws_eqState: function 19 -/
def laws_eqState.f (k : Nat) (a0_0 : Int) (l0_1 : List (S92)) (l0_2 : List (S94)) (a0_3 : Int) (l0_4 : List (S109)) (l0_5 : List (S75)) (a1_0 : Int) (l1_1 : List (S92)) (l1_2 : List (S94)) (a1_3 : Int) (l1_4 : List (S109)) (l1_5 : List (S75)) : Option (Bool) := if a0_0 = a1_0 then ((laws_eqRowS.f k l0_1 l1_1).bind fun t303 => (if t303 = true then ((laws_eqTombS.f k l0_2 l1_2).bind fun t304 => (if t304 = true then (if a0_3 = a1_3 then ((laws_eqSessionS.f k l0_4 l1_4).bind fun t305 => (if t305 = true then ((laws_eqLastS.f k l0_5 l1_5).bind fun t306 => (if t306 = true then (some true) else (some false))) else (some false))) else (some false)) else (some false))) else (some false))) else (some false)
set_option maxHeartbeats 8000000 in
set_option maxRecDepth 100000 in
theorem laws_eqState.calls (k : Nat) (a0_0 : Int) (A0_1 : Option Addr) (c0_1 : Nat) (l0_1 : List (S92)) (A0_2 : Option Addr) (c0_2 : Nat) (l0_2 : List (S94)) (a0_3 : Int) (A0_4 : Option Addr) (c0_4 : Nat) (l0_4 : List (S109)) (A0_5 : Option Addr) (c0_5 : Nat) (l0_5 : List (S75)) (a1_0 : Int) (A1_1 : Option Addr) (c1_1 : Nat) (l1_1 : List (S92)) (A1_2 : Option Addr) (c1_2 : Nat) (l1_2 : List (S94)) (a1_3 : Int) (A1_4 : Option Addr) (c1_4 : Nat) (l1_4 : List (S109)) (A1_5 : Option Addr) (c1_5 : Nat) (l1_5 : List (S75)) (r : Bool) (w : World) (hr0_1 : Kd.C k92 w A0_1 l0_1.length l0_1) (hc0_1 : l0_1.length ≤ c0_1) (hr0_2 : Kd.C k94 w A0_2 l0_2.length l0_2) (hc0_2 : l0_2.length ≤ c0_2) (hr0_4 : Kd.C k109 w A0_4 l0_4.length l0_4) (hc0_4 : l0_4.length ≤ c0_4) (hr0_5 : Kd.C k75 w A0_5 l0_5.length l0_5) (hc0_5 : l0_5.length ≤ c0_5) (hr1_1 : Kd.C k92 w A1_1 l1_1.length l1_1) (hc1_1 : l1_1.length ≤ c1_1) (hr1_2 : Kd.C k94 w A1_2 l1_2.length l1_2) (hc1_2 : l1_2.length ≤ c1_2) (hr1_4 : Kd.C k109 w A1_4 l1_4.length l1_4) (hc1_4 : l1_4.length ≤ c1_4) (hr1_5 : Kd.C k75 w A1_5 l1_5.length l1_5) (hc1_5 : l1_5.length ≤ c1_5) (h : laws_eqState.f k a0_0 l0_1 l0_2 a0_3 l0_4 l0_5 a1_0 l1_1 l1_2 a1_3 l1_4 l1_5 = some r) :
  Calls Try.prog 19 #[.agg #[.int .i64 a0_0, .slice A0_1 l0_1.length c0_1, .slice A0_2 l0_2.length c0_2, .int .i64 a0_3, .slice A0_4 l0_4.length c0_4, .slice A0_5 l0_5.length c0_5], .agg #[.int .i64 a1_0, .slice A1_1 l1_1.length c1_1, .slice A1_2 l1_2.length c1_2, .int .i64 a1_3, .slice A1_4 l1_4.length c1_4, .slice A1_5 l1_5.length c1_5]] w fun e w' => e = .returned (.bool r) ∧ Below w.heap.size w w' := by
 have hu35 := Try.underlying35
 have HR0_1 := Aside0.mk hr0_1
 have HC0_1 := Aside0.mk hc0_1
 clear hr0_1 hc0_1
 have HR0_2 := Aside0.mk hr0_2
 have HC0_2 := Aside0.mk hc0_2
 clear hr0_2 hc0_2
 have HR0_4 := Aside0.mk hr0_4
 have HC0_4 := Aside0.mk hc0_4
 clear hr0_4 hc0_4
 have HR0_5 := Aside0.mk hr0_5
 have HC0_5 := Aside0.mk hc0_5
 clear hr0_5 hc0_5
 have HR1_1 := Aside0.mk hr1_1
 have HC1_1 := Aside0.mk hc1_1
 clear hr1_1 hc1_1
 have HR1_2 := Aside0.mk hr1_2
 have HC1_2 := Aside0.mk hc1_2
 clear hr1_2 hc1_2
 have HR1_4 := Aside0.mk hr1_4
 have HC1_4 := Aside0.mk hc1_4
 clear hr1_4 hc1_4
 have HR1_5 := Aside0.mk hr1_5
 have HC1_5 := Aside0.mk hc1_5
 clear hr1_5 hc1_5
 have HB := Aside0.mk (Below.refl w.heap.size w)
 have H : (if a0_0 = a1_0 then ((laws_eqRowS.f k l0_1 l1_1).bind fun t303 => (if t303 = true then ((laws_eqTombS.f k l0_2 l1_2).bind fun t304 => (if t304 = true then (if a0_3 = a1_3 then ((laws_eqSessionS.f k l0_4 l1_4).bind fun t305 => (if t305 = true then ((laws_eqLastS.f k l0_5 l1_5).bind fun t306 => (if t306 = true then (some true) else (some false))) else (some false))) else (some false)) else (some false))) else (some false))) else (some false)) = some r := h
 clear h
 by_cases c3 : a0_0 = a1_0
 ·rw [if_pos c3] at H
  have c3b0 : (a0_0 == a1_0) = true := beq_iff_eq.mpr c3
  have c3b1 : (a0_0 != a1_0) = false := bne_eq_false_iff_eq.mpr c3
  clear c3
  replace H := Option.bind_eq_some_iff.mp H
  obtain ⟨t303, A40, H⟩ := H
  replace H : (if t303 = true then ((laws_eqTombS.f k l0_2 l1_2).bind fun t304 => (if t304 = true then (if a0_3 = a1_3 then ((laws_eqSessionS.f k l0_4 l1_4).bind fun t305 => (if t305 = true then ((laws_eqLastS.f k l0_5 l1_5).bind fun t306 => (if t306 = true then (some true) else (some false))) else (some false))) else (some false)) else (some false))) else (some false)) = some r := H
  have A4 := Aside0.mk A40
  clear A40
  by_cases c5 : t303 = true
  ·subst c5
   have H1 : ((laws_eqTombS.f k l0_2 l1_2).bind fun t304 => (if t304 = true then (if a0_3 = a1_3 then ((laws_eqSessionS.f k l0_4 l1_4).bind fun t305 => (if t305 = true then ((laws_eqLastS.f k l0_5 l1_5).bind fun t306 => (if t306 = true then (some true) else (some false))) else (some false))) else (some false)) else (some false))) = some r := by rw [if_pos rfl] at H; exact H
   clear H
   have H := H1
   clear H1
   replace H := Option.bind_eq_some_iff.mp H
   obtain ⟨t304, A60, H⟩ := H
   replace H : (if t304 = true then (if a0_3 = a1_3 then ((laws_eqSessionS.f k l0_4 l1_4).bind fun t305 => (if t305 = true then ((laws_eqLastS.f k l0_5 l1_5).bind fun t306 => (if t306 = true then (some true) else (some false))) else (some false))) else (some false)) else (some false)) = some r := H
   have A6 := Aside0.mk A60
   clear A60
   by_cases c7 : t304 = true
   ·subst c7
    have H1 : (if a0_3 = a1_3 then ((laws_eqSessionS.f k l0_4 l1_4).bind fun t305 => (if t305 = true then ((laws_eqLastS.f k l0_5 l1_5).bind fun t306 => (if t306 = true then (some true) else (some false))) else (some false))) else (some false)) = some r := by rw [if_pos rfl] at H; exact H
    clear H
    have H := H1
    clear H1
    by_cases c8 : a0_3 = a1_3
    ·rw [if_pos c8] at H
     have c8b0 : (a0_3 == a1_3) = true := beq_iff_eq.mpr c8
     have c8b1 : (a0_3 != a1_3) = false := bne_eq_false_iff_eq.mpr c8
     clear c8
     replace H := Option.bind_eq_some_iff.mp H
     obtain ⟨t305, A90, H⟩ := H
     replace H : (if t305 = true then ((laws_eqLastS.f k l0_5 l1_5).bind fun t306 => (if t306 = true then (some true) else (some false))) else (some false)) = some r := H
     have A9 := Aside0.mk A90
     clear A90
     by_cases c10 : t305 = true
     ·subst c10
      have H1 : ((laws_eqLastS.f k l0_5 l1_5).bind fun t306 => (if t306 = true then (some true) else (some false))) = some r := by rw [if_pos rfl] at H; exact H
      clear H
      have H := H1
      clear H1
      replace H := Option.bind_eq_some_iff.mp H
      obtain ⟨t306, A110, H⟩ := H
      replace H : (if t306 = true then (some true) else (some false)) = some r := H
      have A11 := Aside0.mk A110
      clear A110
      by_cases c12 : t306 = true
      ·subst c12
       have H1 : (some true) = some r := by rw [if_pos rfl] at H; exact H
       clear H
       have H := H1
       clear H1
       obtain rfl := Option.some.inj H
       go_enter Try.func19, Try.ntmps19
       go_wp2_with (first | ((with_reducible refine gate_dst (N := 2) rfl ?_); refine bx_ 2 #[.int .i64 a0_0, .slice A0_1 l0_1.length c0_1, .slice A0_2 l0_2.length c0_2, .int .i64 a0_3, .slice A0_4 l0_4.length c0_4, .slice A0_5 l0_5.length c0_5] 35 (h := ?_); intro gb301 hg w13 hbox hb; have BK301 := Aside0.mk (hbox); have GW301 := Aside0.mk ((by rw [hg]; exact (below_size bel) : w.heap.size ≤ gb301)); have GE301 := GW301; replace HB := Aside0.mk (below_step bel hb); clear hb hbox hg) | ((with_reducible refine gate_dst (N := 3) rfl ?_); refine bx_ 3 #[.int .i64 a1_0, .slice A1_1 l1_1.length c1_1, .slice A1_2 l1_2.length c1_2, .int .i64 a1_3, .slice A1_4 l1_4.length c1_4, .slice A1_5 l1_5.length c1_5] 35 (h := ?_); intro gb302 hg w14 hbox hb; have BK302 := Aside0.mk (hbox); have GW302 := Aside0.mk ((by rw [hg]; exact (below_size bel) : w.heap.size ≤ gb302)); have GE302 := GW302; have NB301_302 := Aside0.mk ((by rw [hg]; exact Nat.ne_of_lt (blt BK301) : gb301 ≠ gb302)); have NB302_301 := Aside0.mk NB301_302.out.symm; replace BK301 := Aside0.mk (blb BK301 hb); replace HB := Aside0.mk (below_step bel hb); clear hb hbox hg; have hnb15 := NB301_302.out; have hnc15 := NB302_301.out; obtain ⟨hcz16_0, hcz16_1, hcz16_2, hcz16_3, hcz16_4, hcz16_5, -⟩ := cells_6 BK301.out trivial; obtain ⟨hfz16_0, hfz16_1, hfz16_2, hfz16_3, hfz16_4, hfz16_5, -⟩ := frz_6 BK301.out; obtain ⟨hcz17_0, hcz17_1, hcz17_2, hcz17_3, hcz17_4, hcz17_5, -⟩ := cells_6 BK302.out trivial; obtain ⟨hfz17_0, hfz17_1, hfz17_2, hfz17_3, hfz17_4, hfz17_5, -⟩ := frz_6 BK302.out) | ((with_reducible refine gate_callee (f := 87) rfl ?_); refine gl_ (some 14) Try.func87 #[.slice A0_1 l0_1.length c0_1, .slice A1_1 l1_1.length c1_1] (h := ?_); (with_reducible refine (laws_eqRowS.calls k _ _ l0_1 _ _ l1_1 true _ ?side1 ?side2 ?side3 ?side4 A4.out).mono ?_); (case side1 => exact kcb); (case side2 => exact HC0_1.out); (case side3 => exact kcb); (case side4 => exact HC1_1.out); rintro e w18 ⟨rfl, hb⟩; refine ⟨_, rfl, ?_⟩; replace BK301 := Aside0.mk (blb BK301 hb); replace BK302 := Aside0.mk (blb BK302 hb); replace HB := Aside0.mk (below_step bel hb); (try clear hb); (try clear hb2); (try clear hk); (try clear hi); obtain ⟨hcz19_0, hcz19_1, hcz19_2, hcz19_3, hcz19_4, hcz19_5, -⟩ := cells_6 BK301.out trivial; obtain ⟨hfz19_0, hfz19_1, hfz19_2, hfz19_3, hfz19_4, hfz19_5, -⟩ := frz_6 BK301.out; obtain ⟨hcz20_0, hcz20_1, hcz20_2, hcz20_3, hcz20_4, hcz20_5, -⟩ := cells_6 BK302.out trivial; obtain ⟨hfz20_0, hfz20_1, hfz20_2, hfz20_3, hfz20_4, hfz20_5, -⟩ := frz_6 BK302.out) | ((with_reducible refine gate_callee (f := 88) rfl ?_); refine gl_ (some 20) Try.func88 #[.slice A0_2 l0_2.length c0_2, .slice A1_2 l1_2.length c1_2] (h := ?_); (with_reducible refine (laws_eqTombS.calls k _ _ l0_2 _ _ l1_2 true _ ?side1 ?side2 ?side3 ?side4 A6.out).mono ?_); (case side1 => exact kcb); (case side2 => exact HC0_2.out); (case side3 => exact kcb); (case side4 => exact HC1_2.out); rintro e w21 ⟨rfl, hb⟩; refine ⟨_, rfl, ?_⟩; replace BK301 := Aside0.mk (blb BK301 hb); replace BK302 := Aside0.mk (blb BK302 hb); replace HB := Aside0.mk (below_step bel hb); (try clear hb); (try clear hb2); (try clear hk); (try clear hi); obtain ⟨hcz22_0, hcz22_1, hcz22_2, hcz22_3, hcz22_4, hcz22_5, -⟩ := cells_6 BK301.out trivial; obtain ⟨hfz22_0, hfz22_1, hfz22_2, hfz22_3, hfz22_4, hfz22_5, -⟩ := frz_6 BK301.out; obtain ⟨hcz23_0, hcz23_1, hcz23_2, hcz23_3, hcz23_4, hcz23_5, -⟩ := cells_6 BK302.out trivial; obtain ⟨hfz23_0, hfz23_1, hfz23_2, hfz23_3, hfz23_4, hfz23_5, -⟩ := frz_6 BK302.out) | ((with_reducible refine gate_callee (f := 89) rfl ?_); refine gl_ (some 31) Try.func89 #[.slice A0_4 l0_4.length c0_4, .slice A1_4 l1_4.length c1_4] (h := ?_); (with_reducible refine (laws_eqSessionS.calls k _ _ l0_4 _ _ l1_4 true _ ?side1 ?side2 ?side3 ?side4 A9.out).mono ?_); (case side1 => exact kcb); (case side2 => exact HC0_4.out); (case side3 => exact kcb); (case side4 => exact HC1_4.out); rintro e w24 ⟨rfl, hb⟩; refine ⟨_, rfl, ?_⟩; replace BK301 := Aside0.mk (blb BK301 hb); replace BK302 := Aside0.mk (blb BK302 hb); replace HB := Aside0.mk (below_step bel hb); (try clear hb); (try clear hb2); (try clear hk); (try clear hi); obtain ⟨hcz25_0, hcz25_1, hcz25_2, hcz25_3, hcz25_4, hcz25_5, -⟩ := cells_6 BK301.out trivial; obtain ⟨hfz25_0, hfz25_1, hfz25_2, hfz25_3, hfz25_4, hfz25_5, -⟩ := frz_6 BK301.out; obtain ⟨hcz26_0, hcz26_1, hcz26_2, hcz26_3, hcz26_4, hcz26_5, -⟩ := cells_6 BK302.out trivial; obtain ⟨hfz26_0, hfz26_1, hfz26_2, hfz26_3, hfz26_4, hfz26_5, -⟩ := frz_6 BK302.out) | ((with_reducible refine gate_callee (f := 90) rfl ?_); refine gl_ (some 37) Try.func90 #[.slice A0_5 l0_5.length c0_5, .slice A1_5 l1_5.length c1_5] (h := ?_); (with_reducible refine (laws_eqLastS.calls k _ _ l0_5 _ _ l1_5 true _ ?side1 ?side2 ?side3 ?side4 A11.out).mono ?_); (case side1 => exact kcb); (case side2 => exact HC0_5.out); (case side3 => exact kcb); (case side4 => exact HC1_5.out); rintro e w27 ⟨rfl, hb⟩; refine ⟨_, rfl, ?_⟩; replace BK301 := Aside0.mk (blb BK301 hb); replace BK302 := Aside0.mk (blb BK302 hb); replace HB := Aside0.mk (below_step bel hb); (try clear hb); (try clear hb2); (try clear hk); (try clear hi)))
       go_ret
       exact ⟨rz_, bel⟩
      replace c12 := Bool.eq_false_iff.mpr c12
      subst c12
      have H1 : (some false) = some r := by rw [if_neg (show ¬ (false = true) by decide)] at H; exact H
      clear H
      have H := H1
      clear H1
      obtain rfl := Option.some.inj H
      go_enter Try.func19, Try.ntmps19
      go_wp2_with (first | ((with_reducible refine gate_dst (N := 2) rfl ?_); refine bx_ 2 #[.int .i64 a0_0, .slice A0_1 l0_1.length c0_1, .slice A0_2 l0_2.length c0_2, .int .i64 a0_3, .slice A0_4 l0_4.length c0_4, .slice A0_5 l0_5.length c0_5] 35 (h := ?_); intro gb301 hg w28 hbox hb; have BK301 := Aside0.mk (hbox); have GW301 := Aside0.mk ((by rw [hg]; exact (below_size bel) : w.heap.size ≤ gb301)); have GE301 := GW301; replace HB := Aside0.mk (below_step bel hb); clear hb hbox hg) | ((with_reducible refine gate_dst (N := 3) rfl ?_); refine bx_ 3 #[.int .i64 a1_0, .slice A1_1 l1_1.length c1_1, .slice A1_2 l1_2.length c1_2, .int .i64 a1_3, .slice A1_4 l1_4.length c1_4, .slice A1_5 l1_5.length c1_5] 35 (h := ?_); intro gb302 hg w29 hbox hb; have BK302 := Aside0.mk (hbox); have GW302 := Aside0.mk ((by rw [hg]; exact (below_size bel) : w.heap.size ≤ gb302)); have GE302 := GW302; have NB301_302 := Aside0.mk ((by rw [hg]; exact Nat.ne_of_lt (blt BK301) : gb301 ≠ gb302)); have NB302_301 := Aside0.mk NB301_302.out.symm; replace BK301 := Aside0.mk (blb BK301 hb); replace HB := Aside0.mk (below_step bel hb); clear hb hbox hg; have hnb30 := NB301_302.out; have hnc30 := NB302_301.out; obtain ⟨hcz31_0, hcz31_1, hcz31_2, hcz31_3, hcz31_4, hcz31_5, -⟩ := cells_6 BK301.out trivial; obtain ⟨hfz31_0, hfz31_1, hfz31_2, hfz31_3, hfz31_4, hfz31_5, -⟩ := frz_6 BK301.out; obtain ⟨hcz32_0, hcz32_1, hcz32_2, hcz32_3, hcz32_4, hcz32_5, -⟩ := cells_6 BK302.out trivial; obtain ⟨hfz32_0, hfz32_1, hfz32_2, hfz32_3, hfz32_4, hfz32_5, -⟩ := frz_6 BK302.out) | ((with_reducible refine gate_callee (f := 87) rfl ?_); refine gl_ (some 14) Try.func87 #[.slice A0_1 l0_1.length c0_1, .slice A1_1 l1_1.length c1_1] (h := ?_); (with_reducible refine (laws_eqRowS.calls k _ _ l0_1 _ _ l1_1 true _ ?side1 ?side2 ?side3 ?side4 A4.out).mono ?_); (case side1 => exact kcb); (case side2 => exact HC0_1.out); (case side3 => exact kcb); (case side4 => exact HC1_1.out); rintro e w33 ⟨rfl, hb⟩; refine ⟨_, rfl, ?_⟩; replace BK301 := Aside0.mk (blb BK301 hb); replace BK302 := Aside0.mk (blb BK302 hb); replace HB := Aside0.mk (below_step bel hb); (try clear hb); (try clear hb2); (try clear hk); (try clear hi); obtain ⟨hcz34_0, hcz34_1, hcz34_2, hcz34_3, hcz34_4, hcz34_5, -⟩ := cells_6 BK301.out trivial; obtain ⟨hfz34_0, hfz34_1, hfz34_2, hfz34_3, hfz34_4, hfz34_5, -⟩ := frz_6 BK301.out; obtain ⟨hcz35_0, hcz35_1, hcz35_2, hcz35_3, hcz35_4, hcz35_5, -⟩ := cells_6 BK302.out trivial; obtain ⟨hfz35_0, hfz35_1, hfz35_2, hfz35_3, hfz35_4, hfz35_5, -⟩ := frz_6 BK302.out) | ((with_reducible refine gate_callee (f := 88) rfl ?_); refine gl_ (some 20) Try.func88 #[.slice A0_2 l0_2.length c0_2, .slice A1_2 l1_2.length c1_2] (h := ?_); (with_reducible refine (laws_eqTombS.calls k _ _ l0_2 _ _ l1_2 true _ ?side1 ?side2 ?side3 ?side4 A6.out).mono ?_); (case side1 => exact kcb); (case side2 => exact HC0_2.out); (case side3 => exact kcb); (case side4 => exact HC1_2.out); rintro e w36 ⟨rfl, hb⟩; refine ⟨_, rfl, ?_⟩; replace BK301 := Aside0.mk (blb BK301 hb); replace BK302 := Aside0.mk (blb BK302 hb); replace HB := Aside0.mk (below_step bel hb); (try clear hb); (try clear hb2); (try clear hk); (try clear hi); obtain ⟨hcz37_0, hcz37_1, hcz37_2, hcz37_3, hcz37_4, hcz37_5, -⟩ := cells_6 BK301.out trivial; obtain ⟨hfz37_0, hfz37_1, hfz37_2, hfz37_3, hfz37_4, hfz37_5, -⟩ := frz_6 BK301.out; obtain ⟨hcz38_0, hcz38_1, hcz38_2, hcz38_3, hcz38_4, hcz38_5, -⟩ := cells_6 BK302.out trivial; obtain ⟨hfz38_0, hfz38_1, hfz38_2, hfz38_3, hfz38_4, hfz38_5, -⟩ := frz_6 BK302.out) | ((with_reducible refine gate_callee (f := 89) rfl ?_); refine gl_ (some 31) Try.func89 #[.slice A0_4 l0_4.length c0_4, .slice A1_4 l1_4.length c1_4] (h := ?_); (with_reducible refine (laws_eqSessionS.calls k _ _ l0_4 _ _ l1_4 true _ ?side1 ?side2 ?side3 ?side4 A9.out).mono ?_); (case side1 => exact kcb); (case side2 => exact HC0_4.out); (case side3 => exact kcb); (case side4 => exact HC1_4.out); rintro e w39 ⟨rfl, hb⟩; refine ⟨_, rfl, ?_⟩; replace BK301 := Aside0.mk (blb BK301 hb); replace BK302 := Aside0.mk (blb BK302 hb); replace HB := Aside0.mk (below_step bel hb); (try clear hb); (try clear hb2); (try clear hk); (try clear hi); obtain ⟨hcz40_0, hcz40_1, hcz40_2, hcz40_3, hcz40_4, hcz40_5, -⟩ := cells_6 BK301.out trivial; obtain ⟨hfz40_0, hfz40_1, hfz40_2, hfz40_3, hfz40_4, hfz40_5, -⟩ := frz_6 BK301.out; obtain ⟨hcz41_0, hcz41_1, hcz41_2, hcz41_3, hcz41_4, hcz41_5, -⟩ := cells_6 BK302.out trivial; obtain ⟨hfz41_0, hfz41_1, hfz41_2, hfz41_3, hfz41_4, hfz41_5, -⟩ := frz_6 BK302.out) | ((with_reducible refine gate_callee (f := 90) rfl ?_); refine gl_ (some 37) Try.func90 #[.slice A0_5 l0_5.length c0_5, .slice A1_5 l1_5.length c1_5] (h := ?_); (with_reducible refine (laws_eqLastS.calls k _ _ l0_5 _ _ l1_5 false _ ?side1 ?side2 ?side3 ?side4 A11.out).mono ?_); (case side1 => exact kcb); (case side2 => exact HC0_5.out); (case side3 => exact kcb); (case side4 => exact HC1_5.out); rintro e w42 ⟨rfl, hb⟩; refine ⟨_, rfl, ?_⟩; replace BK301 := Aside0.mk (blb BK301 hb); replace BK302 := Aside0.mk (blb BK302 hb); replace HB := Aside0.mk (below_step bel hb); (try clear hb); (try clear hb2); (try clear hk); (try clear hi)))
      go_ret
      exact ⟨rz_, bel⟩
     replace c10 := Bool.eq_false_iff.mpr c10
     subst c10
     have H1 : (some false) = some r := by rw [if_neg (show ¬ (false = true) by decide)] at H; exact H
     clear H
     have H := H1
     clear H1
     obtain rfl := Option.some.inj H
     go_enter Try.func19, Try.ntmps19
     go_wp2_with (first | ((with_reducible refine gate_dst (N := 2) rfl ?_); refine bx_ 2 #[.int .i64 a0_0, .slice A0_1 l0_1.length c0_1, .slice A0_2 l0_2.length c0_2, .int .i64 a0_3, .slice A0_4 l0_4.length c0_4, .slice A0_5 l0_5.length c0_5] 35 (h := ?_); intro gb301 hg w43 hbox hb; have BK301 := Aside0.mk (hbox); have GW301 := Aside0.mk ((by rw [hg]; exact (below_size bel) : w.heap.size ≤ gb301)); have GE301 := GW301; replace HB := Aside0.mk (below_step bel hb); clear hb hbox hg) | ((with_reducible refine gate_dst (N := 3) rfl ?_); refine bx_ 3 #[.int .i64 a1_0, .slice A1_1 l1_1.length c1_1, .slice A1_2 l1_2.length c1_2, .int .i64 a1_3, .slice A1_4 l1_4.length c1_4, .slice A1_5 l1_5.length c1_5] 35 (h := ?_); intro gb302 hg w44 hbox hb; have BK302 := Aside0.mk (hbox); have GW302 := Aside0.mk ((by rw [hg]; exact (below_size bel) : w.heap.size ≤ gb302)); have GE302 := GW302; have NB301_302 := Aside0.mk ((by rw [hg]; exact Nat.ne_of_lt (blt BK301) : gb301 ≠ gb302)); have NB302_301 := Aside0.mk NB301_302.out.symm; replace BK301 := Aside0.mk (blb BK301 hb); replace HB := Aside0.mk (below_step bel hb); clear hb hbox hg; have hnb45 := NB301_302.out; have hnc45 := NB302_301.out; obtain ⟨hcz46_0, hcz46_1, hcz46_2, hcz46_3, hcz46_4, hcz46_5, -⟩ := cells_6 BK301.out trivial; obtain ⟨hfz46_0, hfz46_1, hfz46_2, hfz46_3, hfz46_4, hfz46_5, -⟩ := frz_6 BK301.out; obtain ⟨hcz47_0, hcz47_1, hcz47_2, hcz47_3, hcz47_4, hcz47_5, -⟩ := cells_6 BK302.out trivial; obtain ⟨hfz47_0, hfz47_1, hfz47_2, hfz47_3, hfz47_4, hfz47_5, -⟩ := frz_6 BK302.out) | ((with_reducible refine gate_callee (f := 87) rfl ?_); refine gl_ (some 14) Try.func87 #[.slice A0_1 l0_1.length c0_1, .slice A1_1 l1_1.length c1_1] (h := ?_); (with_reducible refine (laws_eqRowS.calls k _ _ l0_1 _ _ l1_1 true _ ?side1 ?side2 ?side3 ?side4 A4.out).mono ?_); (case side1 => exact kcb); (case side2 => exact HC0_1.out); (case side3 => exact kcb); (case side4 => exact HC1_1.out); rintro e w48 ⟨rfl, hb⟩; refine ⟨_, rfl, ?_⟩; replace BK301 := Aside0.mk (blb BK301 hb); replace BK302 := Aside0.mk (blb BK302 hb); replace HB := Aside0.mk (below_step bel hb); (try clear hb); (try clear hb2); (try clear hk); (try clear hi); obtain ⟨hcz49_0, hcz49_1, hcz49_2, hcz49_3, hcz49_4, hcz49_5, -⟩ := cells_6 BK301.out trivial; obtain ⟨hfz49_0, hfz49_1, hfz49_2, hfz49_3, hfz49_4, hfz49_5, -⟩ := frz_6 BK301.out; obtain ⟨hcz50_0, hcz50_1, hcz50_2, hcz50_3, hcz50_4, hcz50_5, -⟩ := cells_6 BK302.out trivial; obtain ⟨hfz50_0, hfz50_1, hfz50_2, hfz50_3, hfz50_4, hfz50_5, -⟩ := frz_6 BK302.out) | ((with_reducible refine gate_callee (f := 88) rfl ?_); refine gl_ (some 20) Try.func88 #[.slice A0_2 l0_2.length c0_2, .slice A1_2 l1_2.length c1_2] (h := ?_); (with_reducible refine (laws_eqTombS.calls k _ _ l0_2 _ _ l1_2 true _ ?side1 ?side2 ?side3 ?side4 A6.out).mono ?_); (case side1 => exact kcb); (case side2 => exact HC0_2.out); (case side3 => exact kcb); (case side4 => exact HC1_2.out); rintro e w51 ⟨rfl, hb⟩; refine ⟨_, rfl, ?_⟩; replace BK301 := Aside0.mk (blb BK301 hb); replace BK302 := Aside0.mk (blb BK302 hb); replace HB := Aside0.mk (below_step bel hb); (try clear hb); (try clear hb2); (try clear hk); (try clear hi); obtain ⟨hcz52_0, hcz52_1, hcz52_2, hcz52_3, hcz52_4, hcz52_5, -⟩ := cells_6 BK301.out trivial; obtain ⟨hfz52_0, hfz52_1, hfz52_2, hfz52_3, hfz52_4, hfz52_5, -⟩ := frz_6 BK301.out; obtain ⟨hcz53_0, hcz53_1, hcz53_2, hcz53_3, hcz53_4, hcz53_5, -⟩ := cells_6 BK302.out trivial; obtain ⟨hfz53_0, hfz53_1, hfz53_2, hfz53_3, hfz53_4, hfz53_5, -⟩ := frz_6 BK302.out) | ((with_reducible refine gate_callee (f := 89) rfl ?_); refine gl_ (some 31) Try.func89 #[.slice A0_4 l0_4.length c0_4, .slice A1_4 l1_4.length c1_4] (h := ?_); (with_reducible refine (laws_eqSessionS.calls k _ _ l0_4 _ _ l1_4 false _ ?side1 ?side2 ?side3 ?side4 A9.out).mono ?_); (case side1 => exact kcb); (case side2 => exact HC0_4.out); (case side3 => exact kcb); (case side4 => exact HC1_4.out); rintro e w54 ⟨rfl, hb⟩; refine ⟨_, rfl, ?_⟩; replace BK301 := Aside0.mk (blb BK301 hb); replace BK302 := Aside0.mk (blb BK302 hb); replace HB := Aside0.mk (below_step bel hb); (try clear hb); (try clear hb2); (try clear hk); (try clear hi)))
     go_ret
     exact ⟨rz_, bel⟩
    rw [if_neg c8] at H
    have c8b0 : (a0_3 == a1_3) = false := beq_eq_false_iff_ne.mpr c8
    have c8b1 : (a0_3 != a1_3) = true := bne_iff_ne.mpr c8
    obtain rfl := Option.some.inj H
    go_enter Try.func19, Try.ntmps19
    go_wp2_with (first | ((with_reducible refine gate_dst (N := 2) rfl ?_); refine bx_ 2 #[.int .i64 a0_0, .slice A0_1 l0_1.length c0_1, .slice A0_2 l0_2.length c0_2, .int .i64 a0_3, .slice A0_4 l0_4.length c0_4, .slice A0_5 l0_5.length c0_5] 35 (h := ?_); intro gb301 hg w55 hbox hb; have BK301 := Aside0.mk (hbox); have GW301 := Aside0.mk ((by rw [hg]; exact (below_size bel) : w.heap.size ≤ gb301)); have GE301 := GW301; replace HB := Aside0.mk (below_step bel hb); clear hb hbox hg) | ((with_reducible refine gate_dst (N := 3) rfl ?_); refine bx_ 3 #[.int .i64 a1_0, .slice A1_1 l1_1.length c1_1, .slice A1_2 l1_2.length c1_2, .int .i64 a1_3, .slice A1_4 l1_4.length c1_4, .slice A1_5 l1_5.length c1_5] 35 (h := ?_); intro gb302 hg w56 hbox hb; have BK302 := Aside0.mk (hbox); have GW302 := Aside0.mk ((by rw [hg]; exact (below_size bel) : w.heap.size ≤ gb302)); have GE302 := GW302; have NB301_302 := Aside0.mk ((by rw [hg]; exact Nat.ne_of_lt (blt BK301) : gb301 ≠ gb302)); have NB302_301 := Aside0.mk NB301_302.out.symm; replace BK301 := Aside0.mk (blb BK301 hb); replace HB := Aside0.mk (below_step bel hb); clear hb hbox hg; have hnb57 := NB301_302.out; have hnc57 := NB302_301.out; obtain ⟨hcz58_0, hcz58_1, hcz58_2, hcz58_3, hcz58_4, hcz58_5, -⟩ := cells_6 BK301.out trivial; obtain ⟨hfz58_0, hfz58_1, hfz58_2, hfz58_3, hfz58_4, hfz58_5, -⟩ := frz_6 BK301.out; obtain ⟨hcz59_0, hcz59_1, hcz59_2, hcz59_3, hcz59_4, hcz59_5, -⟩ := cells_6 BK302.out trivial; obtain ⟨hfz59_0, hfz59_1, hfz59_2, hfz59_3, hfz59_4, hfz59_5, -⟩ := frz_6 BK302.out) | ((with_reducible refine gate_callee (f := 87) rfl ?_); refine gl_ (some 14) Try.func87 #[.slice A0_1 l0_1.length c0_1, .slice A1_1 l1_1.length c1_1] (h := ?_); (with_reducible refine (laws_eqRowS.calls k _ _ l0_1 _ _ l1_1 true _ ?side1 ?side2 ?side3 ?side4 A4.out).mono ?_); (case side1 => exact kcb); (case side2 => exact HC0_1.out); (case side3 => exact kcb); (case side4 => exact HC1_1.out); rintro e w60 ⟨rfl, hb⟩; refine ⟨_, rfl, ?_⟩; replace BK301 := Aside0.mk (blb BK301 hb); replace BK302 := Aside0.mk (blb BK302 hb); replace HB := Aside0.mk (below_step bel hb); (try clear hb); (try clear hb2); (try clear hk); (try clear hi); obtain ⟨hcz61_0, hcz61_1, hcz61_2, hcz61_3, hcz61_4, hcz61_5, -⟩ := cells_6 BK301.out trivial; obtain ⟨hfz61_0, hfz61_1, hfz61_2, hfz61_3, hfz61_4, hfz61_5, -⟩ := frz_6 BK301.out; obtain ⟨hcz62_0, hcz62_1, hcz62_2, hcz62_3, hcz62_4, hcz62_5, -⟩ := cells_6 BK302.out trivial; obtain ⟨hfz62_0, hfz62_1, hfz62_2, hfz62_3, hfz62_4, hfz62_5, -⟩ := frz_6 BK302.out) | ((with_reducible refine gate_callee (f := 88) rfl ?_); refine gl_ (some 20) Try.func88 #[.slice A0_2 l0_2.length c0_2, .slice A1_2 l1_2.length c1_2] (h := ?_); (with_reducible refine (laws_eqTombS.calls k _ _ l0_2 _ _ l1_2 true _ ?side1 ?side2 ?side3 ?side4 A6.out).mono ?_); (case side1 => exact kcb); (case side2 => exact HC0_2.out); (case side3 => exact kcb); (case side4 => exact HC1_2.out); rintro e w63 ⟨rfl, hb⟩; refine ⟨_, rfl, ?_⟩; replace BK301 := Aside0.mk (blb BK301 hb); replace BK302 := Aside0.mk (blb BK302 hb); replace HB := Aside0.mk (below_step bel hb); (try clear hb); (try clear hb2); (try clear hk); (try clear hi); obtain ⟨hcz64_0, hcz64_1, hcz64_2, hcz64_3, hcz64_4, hcz64_5, -⟩ := cells_6 BK301.out trivial; obtain ⟨hfz64_0, hfz64_1, hfz64_2, hfz64_3, hfz64_4, hfz64_5, -⟩ := frz_6 BK301.out; obtain ⟨hcz65_0, hcz65_1, hcz65_2, hcz65_3, hcz65_4, hcz65_5, -⟩ := cells_6 BK302.out trivial; obtain ⟨hfz65_0, hfz65_1, hfz65_2, hfz65_3, hfz65_4, hfz65_5, -⟩ := frz_6 BK302.out))
    go_ret
    exact ⟨rz_, bel⟩
   replace c7 := Bool.eq_false_iff.mpr c7
   subst c7
   have H1 : (some false) = some r := by rw [if_neg (show ¬ (false = true) by decide)] at H; exact H
   clear H
   have H := H1
   clear H1
   obtain rfl := Option.some.inj H
   go_enter Try.func19, Try.ntmps19
   go_wp2_with (first | ((with_reducible refine gate_dst (N := 2) rfl ?_); refine bx_ 2 #[.int .i64 a0_0, .slice A0_1 l0_1.length c0_1, .slice A0_2 l0_2.length c0_2, .int .i64 a0_3, .slice A0_4 l0_4.length c0_4, .slice A0_5 l0_5.length c0_5] 35 (h := ?_); intro gb301 hg w66 hbox hb; have BK301 := Aside0.mk (hbox); have GW301 := Aside0.mk ((by rw [hg]; exact (below_size bel) : w.heap.size ≤ gb301)); have GE301 := GW301; replace HB := Aside0.mk (below_step bel hb); clear hb hbox hg) | ((with_reducible refine gate_dst (N := 3) rfl ?_); refine bx_ 3 #[.int .i64 a1_0, .slice A1_1 l1_1.length c1_1, .slice A1_2 l1_2.length c1_2, .int .i64 a1_3, .slice A1_4 l1_4.length c1_4, .slice A1_5 l1_5.length c1_5] 35 (h := ?_); intro gb302 hg w67 hbox hb; have BK302 := Aside0.mk (hbox); have GW302 := Aside0.mk ((by rw [hg]; exact (below_size bel) : w.heap.size ≤ gb302)); have GE302 := GW302; have NB301_302 := Aside0.mk ((by rw [hg]; exact Nat.ne_of_lt (blt BK301) : gb301 ≠ gb302)); have NB302_301 := Aside0.mk NB301_302.out.symm; replace BK301 := Aside0.mk (blb BK301 hb); replace HB := Aside0.mk (below_step bel hb); clear hb hbox hg; have hnb68 := NB301_302.out; have hnc68 := NB302_301.out; obtain ⟨hcz69_0, hcz69_1, hcz69_2, hcz69_3, hcz69_4, hcz69_5, -⟩ := cells_6 BK301.out trivial; obtain ⟨hfz69_0, hfz69_1, hfz69_2, hfz69_3, hfz69_4, hfz69_5, -⟩ := frz_6 BK301.out; obtain ⟨hcz70_0, hcz70_1, hcz70_2, hcz70_3, hcz70_4, hcz70_5, -⟩ := cells_6 BK302.out trivial; obtain ⟨hfz70_0, hfz70_1, hfz70_2, hfz70_3, hfz70_4, hfz70_5, -⟩ := frz_6 BK302.out) | ((with_reducible refine gate_callee (f := 87) rfl ?_); refine gl_ (some 14) Try.func87 #[.slice A0_1 l0_1.length c0_1, .slice A1_1 l1_1.length c1_1] (h := ?_); (with_reducible refine (laws_eqRowS.calls k _ _ l0_1 _ _ l1_1 true _ ?side1 ?side2 ?side3 ?side4 A4.out).mono ?_); (case side1 => exact kcb); (case side2 => exact HC0_1.out); (case side3 => exact kcb); (case side4 => exact HC1_1.out); rintro e w71 ⟨rfl, hb⟩; refine ⟨_, rfl, ?_⟩; replace BK301 := Aside0.mk (blb BK301 hb); replace BK302 := Aside0.mk (blb BK302 hb); replace HB := Aside0.mk (below_step bel hb); (try clear hb); (try clear hb2); (try clear hk); (try clear hi); obtain ⟨hcz72_0, hcz72_1, hcz72_2, hcz72_3, hcz72_4, hcz72_5, -⟩ := cells_6 BK301.out trivial; obtain ⟨hfz72_0, hfz72_1, hfz72_2, hfz72_3, hfz72_4, hfz72_5, -⟩ := frz_6 BK301.out; obtain ⟨hcz73_0, hcz73_1, hcz73_2, hcz73_3, hcz73_4, hcz73_5, -⟩ := cells_6 BK302.out trivial; obtain ⟨hfz73_0, hfz73_1, hfz73_2, hfz73_3, hfz73_4, hfz73_5, -⟩ := frz_6 BK302.out) | ((with_reducible refine gate_callee (f := 88) rfl ?_); refine gl_ (some 20) Try.func88 #[.slice A0_2 l0_2.length c0_2, .slice A1_2 l1_2.length c1_2] (h := ?_); (with_reducible refine (laws_eqTombS.calls k _ _ l0_2 _ _ l1_2 false _ ?side1 ?side2 ?side3 ?side4 A6.out).mono ?_); (case side1 => exact kcb); (case side2 => exact HC0_2.out); (case side3 => exact kcb); (case side4 => exact HC1_2.out); rintro e w74 ⟨rfl, hb⟩; refine ⟨_, rfl, ?_⟩; replace BK301 := Aside0.mk (blb BK301 hb); replace BK302 := Aside0.mk (blb BK302 hb); replace HB := Aside0.mk (below_step bel hb); (try clear hb); (try clear hb2); (try clear hk); (try clear hi)))
   go_ret
   exact ⟨rz_, bel⟩
  replace c5 := Bool.eq_false_iff.mpr c5
  subst c5
  have H1 : (some false) = some r := by rw [if_neg (show ¬ (false = true) by decide)] at H; exact H
  clear H
  have H := H1
  clear H1
  obtain rfl := Option.some.inj H
  go_enter Try.func19, Try.ntmps19
  go_wp2_with (first | ((with_reducible refine gate_dst (N := 2) rfl ?_); refine bx_ 2 #[.int .i64 a0_0, .slice A0_1 l0_1.length c0_1, .slice A0_2 l0_2.length c0_2, .int .i64 a0_3, .slice A0_4 l0_4.length c0_4, .slice A0_5 l0_5.length c0_5] 35 (h := ?_); intro gb301 hg w75 hbox hb; have BK301 := Aside0.mk (hbox); have GW301 := Aside0.mk ((by rw [hg]; exact (below_size bel) : w.heap.size ≤ gb301)); have GE301 := GW301; replace HB := Aside0.mk (below_step bel hb); clear hb hbox hg) | ((with_reducible refine gate_dst (N := 3) rfl ?_); refine bx_ 3 #[.int .i64 a1_0, .slice A1_1 l1_1.length c1_1, .slice A1_2 l1_2.length c1_2, .int .i64 a1_3, .slice A1_4 l1_4.length c1_4, .slice A1_5 l1_5.length c1_5] 35 (h := ?_); intro gb302 hg w76 hbox hb; have BK302 := Aside0.mk (hbox); have GW302 := Aside0.mk ((by rw [hg]; exact (below_size bel) : w.heap.size ≤ gb302)); have GE302 := GW302; have NB301_302 := Aside0.mk ((by rw [hg]; exact Nat.ne_of_lt (blt BK301) : gb301 ≠ gb302)); have NB302_301 := Aside0.mk NB301_302.out.symm; replace BK301 := Aside0.mk (blb BK301 hb); replace HB := Aside0.mk (below_step bel hb); clear hb hbox hg; have hnb77 := NB301_302.out; have hnc77 := NB302_301.out; obtain ⟨hcz78_0, hcz78_1, hcz78_2, hcz78_3, hcz78_4, hcz78_5, -⟩ := cells_6 BK301.out trivial; obtain ⟨hfz78_0, hfz78_1, hfz78_2, hfz78_3, hfz78_4, hfz78_5, -⟩ := frz_6 BK301.out; obtain ⟨hcz79_0, hcz79_1, hcz79_2, hcz79_3, hcz79_4, hcz79_5, -⟩ := cells_6 BK302.out trivial; obtain ⟨hfz79_0, hfz79_1, hfz79_2, hfz79_3, hfz79_4, hfz79_5, -⟩ := frz_6 BK302.out) | ((with_reducible refine gate_callee (f := 87) rfl ?_); refine gl_ (some 14) Try.func87 #[.slice A0_1 l0_1.length c0_1, .slice A1_1 l1_1.length c1_1] (h := ?_); (with_reducible refine (laws_eqRowS.calls k _ _ l0_1 _ _ l1_1 false _ ?side1 ?side2 ?side3 ?side4 A4.out).mono ?_); (case side1 => exact kcb); (case side2 => exact HC0_1.out); (case side3 => exact kcb); (case side4 => exact HC1_1.out); rintro e w80 ⟨rfl, hb⟩; refine ⟨_, rfl, ?_⟩; replace BK301 := Aside0.mk (blb BK301 hb); replace BK302 := Aside0.mk (blb BK302 hb); replace HB := Aside0.mk (below_step bel hb); (try clear hb); (try clear hb2); (try clear hk); (try clear hi)))
  go_ret
  exact ⟨rz_, bel⟩
 rw [if_neg c3] at H
 have c3b0 : (a0_0 == a1_0) = false := beq_eq_false_iff_ne.mpr c3
 have c3b1 : (a0_0 != a1_0) = true := bne_iff_ne.mpr c3
 obtain rfl := Option.some.inj H
 go_enter Try.func19, Try.ntmps19
 go_wp2_with (first | ((with_reducible refine gate_dst (N := 2) rfl ?_); refine bx_ 2 #[.int .i64 a0_0, .slice A0_1 l0_1.length c0_1, .slice A0_2 l0_2.length c0_2, .int .i64 a0_3, .slice A0_4 l0_4.length c0_4, .slice A0_5 l0_5.length c0_5] 35 (h := ?_); intro gb301 hg w81 hbox hb; have BK301 := Aside0.mk (hbox); have GW301 := Aside0.mk ((by rw [hg]; exact (below_size bel) : w.heap.size ≤ gb301)); have GE301 := GW301; replace HB := Aside0.mk (below_step bel hb); clear hb hbox hg) | ((with_reducible refine gate_dst (N := 3) rfl ?_); refine bx_ 3 #[.int .i64 a1_0, .slice A1_1 l1_1.length c1_1, .slice A1_2 l1_2.length c1_2, .int .i64 a1_3, .slice A1_4 l1_4.length c1_4, .slice A1_5 l1_5.length c1_5] 35 (h := ?_); intro gb302 hg w82 hbox hb; have BK302 := Aside0.mk (hbox); have GW302 := Aside0.mk ((by rw [hg]; exact (below_size bel) : w.heap.size ≤ gb302)); have GE302 := GW302; have NB301_302 := Aside0.mk ((by rw [hg]; exact Nat.ne_of_lt (blt BK301) : gb301 ≠ gb302)); have NB302_301 := Aside0.mk NB301_302.out.symm; replace BK301 := Aside0.mk (blb BK301 hb); replace HB := Aside0.mk (below_step bel hb); clear hb hbox hg; have hnb83 := NB301_302.out; have hnc83 := NB302_301.out; obtain ⟨hcz84_0, hcz84_1, hcz84_2, hcz84_3, hcz84_4, hcz84_5, -⟩ := cells_6 BK301.out trivial; obtain ⟨hfz84_0, hfz84_1, hfz84_2, hfz84_3, hfz84_4, hfz84_5, -⟩ := frz_6 BK301.out; obtain ⟨hcz85_0, hcz85_1, hcz85_2, hcz85_3, hcz85_4, hcz85_5, -⟩ := cells_6 BK302.out trivial; obtain ⟨hfz85_0, hfz85_1, hfz85_2, hfz85_3, hfz85_4, hfz85_5, -⟩ := frz_6 BK302.out))
 go_ret
 exact ⟨rz_, bel⟩

end Go.Proofs.Ytdgegnakiljfjaa.PA
