-- Written for this claim by the session's program pp.py, out of the kit's print and the seat's translation.
import Derived.Test.YtdgegnakiljfjaaPTx0
import Derived.Test.YtdgegnakiljfjaaPTx3
namespace Go.Proofs.Ytdgegnakiljfjaa.PT
open Go.RowKit Go.Proofs.YtdgegnakiljfjaaW.PrintWords Go.Proofs.YtdgegnakiljfjaaW.PrintLast Go.Proofs.YtdgegnakiljfjaaW.PrintMore
attribute [local go_sem] max2_int min2_int max_two min_two max_three min_three max_four min_four   -- for this text's walks alone
set_option linter.unusedVariables false
set_option linter.unusedSimpArgs false

/-! ### laws_eqSessionS: function 89 -/
def laws_eqSessionS.l0 : Nat → List (S109) → List (S109) → Int → Option (Bool)
 | 0, _, _, _ => none
 | k + 1, x0, x1, x5 => if x5 < (x0.length : Int) then (if 0 ≤ x5 then (if x5 < (x1.length : Int) then ((laws_eqSession.f ((rd_T109 x0 x5).f0) ((rd_T109 x0 x5).f1) ((rd_T109 x1 x5).f0) ((rd_T109 x1 x5).f1)).bind fun t218 => (if t218 = true then (laws_eqSessionS.l0 k x0 x1 (wrap64 (x5 + 1))) else (some false))) else (none)) else (none)) else (some true)
def laws_eqSessionS.f (k : Nat) (l0 : List (S109)) (l1 : List (S109)) : Option (Bool) := if (l0.length : Int) = (l1.length : Int) then (laws_eqSessionS.l0 k l0 l1 0) else (some false)
def laws_eqSessionS.T6 : Bool × List (List Nat × List Nat) := (true, [([], []), ([], []), ([0, 1], [0, 1]), ([2], [2]), ([], []), ([], []), ([4, 5], [4, 5]), ([6], [6]), ([3, 7], [3, 7]), ([8], [8])])
def laws_eqSessionS.B6 : List Nat := [0, 0, 3, 7, 0, 0, 48, 112, 255, 511]
theorem laws_eqSessionS.tab6 : rtab .any (opsOf Try.f89 6) = laws_eqSessionS.T6 := by kernel_rfl
theorem laws_eqSessionS.bits6 : waitsOk laws_eqSessionS.T6.2 laws_eqSessionS.B6 = true := by kernel_rfl
set_option maxHeartbeats 8000000 in
set_option maxRecDepth 100000 in
theorem laws_eqSessionS.calls (k : Nat) (A0 : Option Addr) (c0 : Nat) (l0 : List (S109)) (A1 : Option Addr) (c1 : Nat) (l1 : List (S109)) (r : Bool) (w : World) (hr0 : Kd.C k109 w A0 l0.length l0) (hc0 : l0.length ≤ c0) (hr1 : Kd.C k109 w A1 l1.length l1) (hc1 : l1.length ≤ c1) (h : laws_eqSessionS.f k l0 l1 = some r) :
  Calls Try.prog 89 #[.slice A0 l0.length c0, .slice A1 l1.length c1] w fun e w' => e = .returned (.bool r) ∧ Below w.heap.size w w' := by
 have hu109 := Try.underlying109
 have HR0 := Aside0.mk hr0
 have HC0 := Aside0.mk hc0
 clear hr0 hc0
 have HR1 := Aside0.mk hr1
 have HC1 := Aside0.mk hc1
 clear hr1 hc1
 have HB := Aside0.mk (Below.refl w.heap.size w)
 have H : (if (l0.length : Int) = (l1.length : Int) then (laws_eqSessionS.l0 k l0 l1 0) else (some false)) = some r := h
 clear h
 by_cases c3 : (l0.length : Int) = (l1.length : Int)
 ·rw [if_pos c3] at H
  have c3b0 : ((l0.length : Int) == (l1.length : Int)) = true := beq_iff_eq.mpr c3
  have c3b1 : ((l0.length : Int) != (l1.length : Int)) = false := bne_eq_false_iff_eq.mpr c3
  have c3b2 : (l0.length == l1.length) = true := by first | simpa using c3 | (simp at c3 ⊢; omega)
  clear c3
  have H' := Aside0.mk H
  clear H
  go_enter Try.func89, Try.ntmps89
  go_wp2
  go_loopg [5] k (fun kq v5 w' => ∃ (x5_1 : Int), v5 = .int .i64 x5_1 ∧ Aside0 (laws_eqSessionS.l0 kq l0 l1 x5_1 = some r) ∧ Aside0 (kq ≤ k) ∧ Aside0 (Below w.heap.size w w'))
  case atStart => exact ⟨(0), rs_, H', ⟨Nat.le_refl _⟩, ⟨bel⟩⟩
  case round =>
   clear H'
   try clear c1; try clear p2; try clear c3; try clear c3b0; try clear c3b1; try clear c3b2
   obtain ⟨x5_1, rfl, HA, HK1, HB⟩ := hrel
   cases gk with
   | zero => exact absurd HA.out (by simp [laws_eqSessionS.l0])
   | succ k1 =>
    have H := HA.out
    clear HA
    simp only [laws_eqSessionS.l0] at H
    by_cases c4 : x5_1 < (l0.length : Int)
    ·rw [if_pos c4] at H
     have c4b0 : decide (x5_1 < (l0.length : Int)) = true := decide_eq_true c4
     clear c4
     by_cases c5 : 0 ≤ x5_1
     ·rw [if_pos c5] at H
      have c5b0 : decide (0 ≤ x5_1) = true := decide_eq_true c5
      clear c5
      by_cases c6 : x5_1 < (l1.length : Int)
      ·rw [if_pos c6] at H
       have c6b0 : decide (x5_1 < (l1.length : Int)) = true := decide_eq_true c6
       clear c6
       replace H := Option.bind_eq_some_iff.mp H
       obtain ⟨t218, A70, H⟩ := H
       replace H : (if t218 = true then (laws_eqSessionS.l0 k1 l0 l1 (wrap64 (x5_1 + 1))) else (some false)) = some r := H
       have A7 := Aside0.mk A70
       clear A70
       by_cases c8 : t218 = true
       ·subst c8
        have H1 : (laws_eqSessionS.l0 k1 l0 l1 (wrap64 (x5_1 + 1))) = some r := by rw [if_pos rfl] at H; exact H
        clear H
        have H := H1
        clear H1
        have H' := Aside0.mk H
        clear H
        try go_wp2
        replace HB := Aside0.mk (below_drew1 HB.out)
        have p216 : 0 ≤ (x5_1 : Int) := od
        have q216 : x5_1 < (l0.length : Int) := od
        obtain ⟨ad216, e216, hx216_0, hx216_1⟩ := at_T109 HR0.out x5_1 p216 q216
        have hw216_1 := hx216_1
        have hw216_0 := hx216_0
        cases e216
        replace hx216_0 := hxb HB hx216_0
        replace hx216_1 := hxb HB hx216_1
        replace p216 := eq_true p216
        replace q216 := eq_true q216
        have p217 : 0 ≤ (x5_1 : Int) := od
        have q217 : x5_1 < (l1.length : Int) := od
        obtain ⟨ad217, e217, hx217_0, hx217_1⟩ := at_T109 HR1.out x5_1 p217 q217
        have hw217_1 := hx217_1
        have hw217_0 := hx217_0
        cases e217
        replace hx217_0 := hxb HB hx217_0
        replace hx217_1 := hxb HB hx217_1
        replace p217 := eq_true p217
        replace q217 := eq_true q217
        refine start_ (n := 10) (S := fun w' => w'.cell? (ad216.add ((x5_1).toNat * 2)) = some (.int .i64 ((rd_T109 l0 x5_1).f0)) ∧ w'.cell? ⟨(ad216.add ((x5_1).toNat * 2)).block, (ad216.add ((x5_1).toNat * 2)).off + 1, none⟩ = some (.bool ((rd_T109 l0 x5_1).f1)) ∧ w'.cell? (ad217.add ((x5_1).toNat * 2)) = some (.int .i64 ((rd_T109 l1 x5_1).f0)) ∧ w'.cell? ⟨(ad217.add ((x5_1).toNat * 2)).block, (ad217.add ((x5_1).toNat * 2)).off + 1, none⟩ = some (.bool ((rd_T109 l1 x5_1).f1))) (ds := []) (tf 0 10) (by kernel_rfl) rfl rfl ⟨(hxb HB hw216_0 :), (hxb HB hw216_1 :), (hxb HB hw217_0 :), (hxb HB hw217_1 :)⟩ (fun hHeld => ?_); refine with_tabW laws_eqSessionS.tab6 laws_eqSessionS.bits6 (fun HT_ HW_ => ?_)
        generalize wr.drew = w9 at HB hx216_0 hx216_1 hx217_0 hx217_1 hHeld ⊢
        iterate 3 (refine pvn_ HT_ (h := ?_))
        refine pv_ HT_ 4 (some 21) (tb 10 23) (h := ?_)
        refine pv_ HT_ 5 (some 22) (tb 10 55) (h := ?_)
        refine pv_ HT_ 6 (some 23) (tb 10 119) (h := ?_)
        refine tv_ HT_ HW_ hHeld 3 (some 20) (tf 7 3) (h := ?_)
        refine tvn_ HT_ HW_ hHeld (h := ?_)
        refine one_ (i := 8) (N := some 25) (tf 9 1) rfl rfl (one_of HT_.out (by kernel_rfl)) (by decide) (fun K hK => ?_)
        refine gs_ Try.func157 #[.agg #[.int .i64 ((rd_T109 l0 x5_1).f0), .bool ((rd_T109 l0 x5_1).f1)], .agg #[.int .i64 ((rd_T109 l1 x5_1).f0), .bool ((rd_T109 l1 x5_1).f1)]] (h := ?_)
        with_reducible refine (laws_eqSession.calls ((rd_T109 l0 x5_1).f0) ((rd_T109 l0 x5_1).f1) ((rd_T109 l1 x5_1).f0) ((rd_T109 l1 x5_1).f1) true _ A7.out).mono ?_
        rintro e w10 ⟨rfl, hb⟩
        refine ⟨_, rfl, ?_⟩
        replace HB := bst hb
        (try clear hb)
        (try clear hb2)
        (try clear hk)
        (try clear hi)
        refine hK.out _ _ ⟨(hxb HB hw216_0 :), (hxb HB hw216_1 :), (hxb HB hw217_0 :), (hxb HB hw217_1 :)⟩ (fun hHeld => ?_)
        clear hK K
        refine nrm_ (some 25) (h := ?_)
        refine pvn_ HT_ (h := ?_)
        refine done_ (done_of HT_.out (by kernel_rfl)) ?_
        try go_wp2
        go_roundg k1
        case measure => have := HK1.out; omega
        case rel => exact ⟨(wrap64 (x5_1 + 1)), rs_, H', ⟨by have := HK1.out; omega⟩, ⟨bel⟩⟩
       replace c8 := Bool.eq_false_iff.mpr c8
       subst c8
       have H1 : (some false) = some r := by rw [if_neg (show ¬ (false = true) by decide)] at H; exact H
       clear H
       have H := H1
       clear H1
       obtain rfl := Option.some.inj H
       try go_wp2
       replace HB := Aside0.mk (below_drew1 HB.out)
       have p216 : 0 ≤ (x5_1 : Int) := od
       have q216 : x5_1 < (l0.length : Int) := od
       obtain ⟨ad216, e216, hx216_0, hx216_1⟩ := at_T109 HR0.out x5_1 p216 q216
       have hw216_1 := hx216_1
       have hw216_0 := hx216_0
       cases e216
       replace hx216_0 := hxb HB hx216_0
       replace hx216_1 := hxb HB hx216_1
       replace p216 := eq_true p216
       replace q216 := eq_true q216
       have p217 : 0 ≤ (x5_1 : Int) := od
       have q217 : x5_1 < (l1.length : Int) := od
       obtain ⟨ad217, e217, hx217_0, hx217_1⟩ := at_T109 HR1.out x5_1 p217 q217
       have hw217_1 := hx217_1
       have hw217_0 := hx217_0
       cases e217
       replace hx217_0 := hxb HB hx217_0
       replace hx217_1 := hxb HB hx217_1
       replace p217 := eq_true p217
       replace q217 := eq_true q217
       refine start_ (n := 10) (S := fun w' => w'.cell? (ad216.add ((x5_1).toNat * 2)) = some (.int .i64 ((rd_T109 l0 x5_1).f0)) ∧ w'.cell? ⟨(ad216.add ((x5_1).toNat * 2)).block, (ad216.add ((x5_1).toNat * 2)).off + 1, none⟩ = some (.bool ((rd_T109 l0 x5_1).f1)) ∧ w'.cell? (ad217.add ((x5_1).toNat * 2)) = some (.int .i64 ((rd_T109 l1 x5_1).f0)) ∧ w'.cell? ⟨(ad217.add ((x5_1).toNat * 2)).block, (ad217.add ((x5_1).toNat * 2)).off + 1, none⟩ = some (.bool ((rd_T109 l1 x5_1).f1))) (ds := []) (tf 0 10) (by kernel_rfl) rfl rfl ⟨(hxb HB hw216_0 :), (hxb HB hw216_1 :), (hxb HB hw217_0 :), (hxb HB hw217_1 :)⟩ (fun hHeld => ?_); refine with_tabW laws_eqSessionS.tab6 laws_eqSessionS.bits6 (fun HT_ HW_ => ?_)
       generalize wr.drew = w11 at HB hx216_0 hx216_1 hx217_0 hx217_1 hHeld ⊢
       iterate 3 (refine pvn_ HT_ (h := ?_))
       refine pv_ HT_ 4 (some 21) (tb 10 23) (h := ?_)
       refine pv_ HT_ 5 (some 22) (tb 10 55) (h := ?_)
       refine pv_ HT_ 6 (some 23) (tb 10 119) (h := ?_)
       refine tv_ HT_ HW_ hHeld 3 (some 20) (tf 7 3) (h := ?_)
       refine tvn_ HT_ HW_ hHeld (h := ?_)
       refine one_ (i := 8) (N := some 25) (tf 9 1) rfl rfl (one_of HT_.out (by kernel_rfl)) (by decide) (fun K hK => ?_)
       refine gs_ Try.func157 #[.agg #[.int .i64 ((rd_T109 l0 x5_1).f0), .bool ((rd_T109 l0 x5_1).f1)], .agg #[.int .i64 ((rd_T109 l1 x5_1).f0), .bool ((rd_T109 l1 x5_1).f1)]] (h := ?_)
       with_reducible refine (laws_eqSession.calls ((rd_T109 l0 x5_1).f0) ((rd_T109 l0 x5_1).f1) ((rd_T109 l1 x5_1).f0) ((rd_T109 l1 x5_1).f1) false _ A7.out).mono ?_
       rintro e w12 ⟨rfl, hb⟩
       refine ⟨_, rfl, ?_⟩
       replace HB := bst hb
       (try clear hb)
       (try clear hb2)
       (try clear hk)
       (try clear hi)
       refine hK.out _ _ ⟨(hxb HB hw216_0 :), (hxb HB hw216_1 :), (hxb HB hw217_0 :), (hxb HB hw217_1 :)⟩ (fun hHeld => ?_)
       clear hK K
       refine nrm_ (some 25) (h := ?_)
       refine pvn_ HT_ (h := ?_)
       refine done_ (done_of HT_.out (by kernel_rfl)) ?_
       try go_wp2
       go_ret
       exact ⟨rz_, bel⟩
      rw [if_neg c6] at H
      exact absurd H (by simp)
     rw [if_neg c5] at H
     exact absurd H (by simp)
    rw [if_neg c4] at H
    have c4b0 : decide (x5_1 < (l0.length : Int)) = false := decide_eq_false c4
    clear c4
    obtain rfl := Option.some.inj H
    go_wp2
    go_ret
    exact ⟨rz_, bel⟩
 rw [if_neg c3] at H
 have c3b0 : ((l0.length : Int) == (l1.length : Int)) = false := beq_eq_false_iff_ne.mpr c3
 have c3b1 : ((l0.length : Int) != (l1.length : Int)) = true := bne_iff_ne.mpr c3
 have c3b2 : (l0.length == l1.length) = false := by first | simpa using c3 | (simp at c3 ⊢; omega)
 obtain rfl := Option.some.inj H
 go_enter Try.func89, Try.ntmps89
 go_wp2
 go_ret
 exact ⟨rz_, bel⟩

/-! ### laws_eqReply: function 122 -/
def laws_eqReply.f (a0_0 : Int) (a0_1 : Int) (a1_0 : Int) (a1_1 : Int) : Option (Bool) := if a0_0 = a1_0 then (if a0_1 = a1_1 then (some true) else (some false)) else (some false)
set_option maxHeartbeats 8000000 in
set_option maxRecDepth 100000 in
theorem laws_eqReply.calls (a0_0 : Int) (a0_1 : Int) (a1_0 : Int) (a1_1 : Int) (r : Bool) (w : World) (h : laws_eqReply.f a0_0 a0_1 a1_0 a1_1 = some r) :
  Calls Try.prog 122 #[.agg #[.int .i64 a0_0, .int .i64 a0_1], .agg #[.int .i64 a1_0, .int .i64 a1_1]] w fun e w' => e = .returned (.bool r) ∧ Below w.heap.size w w' := by
 have hu73 := Try.underlying73
 have HB := Aside0.mk (Below.refl w.heap.size w)
 have H : (if a0_0 = a1_0 then (if a0_1 = a1_1 then (some true) else (some false)) else (some false)) = some r := h
 clear h
 by_cases c3 : a0_0 = a1_0
 ·rw [if_pos c3] at H
  have c3b0 : (a0_0 == a1_0) = true := beq_iff_eq.mpr c3
  have c3b1 : (a0_0 != a1_0) = false := bne_eq_false_iff_eq.mpr c3
  clear c3
  by_cases c4 : a0_1 = a1_1
  ·rw [if_pos c4] at H
   have c4b0 : (a0_1 == a1_1) = true := beq_iff_eq.mpr c4
   have c4b1 : (a0_1 != a1_1) = false := bne_eq_false_iff_eq.mpr c4
   clear c4
   obtain rfl := Option.some.inj H
   go_enter Try.func122, Try.ntmps122
   go_wp2_with (first | ((with_reducible refine gate_dst (N := 2) rfl ?_); refine bx_ 2 #[.int .i64 a0_0, .int .i64 a0_1] 73 (h := ?_); intro gb219 hg w5 hbox hb; have BK219 := Aside0.mk (hbox); have GW219 := Aside0.mk ((by rw [hg]; exact (below_size bel) : w.heap.size ≤ gb219)); have GE219 := GW219; replace HB := bst hb; clear hb hbox hg) | ((with_reducible refine gate_dst (N := 3) rfl ?_); refine bx_ 3 #[.int .i64 a1_0, .int .i64 a1_1] 73 (h := ?_); intro gb220 hg w6 hbox hb; have BK220 := Aside0.mk (hbox); have GW220 := Aside0.mk ((by rw [hg]; exact (below_size bel) : w.heap.size ≤ gb220)); have GE220 := GW220; have NB219_220 := Aside0.mk ((by rw [hg]; exact Nat.ne_of_lt (blt BK219) : gb219 ≠ gb220)); have NB220_219 := Aside0.mk NB219_220.out.symm; replace BK219 := Aside0.mk (blb BK219 hb); replace HB := bst hb; clear hb hbox hg; have hnb7 := NB219_220.out; have hnc7 := NB220_219.out; obtain ⟨C8_0, C8_1, -⟩ := cells_2 BK219.out trivial; obtain ⟨F8_0, F8_1, -⟩ := frz_2 BK219.out; obtain ⟨C9_0, C9_1, -⟩ := cells_2 BK220.out trivial; obtain ⟨F9_0, F9_1, -⟩ := frz_2 BK220.out))
   go_ret
   exact ⟨rz_, bel⟩
  rw [if_neg c4] at H
  have c4b0 : (a0_1 == a1_1) = false := beq_eq_false_iff_ne.mpr c4
  have c4b1 : (a0_1 != a1_1) = true := bne_iff_ne.mpr c4
  obtain rfl := Option.some.inj H
  go_enter Try.func122, Try.ntmps122
  go_wp2_with (first | ((with_reducible refine gate_dst (N := 2) rfl ?_); refine bx_ 2 #[.int .i64 a0_0, .int .i64 a0_1] 73 (h := ?_); intro gb219 hg w10 hbox hb; have BK219 := Aside0.mk (hbox); have GW219 := Aside0.mk ((by rw [hg]; exact (below_size bel) : w.heap.size ≤ gb219)); have GE219 := GW219; replace HB := bst hb; clear hb hbox hg) | ((with_reducible refine gate_dst (N := 3) rfl ?_); refine bx_ 3 #[.int .i64 a1_0, .int .i64 a1_1] 73 (h := ?_); intro gb220 hg w11 hbox hb; have BK220 := Aside0.mk (hbox); have GW220 := Aside0.mk ((by rw [hg]; exact (below_size bel) : w.heap.size ≤ gb220)); have GE220 := GW220; have NB219_220 := Aside0.mk ((by rw [hg]; exact Nat.ne_of_lt (blt BK219) : gb219 ≠ gb220)); have NB220_219 := Aside0.mk NB219_220.out.symm; replace BK219 := Aside0.mk (blb BK219 hb); replace HB := bst hb; clear hb hbox hg; have hnb12 := NB219_220.out; have hnc12 := NB220_219.out; obtain ⟨C13_0, C13_1, -⟩ := cells_2 BK219.out trivial; obtain ⟨F13_0, F13_1, -⟩ := frz_2 BK219.out; obtain ⟨C14_0, C14_1, -⟩ := cells_2 BK220.out trivial; obtain ⟨F14_0, F14_1, -⟩ := frz_2 BK220.out))
  go_ret
  exact ⟨rz_, bel⟩
 rw [if_neg c3] at H
 have c3b0 : (a0_0 == a1_0) = false := beq_eq_false_iff_ne.mpr c3
 have c3b1 : (a0_0 != a1_0) = true := bne_iff_ne.mpr c3
 obtain rfl := Option.some.inj H
 go_enter Try.func122, Try.ntmps122
 go_wp2_with (first | ((with_reducible refine gate_dst (N := 2) rfl ?_); refine bx_ 2 #[.int .i64 a0_0, .int .i64 a0_1] 73 (h := ?_); intro gb219 hg w15 hbox hb; have BK219 := Aside0.mk (hbox); have GW219 := Aside0.mk ((by rw [hg]; exact (below_size bel) : w.heap.size ≤ gb219)); have GE219 := GW219; replace HB := bst hb; clear hb hbox hg) | ((with_reducible refine gate_dst (N := 3) rfl ?_); refine bx_ 3 #[.int .i64 a1_0, .int .i64 a1_1] 73 (h := ?_); intro gb220 hg w16 hbox hb; have BK220 := Aside0.mk (hbox); have GW220 := Aside0.mk ((by rw [hg]; exact (below_size bel) : w.heap.size ≤ gb220)); have GE220 := GW220; have NB219_220 := Aside0.mk ((by rw [hg]; exact Nat.ne_of_lt (blt BK219) : gb219 ≠ gb220)); have NB220_219 := Aside0.mk NB219_220.out.symm; replace BK219 := Aside0.mk (blb BK219 hb); replace HB := bst hb; clear hb hbox hg; have hnb17 := NB219_220.out; have hnc17 := NB220_219.out; obtain ⟨C18_0, C18_1, -⟩ := cells_2 BK219.out trivial; obtain ⟨F18_0, F18_1, -⟩ := frz_2 BK219.out; obtain ⟨C19_0, C19_1, -⟩ := cells_2 BK220.out trivial; obtain ⟨F19_0, F19_1, -⟩ := frz_2 BK220.out))
 go_ret
 exact ⟨rz_, bel⟩

/-! ### laws_eqLast: function 42 -/
def laws_eqLast.f (a0_0 : Int) (a0_1 : Int) (a0_2 : Int) (a0_3 : Int) (a1_0 : Int) (a1_1 : Int) (a1_2 : Int) (a1_3 : Int) : Option (Bool) := if a0_0 = a1_0 then (if a0_1 = a1_1 then ((laws_eqReply.f a0_2 a0_3 a1_2 a1_3).bind fun t223 => (if t223 = true then (some true) else (some false))) else (some false)) else (some false)
set_option maxHeartbeats 8000000 in
set_option maxRecDepth 100000 in
theorem laws_eqLast.calls (a0_0 : Int) (a0_1 : Int) (a0_2 : Int) (a0_3 : Int) (a1_0 : Int) (a1_1 : Int) (a1_2 : Int) (a1_3 : Int) (r : Bool) (w : World) (h : laws_eqLast.f a0_0 a0_1 a0_2 a0_3 a1_0 a1_1 a1_2 a1_3 = some r) :
  Calls Try.prog 42 #[.agg #[.int .i64 a0_0, .int .i64 a0_1, .int .i64 a0_2, .int .i64 a0_3], .agg #[.int .i64 a1_0, .int .i64 a1_1, .int .i64 a1_2, .int .i64 a1_3]] w fun e w' => e = .returned (.bool r) ∧ Below w.heap.size w w' := by
 have hu75 := Try.underlying75
 have hu73 := Try.underlying73
 have HB := Aside0.mk (Below.refl w.heap.size w)
 have H : (if a0_0 = a1_0 then (if a0_1 = a1_1 then ((laws_eqReply.f a0_2 a0_3 a1_2 a1_3).bind fun t223 => (if t223 = true then (some true) else (some false))) else (some false)) else (some false)) = some r := h
 clear h
 by_cases c3 : a0_0 = a1_0
 ·rw [if_pos c3] at H
  have c3b0 : (a0_0 == a1_0) = true := beq_iff_eq.mpr c3
  have c3b1 : (a0_0 != a1_0) = false := bne_eq_false_iff_eq.mpr c3
  clear c3
  by_cases c4 : a0_1 = a1_1
  ·rw [if_pos c4] at H
   have c4b0 : (a0_1 == a1_1) = true := beq_iff_eq.mpr c4
   have c4b1 : (a0_1 != a1_1) = false := bne_eq_false_iff_eq.mpr c4
   clear c4
   replace H := Option.bind_eq_some_iff.mp H
   obtain ⟨t223, A50, H⟩ := H
   replace H : (if t223 = true then (some true) else (some false)) = some r := H
   have A5 := Aside0.mk A50
   clear A50
   by_cases c6 : t223 = true
   ·subst c6
    have H1 : (some true) = some r := by rw [if_pos rfl] at H; exact H
    clear H
    have H := H1
    clear H1
    obtain rfl := Option.some.inj H
    go_enter Try.func42, Try.ntmps42
    go_wp2_with (first | ((with_reducible refine gate_dst (N := 2) rfl ?_); refine bx_ 2 #[.int .i64 a0_0, .int .i64 a0_1, .int .i64 a0_2, .int .i64 a0_3] 75 (h := ?_); intro gb221 hg w7 hbox hb; have BK221 := Aside0.mk (hbox); have GW221 := Aside0.mk ((by rw [hg]; exact (below_size bel) : w.heap.size ≤ gb221)); have GE221 := GW221; replace HB := bst hb; clear hb hbox hg) | ((with_reducible refine gate_dst (N := 3) rfl ?_); refine bx_ 3 #[.int .i64 a1_0, .int .i64 a1_1, .int .i64 a1_2, .int .i64 a1_3] 75 (h := ?_); intro gb222 hg w8 hbox hb; have BK222 := Aside0.mk (hbox); have GW222 := Aside0.mk ((by rw [hg]; exact (below_size bel) : w.heap.size ≤ gb222)); have GE222 := GW222; have NB221_222 := Aside0.mk ((by rw [hg]; exact Nat.ne_of_lt (blt BK221) : gb221 ≠ gb222)); have NB222_221 := Aside0.mk NB221_222.out.symm; replace BK221 := Aside0.mk (blb BK221 hb); replace HB := bst hb; clear hb hbox hg; have hnb9 := NB221_222.out; have hnc9 := NB222_221.out; obtain ⟨C10_0, C10_1, C10_2, C10_3, -⟩ := cells_4 BK221.out trivial; obtain ⟨F10_0, F10_1, F10_2, F10_3, -⟩ := frz_4 BK221.out; obtain ⟨C11_0, C11_1, C11_2, C11_3, -⟩ := cells_4 BK222.out trivial; obtain ⟨F11_0, F11_1, F11_2, F11_3, -⟩ := frz_4 BK222.out) | ((with_reducible refine gate_callee (f := 122) rfl ?_); refine gl_ (some 19) Try.func122 #[.agg #[.int .i64 a0_2, .int .i64 a0_3], .agg #[.int .i64 a1_2, .int .i64 a1_3]] (h := ?_); (with_reducible refine (laws_eqReply.calls a0_2 a0_3 a1_2 a1_3 true _ A5.out).mono ?_); rintro e w12 ⟨rfl, hb⟩; refine ⟨_, rfl, ?_⟩; replace BK221 := Aside0.mk (blb BK221 hb); replace BK222 := Aside0.mk (blb BK222 hb); replace HB := bst hb; (try clear hb); (try clear hb2); (try clear hk); (try clear hi)))
    go_ret
    exact ⟨rz_, bel⟩
   replace c6 := Bool.eq_false_iff.mpr c6
   subst c6
   have H1 : (some false) = some r := by rw [if_neg (show ¬ (false = true) by decide)] at H; exact H
   clear H
   have H := H1
   clear H1
   obtain rfl := Option.some.inj H
   go_enter Try.func42, Try.ntmps42
   go_wp2_with (first | ((with_reducible refine gate_dst (N := 2) rfl ?_); refine bx_ 2 #[.int .i64 a0_0, .int .i64 a0_1, .int .i64 a0_2, .int .i64 a0_3] 75 (h := ?_); intro gb221 hg w13 hbox hb; have BK221 := Aside0.mk (hbox); have GW221 := Aside0.mk ((by rw [hg]; exact (below_size bel) : w.heap.size ≤ gb221)); have GE221 := GW221; replace HB := bst hb; clear hb hbox hg) | ((with_reducible refine gate_dst (N := 3) rfl ?_); refine bx_ 3 #[.int .i64 a1_0, .int .i64 a1_1, .int .i64 a1_2, .int .i64 a1_3] 75 (h := ?_); intro gb222 hg w14 hbox hb; have BK222 := Aside0.mk (hbox); have GW222 := Aside0.mk ((by rw [hg]; exact (below_size bel) : w.heap.size ≤ gb222)); have GE222 := GW222; have NB221_222 := Aside0.mk ((by rw [hg]; exact Nat.ne_of_lt (blt BK221) : gb221 ≠ gb222)); have NB222_221 := Aside0.mk NB221_222.out.symm; replace BK221 := Aside0.mk (blb BK221 hb); replace HB := bst hb; clear hb hbox hg; have hnb15 := NB221_222.out; have hnc15 := NB222_221.out; obtain ⟨C16_0, C16_1, C16_2, C16_3, -⟩ := cells_4 BK221.out trivial; obtain ⟨F16_0, F16_1, F16_2, F16_3, -⟩ := frz_4 BK221.out; obtain ⟨C17_0, C17_1, C17_2, C17_3, -⟩ := cells_4 BK222.out trivial; obtain ⟨F17_0, F17_1, F17_2, F17_3, -⟩ := frz_4 BK222.out) | ((with_reducible refine gate_callee (f := 122) rfl ?_); refine gl_ (some 19) Try.func122 #[.agg #[.int .i64 a0_2, .int .i64 a0_3], .agg #[.int .i64 a1_2, .int .i64 a1_3]] (h := ?_); (with_reducible refine (laws_eqReply.calls a0_2 a0_3 a1_2 a1_3 false _ A5.out).mono ?_); rintro e w18 ⟨rfl, hb⟩; refine ⟨_, rfl, ?_⟩; replace BK221 := Aside0.mk (blb BK221 hb); replace BK222 := Aside0.mk (blb BK222 hb); replace HB := bst hb; (try clear hb); (try clear hb2); (try clear hk); (try clear hi)))
   go_ret
   exact ⟨rz_, bel⟩
  rw [if_neg c4] at H
  have c4b0 : (a0_1 == a1_1) = false := beq_eq_false_iff_ne.mpr c4
  have c4b1 : (a0_1 != a1_1) = true := bne_iff_ne.mpr c4
  obtain rfl := Option.some.inj H
  go_enter Try.func42, Try.ntmps42
  go_wp2_with (first | ((with_reducible refine gate_dst (N := 2) rfl ?_); refine bx_ 2 #[.int .i64 a0_0, .int .i64 a0_1, .int .i64 a0_2, .int .i64 a0_3] 75 (h := ?_); intro gb221 hg w19 hbox hb; have BK221 := Aside0.mk (hbox); have GW221 := Aside0.mk ((by rw [hg]; exact (below_size bel) : w.heap.size ≤ gb221)); have GE221 := GW221; replace HB := bst hb; clear hb hbox hg) | ((with_reducible refine gate_dst (N := 3) rfl ?_); refine bx_ 3 #[.int .i64 a1_0, .int .i64 a1_1, .int .i64 a1_2, .int .i64 a1_3] 75 (h := ?_); intro gb222 hg w20 hbox hb; have BK222 := Aside0.mk (hbox); have GW222 := Aside0.mk ((by rw [hg]; exact (below_size bel) : w.heap.size ≤ gb222)); have GE222 := GW222; have NB221_222 := Aside0.mk ((by rw [hg]; exact Nat.ne_of_lt (blt BK221) : gb221 ≠ gb222)); have NB222_221 := Aside0.mk NB221_222.out.symm; replace BK221 := Aside0.mk (blb BK221 hb); replace HB := bst hb; clear hb hbox hg; have hnb21 := NB221_222.out; have hnc21 := NB222_221.out; obtain ⟨C22_0, C22_1, C22_2, C22_3, -⟩ := cells_4 BK221.out trivial; obtain ⟨F22_0, F22_1, F22_2, F22_3, -⟩ := frz_4 BK221.out; obtain ⟨C23_0, C23_1, C23_2, C23_3, -⟩ := cells_4 BK222.out trivial; obtain ⟨F23_0, F23_1, F23_2, F23_3, -⟩ := frz_4 BK222.out))
  go_ret
  exact ⟨rz_, bel⟩
 rw [if_neg c3] at H
 have c3b0 : (a0_0 == a1_0) = false := beq_eq_false_iff_ne.mpr c3
 have c3b1 : (a0_0 != a1_0) = true := bne_iff_ne.mpr c3
 obtain rfl := Option.some.inj H
 go_enter Try.func42, Try.ntmps42
 go_wp2_with (first | ((with_reducible refine gate_dst (N := 2) rfl ?_); refine bx_ 2 #[.int .i64 a0_0, .int .i64 a0_1, .int .i64 a0_2, .int .i64 a0_3] 75 (h := ?_); intro gb221 hg w24 hbox hb; have BK221 := Aside0.mk (hbox); have GW221 := Aside0.mk ((by rw [hg]; exact (below_size bel) : w.heap.size ≤ gb221)); have GE221 := GW221; replace HB := bst hb; clear hb hbox hg) | ((with_reducible refine gate_dst (N := 3) rfl ?_); refine bx_ 3 #[.int .i64 a1_0, .int .i64 a1_1, .int .i64 a1_2, .int .i64 a1_3] 75 (h := ?_); intro gb222 hg w25 hbox hb; have BK222 := Aside0.mk (hbox); have GW222 := Aside0.mk ((by rw [hg]; exact (below_size bel) : w.heap.size ≤ gb222)); have GE222 := GW222; have NB221_222 := Aside0.mk ((by rw [hg]; exact Nat.ne_of_lt (blt BK221) : gb221 ≠ gb222)); have NB222_221 := Aside0.mk NB221_222.out.symm; replace BK221 := Aside0.mk (blb BK221 hb); replace HB := bst hb; clear hb hbox hg; have hnb26 := NB221_222.out; have hnc26 := NB222_221.out; obtain ⟨C27_0, C27_1, C27_2, C27_3, -⟩ := cells_4 BK221.out trivial; obtain ⟨F27_0, F27_1, F27_2, F27_3, -⟩ := frz_4 BK221.out; obtain ⟨C28_0, C28_1, C28_2, C28_3, -⟩ := cells_4 BK222.out trivial; obtain ⟨F28_0, F28_1, F28_2, F28_3, -⟩ := frz_4 BK222.out))
 go_ret
 exact ⟨rz_, bel⟩

/-! ### laws_eqLastS: function 90 -/
def laws_eqLastS.l0 : Nat → List (S75) → List (S75) → Int → Option (Bool)
 | 0, _, _, _ => none
 | k + 1, x0, x1, x5 => if x5 < (x0.length : Int) then (if 0 ≤ x5 then (if x5 < (x1.length : Int) then ((laws_eqLast.f ((rd_T75 x0 x5).f0) ((rd_T75 x0 x5).f1) ((rd_T75 x0 x5).f2.f0) ((rd_T75 x0 x5).f2.f1) ((rd_T75 x1 x5).f0) ((rd_T75 x1 x5).f1) ((rd_T75 x1 x5).f2.f0) ((rd_T75 x1 x5).f2.f1)).bind fun t226 => (if t226 = true then (laws_eqLastS.l0 k x0 x1 (wrap64 (x5 + 1))) else (some false))) else (none)) else (none)) else (some true)
def laws_eqLastS.f (k : Nat) (l0 : List (S75)) (l1 : List (S75)) : Option (Bool) := if (l0.length : Int) = (l1.length : Int) then (laws_eqLastS.l0 k l0 l1 0) else (some false)
def laws_eqLastS.T6 : Bool × List (List Nat × List Nat) := (true, [([], []), ([], []), ([0, 1], [0, 1]), ([2], [2]), ([], []), ([], []), ([4, 5], [4, 5]), ([6], [6]), ([3, 7], [3, 7]), ([8], [8])])
def laws_eqLastS.B6 : List Nat := [0, 0, 3, 7, 0, 0, 48, 112, 255, 511]
theorem laws_eqLastS.tab6 : rtab .any (opsOf Try.f90 6) = laws_eqLastS.T6 := by kernel_rfl
theorem laws_eqLastS.bits6 : waitsOk laws_eqLastS.T6.2 laws_eqLastS.B6 = true := by kernel_rfl
set_option maxHeartbeats 8000000 in
set_option maxRecDepth 100000 in
theorem laws_eqLastS.calls (k : Nat) (A0 : Option Addr) (c0 : Nat) (l0 : List (S75)) (A1 : Option Addr) (c1 : Nat) (l1 : List (S75)) (r : Bool) (w : World) (hr0 : Kd.C k75 w A0 l0.length l0) (hc0 : l0.length ≤ c0) (hr1 : Kd.C k75 w A1 l1.length l1) (hc1 : l1.length ≤ c1) (h : laws_eqLastS.f k l0 l1 = some r) :
  Calls Try.prog 90 #[.slice A0 l0.length c0, .slice A1 l1.length c1] w fun e w' => e = .returned (.bool r) ∧ Below w.heap.size w w' := by
 have hu75 := Try.underlying75
 have HR0 := Aside0.mk hr0
 have HC0 := Aside0.mk hc0
 clear hr0 hc0
 have HR1 := Aside0.mk hr1
 have HC1 := Aside0.mk hc1
 clear hr1 hc1
 have HB := Aside0.mk (Below.refl w.heap.size w)
 have H : (if (l0.length : Int) = (l1.length : Int) then (laws_eqLastS.l0 k l0 l1 0) else (some false)) = some r := h
 clear h
 by_cases c3 : (l0.length : Int) = (l1.length : Int)
 ·rw [if_pos c3] at H
  have c3b0 : ((l0.length : Int) == (l1.length : Int)) = true := beq_iff_eq.mpr c3
  have c3b1 : ((l0.length : Int) != (l1.length : Int)) = false := bne_eq_false_iff_eq.mpr c3
  have c3b2 : (l0.length == l1.length) = true := by first | simpa using c3 | (simp at c3 ⊢; omega)
  clear c3
  have H' := Aside0.mk H
  clear H
  go_enter Try.func90, Try.ntmps90
  go_wp2
  go_loopg [5] k (fun kq v5 w' => ∃ (x5_1 : Int), v5 = .int .i64 x5_1 ∧ Aside0 (laws_eqLastS.l0 kq l0 l1 x5_1 = some r) ∧ Aside0 (kq ≤ k) ∧ Aside0 (Below w.heap.size w w'))
  case atStart => exact ⟨(0), rs_, H', ⟨Nat.le_refl _⟩, ⟨bel⟩⟩
  case round =>
   clear H'
   try clear c1; try clear p2; try clear c3; try clear c3b0; try clear c3b1; try clear c3b2
   obtain ⟨x5_1, rfl, HA, HK1, HB⟩ := hrel
   cases gk with
   | zero => exact absurd HA.out (by simp [laws_eqLastS.l0])
   | succ k1 =>
    have H := HA.out
    clear HA
    simp only [laws_eqLastS.l0] at H
    by_cases c4 : x5_1 < (l0.length : Int)
    ·rw [if_pos c4] at H
     have c4b0 : decide (x5_1 < (l0.length : Int)) = true := decide_eq_true c4
     clear c4
     by_cases c5 : 0 ≤ x5_1
     ·rw [if_pos c5] at H
      have c5b0 : decide (0 ≤ x5_1) = true := decide_eq_true c5
      clear c5
      by_cases c6 : x5_1 < (l1.length : Int)
      ·rw [if_pos c6] at H
       have c6b0 : decide (x5_1 < (l1.length : Int)) = true := decide_eq_true c6
       clear c6
       replace H := Option.bind_eq_some_iff.mp H
       obtain ⟨t226, A70, H⟩ := H
       replace H : (if t226 = true then (laws_eqLastS.l0 k1 l0 l1 (wrap64 (x5_1 + 1))) else (some false)) = some r := H
       have A7 := Aside0.mk A70
       clear A70
       by_cases c8 : t226 = true
       ·subst c8
        have H1 : (laws_eqLastS.l0 k1 l0 l1 (wrap64 (x5_1 + 1))) = some r := by rw [if_pos rfl] at H; exact H
        clear H
        have H := H1
        clear H1
        have H' := Aside0.mk H
        clear H
        try go_wp2
        replace HB := Aside0.mk (below_drew1 HB.out)
        have p224 : 0 ≤ (x5_1 : Int) := od
        have q224 : x5_1 < (l0.length : Int) := od
        obtain ⟨ad224, e224, hx224_0, hx224_1, hx224_2, hx224_3⟩ := at_T75 HR0.out x5_1 p224 q224
        have hw224_3 := hx224_3
        have hw224_2 := hx224_2
        have hw224_1 := hx224_1
        have hw224_0 := hx224_0
        cases e224
        replace hx224_0 := hxb HB hx224_0
        replace hx224_1 := hxb HB hx224_1
        replace hx224_2 := hxb HB hx224_2
        replace hx224_3 := hxb HB hx224_3
        replace p224 := eq_true p224
        replace q224 := eq_true q224
        have p225 : 0 ≤ (x5_1 : Int) := od
        have q225 : x5_1 < (l1.length : Int) := od
        obtain ⟨ad225, e225, hx225_0, hx225_1, hx225_2, hx225_3⟩ := at_T75 HR1.out x5_1 p225 q225
        have hw225_3 := hx225_3
        have hw225_2 := hx225_2
        have hw225_1 := hx225_1
        have hw225_0 := hx225_0
        cases e225
        replace hx225_0 := hxb HB hx225_0
        replace hx225_1 := hxb HB hx225_1
        replace hx225_2 := hxb HB hx225_2
        replace hx225_3 := hxb HB hx225_3
        replace p225 := eq_true p225
        replace q225 := eq_true q225
        refine start_ (n := 10) (S := fun w' => w'.cell? (ad224.add ((x5_1).toNat * 4)) = some (.int .i64 ((rd_T75 l0 x5_1).f0)) ∧ w'.cell? ⟨(ad224.add ((x5_1).toNat * 4)).block, (ad224.add ((x5_1).toNat * 4)).off + 1, none⟩ = some (.int .i64 ((rd_T75 l0 x5_1).f1)) ∧ w'.cell? ⟨(ad224.add ((x5_1).toNat * 4)).block, (ad224.add ((x5_1).toNat * 4)).off + 2, none⟩ = some (.int .i64 ((rd_T75 l0 x5_1).f2.f0)) ∧ w'.cell? ⟨(ad224.add ((x5_1).toNat * 4)).block, (ad224.add ((x5_1).toNat * 4)).off + 3, none⟩ = some (.int .i64 ((rd_T75 l0 x5_1).f2.f1)) ∧ w'.cell? (ad225.add ((x5_1).toNat * 4)) = some (.int .i64 ((rd_T75 l1 x5_1).f0)) ∧ w'.cell? ⟨(ad225.add ((x5_1).toNat * 4)).block, (ad225.add ((x5_1).toNat * 4)).off + 1, none⟩ = some (.int .i64 ((rd_T75 l1 x5_1).f1)) ∧ w'.cell? ⟨(ad225.add ((x5_1).toNat * 4)).block, (ad225.add ((x5_1).toNat * 4)).off + 2, none⟩ = some (.int .i64 ((rd_T75 l1 x5_1).f2.f0)) ∧ w'.cell? ⟨(ad225.add ((x5_1).toNat * 4)).block, (ad225.add ((x5_1).toNat * 4)).off + 3, none⟩ = some (.int .i64 ((rd_T75 l1 x5_1).f2.f1))) (ds := []) (tf 0 10) (by kernel_rfl) rfl rfl ⟨(hxb HB hw224_0 :), (hxb HB hw224_1 :), (hxb HB hw224_2 :), (hxb HB hw224_3 :), (hxb HB hw225_0 :), (hxb HB hw225_1 :), (hxb HB hw225_2 :), (hxb HB hw225_3 :)⟩ (fun hHeld => ?_); refine with_tabW laws_eqLastS.tab6 laws_eqLastS.bits6 (fun HT_ HW_ => ?_)
        generalize wr.drew = w9 at HB hx224_0 hx224_1 hx224_2 hx224_3 hx225_0 hx225_1 hx225_2 hx225_3 hHeld ⊢
        iterate 3 (refine pvn_ HT_ (h := ?_))
        refine pv_ HT_ 4 (some 21) (tb 10 23) (h := ?_)
        refine pv_ HT_ 5 (some 22) (tb 10 55) (h := ?_)
        refine pv_ HT_ 6 (some 23) (tb 10 119) (h := ?_)
        refine tv_ HT_ HW_ hHeld 3 (some 20) (tf 7 3) (h := ?_)
        refine tvn_ HT_ HW_ hHeld (h := ?_)
        refine one_ (i := 8) (N := some 25) (tf 9 1) rfl rfl (one_of HT_.out (by kernel_rfl)) (by decide) (fun K hK => ?_)
        refine gs_ Try.func42 #[.agg #[.int .i64 ((rd_T75 l0 x5_1).f0), .int .i64 ((rd_T75 l0 x5_1).f1), .int .i64 ((rd_T75 l0 x5_1).f2.f0), .int .i64 ((rd_T75 l0 x5_1).f2.f1)], .agg #[.int .i64 ((rd_T75 l1 x5_1).f0), .int .i64 ((rd_T75 l1 x5_1).f1), .int .i64 ((rd_T75 l1 x5_1).f2.f0), .int .i64 ((rd_T75 l1 x5_1).f2.f1)]] (h := ?_)
        with_reducible refine (laws_eqLast.calls ((rd_T75 l0 x5_1).f0) ((rd_T75 l0 x5_1).f1) ((rd_T75 l0 x5_1).f2.f0) ((rd_T75 l0 x5_1).f2.f1) ((rd_T75 l1 x5_1).f0) ((rd_T75 l1 x5_1).f1) ((rd_T75 l1 x5_1).f2.f0) ((rd_T75 l1 x5_1).f2.f1) true _ A7.out).mono ?_
        rintro e w10 ⟨rfl, hb⟩
        refine ⟨_, rfl, ?_⟩
        replace HB := bst hb
        (try clear hb)
        (try clear hb2)
        (try clear hk)
        (try clear hi)
        refine hK.out _ _ ⟨(hxb HB hw224_0 :), (hxb HB hw224_1 :), (hxb HB hw224_2 :), (hxb HB hw224_3 :), (hxb HB hw225_0 :), (hxb HB hw225_1 :), (hxb HB hw225_2 :), (hxb HB hw225_3 :)⟩ (fun hHeld => ?_)
        clear hK K
        refine nrm_ (some 25) (h := ?_)
        refine pvn_ HT_ (h := ?_)
        refine done_ (done_of HT_.out (by kernel_rfl)) ?_
        try go_wp2
        go_roundg k1
        case measure => have := HK1.out; omega
        case rel => exact ⟨(wrap64 (x5_1 + 1)), rs_, H', ⟨by have := HK1.out; omega⟩, ⟨bel⟩⟩
       replace c8 := Bool.eq_false_iff.mpr c8
       subst c8
       have H1 : (some false) = some r := by rw [if_neg (show ¬ (false = true) by decide)] at H; exact H
       clear H
       have H := H1
       clear H1
       obtain rfl := Option.some.inj H
       try go_wp2
       replace HB := Aside0.mk (below_drew1 HB.out)
       have p224 : 0 ≤ (x5_1 : Int) := od
       have q224 : x5_1 < (l0.length : Int) := od
       obtain ⟨ad224, e224, hx224_0, hx224_1, hx224_2, hx224_3⟩ := at_T75 HR0.out x5_1 p224 q224
       have hw224_3 := hx224_3
       have hw224_2 := hx224_2
       have hw224_1 := hx224_1
       have hw224_0 := hx224_0
       cases e224
       replace hx224_0 := hxb HB hx224_0
       replace hx224_1 := hxb HB hx224_1
       replace hx224_2 := hxb HB hx224_2
       replace hx224_3 := hxb HB hx224_3
       replace p224 := eq_true p224
       replace q224 := eq_true q224
       have p225 : 0 ≤ (x5_1 : Int) := od
       have q225 : x5_1 < (l1.length : Int) := od
       obtain ⟨ad225, e225, hx225_0, hx225_1, hx225_2, hx225_3⟩ := at_T75 HR1.out x5_1 p225 q225
       have hw225_3 := hx225_3
       have hw225_2 := hx225_2
       have hw225_1 := hx225_1
       have hw225_0 := hx225_0
       cases e225
       replace hx225_0 := hxb HB hx225_0
       replace hx225_1 := hxb HB hx225_1
       replace hx225_2 := hxb HB hx225_2
       replace hx225_3 := hxb HB hx225_3
       replace p225 := eq_true p225
       replace q225 := eq_true q225
       refine start_ (n := 10) (S := fun w' => w'.cell? (ad224.add ((x5_1).toNat * 4)) = some (.int .i64 ((rd_T75 l0 x5_1).f0)) ∧ w'.cell? ⟨(ad224.add ((x5_1).toNat * 4)).block, (ad224.add ((x5_1).toNat * 4)).off + 1, none⟩ = some (.int .i64 ((rd_T75 l0 x5_1).f1)) ∧ w'.cell? ⟨(ad224.add ((x5_1).toNat * 4)).block, (ad224.add ((x5_1).toNat * 4)).off + 2, none⟩ = some (.int .i64 ((rd_T75 l0 x5_1).f2.f0)) ∧ w'.cell? ⟨(ad224.add ((x5_1).toNat * 4)).block, (ad224.add ((x5_1).toNat * 4)).off + 3, none⟩ = some (.int .i64 ((rd_T75 l0 x5_1).f2.f1)) ∧ w'.cell? (ad225.add ((x5_1).toNat * 4)) = some (.int .i64 ((rd_T75 l1 x5_1).f0)) ∧ w'.cell? ⟨(ad225.add ((x5_1).toNat * 4)).block, (ad225.add ((x5_1).toNat * 4)).off + 1, none⟩ = some (.int .i64 ((rd_T75 l1 x5_1).f1)) ∧ w'.cell? ⟨(ad225.add ((x5_1).toNat * 4)).block, (ad225.add ((x5_1).toNat * 4)).off + 2, none⟩ = some (.int .i64 ((rd_T75 l1 x5_1).f2.f0)) ∧ w'.cell? ⟨(ad225.add ((x5_1).toNat * 4)).block, (ad225.add ((x5_1).toNat * 4)).off + 3, none⟩ = some (.int .i64 ((rd_T75 l1 x5_1).f2.f1))) (ds := []) (tf 0 10) (by kernel_rfl) rfl rfl ⟨(hxb HB hw224_0 :), (hxb HB hw224_1 :), (hxb HB hw224_2 :), (hxb HB hw224_3 :), (hxb HB hw225_0 :), (hxb HB hw225_1 :), (hxb HB hw225_2 :), (hxb HB hw225_3 :)⟩ (fun hHeld => ?_); refine with_tabW laws_eqLastS.tab6 laws_eqLastS.bits6 (fun HT_ HW_ => ?_)
       generalize wr.drew = w11 at HB hx224_0 hx224_1 hx224_2 hx224_3 hx225_0 hx225_1 hx225_2 hx225_3 hHeld ⊢
       iterate 3 (refine pvn_ HT_ (h := ?_))
       refine pv_ HT_ 4 (some 21) (tb 10 23) (h := ?_)
       refine pv_ HT_ 5 (some 22) (tb 10 55) (h := ?_)
       refine pv_ HT_ 6 (some 23) (tb 10 119) (h := ?_)
       refine tv_ HT_ HW_ hHeld 3 (some 20) (tf 7 3) (h := ?_)
       refine tvn_ HT_ HW_ hHeld (h := ?_)
       refine one_ (i := 8) (N := some 25) (tf 9 1) rfl rfl (one_of HT_.out (by kernel_rfl)) (by decide) (fun K hK => ?_)
       refine gs_ Try.func42 #[.agg #[.int .i64 ((rd_T75 l0 x5_1).f0), .int .i64 ((rd_T75 l0 x5_1).f1), .int .i64 ((rd_T75 l0 x5_1).f2.f0), .int .i64 ((rd_T75 l0 x5_1).f2.f1)], .agg #[.int .i64 ((rd_T75 l1 x5_1).f0), .int .i64 ((rd_T75 l1 x5_1).f1), .int .i64 ((rd_T75 l1 x5_1).f2.f0), .int .i64 ((rd_T75 l1 x5_1).f2.f1)]] (h := ?_)
       with_reducible refine (laws_eqLast.calls ((rd_T75 l0 x5_1).f0) ((rd_T75 l0 x5_1).f1) ((rd_T75 l0 x5_1).f2.f0) ((rd_T75 l0 x5_1).f2.f1) ((rd_T75 l1 x5_1).f0) ((rd_T75 l1 x5_1).f1) ((rd_T75 l1 x5_1).f2.f0) ((rd_T75 l1 x5_1).f2.f1) false _ A7.out).mono ?_
       rintro e w12 ⟨rfl, hb⟩
       refine ⟨_, rfl, ?_⟩
       replace HB := bst hb
       (try clear hb)
       (try clear hb2)
       (try clear hk)
       (try clear hi)
       refine hK.out _ _ ⟨(hxb HB hw224_0 :), (hxb HB hw224_1 :), (hxb HB hw224_2 :), (hxb HB hw224_3 :), (hxb HB hw225_0 :), (hxb HB hw225_1 :), (hxb HB hw225_2 :), (hxb HB hw225_3 :)⟩ (fun hHeld => ?_)
       clear hK K
       refine nrm_ (some 25) (h := ?_)
       refine pvn_ HT_ (h := ?_)
       refine done_ (done_of HT_.out (by kernel_rfl)) ?_
       try go_wp2
       go_ret
       exact ⟨rz_, bel⟩
      rw [if_neg c6] at H
      exact absurd H (by simp)
     rw [if_neg c5] at H
     exact absurd H (by simp)
    rw [if_neg c4] at H
    have c4b0 : decide (x5_1 < (l0.length : Int)) = false := decide_eq_false c4
    clear c4
    obtain rfl := Option.some.inj H
    go_wp2
    go_ret
    exact ⟨rz_, bel⟩
 rw [if_neg c3] at H
 have c3b0 : ((l0.length : Int) == (l1.length : Int)) = false := beq_eq_false_iff_ne.mpr c3
 have c3b1 : ((l0.length : Int) != (l1.length : Int)) = true := bne_iff_ne.mpr c3
 have c3b2 : (l0.length == l1.length) = false := by first | simpa using c3 | (simp at c3 ⊢; omega)
 obtain rfl := Option.some.inj H
 go_enter Try.func90, Try.ntmps90
 go_wp2
 go_ret
 exact ⟨rz_, bel⟩

/-! ### laws_eqState: function 19 -/
def laws_eqState.f (k : Nat) (a0_0 : Int) (l0_1 : List (S92)) (l0_2 : List (S94)) (a0_3 : Int) (l0_4 : List (S109)) (l0_5 : List (S75)) (a1_0 : Int) (l1_1 : List (S92)) (l1_2 : List (S94)) (a1_3 : Int) (l1_4 : List (S109)) (l1_5 : List (S75)) : Option (Bool) := if a0_0 = a1_0 then ((laws_eqRowS.f k l0_1 l1_1).bind fun t229 => (if t229 = true then ((laws_eqTombS.f k l0_2 l1_2).bind fun t230 => (if t230 = true then (if a0_3 = a1_3 then ((laws_eqSessionS.f k l0_4 l1_4).bind fun t231 => (if t231 = true then ((laws_eqLastS.f k l0_5 l1_5).bind fun t232 => (if t232 = true then (some true) else (some false))) else (some false))) else (some false)) else (some false))) else (some false))) else (some false)
set_option maxHeartbeats 8000000 in
set_option maxRecDepth 100000 in
theorem laws_eqState.calls (k : Nat) (a0_0 : Int) (A0_1 : Option Addr) (c0_1 : Nat) (l0_1 : List (S92)) (A0_2 : Option Addr) (c0_2 : Nat) (l0_2 : List (S94)) (a0_3 : Int) (A0_4 : Option Addr) (c0_4 : Nat) (l0_4 : List (S109)) (A0_5 : Option Addr) (c0_5 : Nat) (l0_5 : List (S75)) (a1_0 : Int) (A1_1 : Option Addr) (c1_1 : Nat) (l1_1 : List (S92)) (A1_2 : Option Addr) (c1_2 : Nat) (l1_2 : List (S94)) (a1_3 : Int) (A1_4 : Option Addr) (c1_4 : Nat) (l1_4 : List (S109)) (A1_5 : Option Addr) (c1_5 : Nat) (l1_5 : List (S75)) (r : Bool) (w : World) (hr0_1 : Kd.C k92 w A0_1 l0_1.length l0_1) (hc0_1 : l0_1.length ≤ c0_1) (hr0_2 : Kd.C k94 w A0_2 l0_2.length l0_2) (hc0_2 : l0_2.length ≤ c0_2) (hr0_4 : Kd.C k109 w A0_4 l0_4.length l0_4) (hc0_4 : l0_4.length ≤ c0_4) (hr0_5 : Kd.C k75 w A0_5 l0_5.length l0_5) (hc0_5 : l0_5.length ≤ c0_5) (hr1_1 : Kd.C k92 w A1_1 l1_1.length l1_1) (hc1_1 : l1_1.length ≤ c1_1) (hr1_2 : Kd.C k94 w A1_2 l1_2.length l1_2) (hc1_2 : l1_2.length ≤ c1_2) (hr1_4 : Kd.C k109 w A1_4 l1_4.length l1_4) (hc1_4 : l1_4.length ≤ c1_4) (hr1_5 : Kd.C k75 w A1_5 l1_5.length l1_5) (hc1_5 : l1_5.length ≤ c1_5) (h : laws_eqState.f k a0_0 l0_1 l0_2 a0_3 l0_4 l0_5 a1_0 l1_1 l1_2 a1_3 l1_4 l1_5 = some r) :
  Calls Try.prog 19 #[.agg #[.int .i64 a0_0, .slice A0_1 l0_1.length c0_1, .slice A0_2 l0_2.length c0_2, .int .i64 a0_3, .slice A0_4 l0_4.length c0_4, .slice A0_5 l0_5.length c0_5], .agg #[.int .i64 a1_0, .slice A1_1 l1_1.length c1_1, .slice A1_2 l1_2.length c1_2, .int .i64 a1_3, .slice A1_4 l1_4.length c1_4, .slice A1_5 l1_5.length c1_5]] w fun e w' => e = .returned (.bool r) ∧ Below w.heap.size w w' := by
 have hu35 := Try.underlying35
 have HR0_1 := Aside0.mk hr0_1
 have HC0_1 := Aside0.mk hc0_1
 clear hr0_1 hc0_1
 have HR0_2 := Aside0.mk hr0_2
 have HC0_2 := Aside0.mk hc0_2
 clear hr0_2 hc0_2
 have HR0_4 := Aside0.mk hr0_4
 have HC0_4 := Aside0.mk hc0_4
 clear hr0_4 hc0_4
 have HR0_5 := Aside0.mk hr0_5
 have HC0_5 := Aside0.mk hc0_5
 clear hr0_5 hc0_5
 have HR1_1 := Aside0.mk hr1_1
 have HC1_1 := Aside0.mk hc1_1
 clear hr1_1 hc1_1
 have HR1_2 := Aside0.mk hr1_2
 have HC1_2 := Aside0.mk hc1_2
 clear hr1_2 hc1_2
 have HR1_4 := Aside0.mk hr1_4
 have HC1_4 := Aside0.mk hc1_4
 clear hr1_4 hc1_4
 have HR1_5 := Aside0.mk hr1_5
 have HC1_5 := Aside0.mk hc1_5
 clear hr1_5 hc1_5
 have HB := Aside0.mk (Below.refl w.heap.size w)
 have H : (if a0_0 = a1_0 then ((laws_eqRowS.f k l0_1 l1_1).bind fun t229 => (if t229 = true then ((laws_eqTombS.f k l0_2 l1_2).bind fun t230 => (if t230 = true then (if a0_3 = a1_3 then ((laws_eqSessionS.f k l0_4 l1_4).bind fun t231 => (if t231 = true then ((laws_eqLastS.f k l0_5 l1_5).bind fun t232 => (if t232 = true then (some true) else (some false))) else (some false))) else (some false)) else (some false))) else (some false))) else (some false)) = some r := h
 clear h
 by_cases c3 : a0_0 = a1_0
 ·rw [if_pos c3] at H
  have c3b0 : (a0_0 == a1_0) = true := beq_iff_eq.mpr c3
  have c3b1 : (a0_0 != a1_0) = false := bne_eq_false_iff_eq.mpr c3
  clear c3
  replace H := Option.bind_eq_some_iff.mp H
  obtain ⟨t229, A40, H⟩ := H
  replace H : (if t229 = true then ((laws_eqTombS.f k l0_2 l1_2).bind fun t230 => (if t230 = true then (if a0_3 = a1_3 then ((laws_eqSessionS.f k l0_4 l1_4).bind fun t231 => (if t231 = true then ((laws_eqLastS.f k l0_5 l1_5).bind fun t232 => (if t232 = true then (some true) else (some false))) else (some false))) else (some false)) else (some false))) else (some false)) = some r := H
  have A4 := Aside0.mk A40
  clear A40
  by_cases c5 : t229 = true
  ·subst c5
   have H1 : ((laws_eqTombS.f k l0_2 l1_2).bind fun t230 => (if t230 = true then (if a0_3 = a1_3 then ((laws_eqSessionS.f k l0_4 l1_4).bind fun t231 => (if t231 = true then ((laws_eqLastS.f k l0_5 l1_5).bind fun t232 => (if t232 = true then (some true) else (some false))) else (some false))) else (some false)) else (some false))) = some r := by rw [if_pos rfl] at H; exact H
   clear H
   have H := H1
   clear H1
   replace H := Option.bind_eq_some_iff.mp H
   obtain ⟨t230, A60, H⟩ := H
   replace H : (if t230 = true then (if a0_3 = a1_3 then ((laws_eqSessionS.f k l0_4 l1_4).bind fun t231 => (if t231 = true then ((laws_eqLastS.f k l0_5 l1_5).bind fun t232 => (if t232 = true then (some true) else (some false))) else (some false))) else (some false)) else (some false)) = some r := H
   have A6 := Aside0.mk A60
   clear A60
   by_cases c7 : t230 = true
   ·subst c7
    have H1 : (if a0_3 = a1_3 then ((laws_eqSessionS.f k l0_4 l1_4).bind fun t231 => (if t231 = true then ((laws_eqLastS.f k l0_5 l1_5).bind fun t232 => (if t232 = true then (some true) else (some false))) else (some false))) else (some false)) = some r := by rw [if_pos rfl] at H; exact H
    clear H
    have H := H1
    clear H1
    by_cases c8 : a0_3 = a1_3
    ·rw [if_pos c8] at H
     have c8b0 : (a0_3 == a1_3) = true := beq_iff_eq.mpr c8
     have c8b1 : (a0_3 != a1_3) = false := bne_eq_false_iff_eq.mpr c8
     clear c8
     replace H := Option.bind_eq_some_iff.mp H
     obtain ⟨t231, A90, H⟩ := H
     replace H : (if t231 = true then ((laws_eqLastS.f k l0_5 l1_5).bind fun t232 => (if t232 = true then (some true) else (some false))) else (some false)) = some r := H
     have A9 := Aside0.mk A90
     clear A90
     by_cases c10 : t231 = true
     ·subst c10
      have H1 : ((laws_eqLastS.f k l0_5 l1_5).bind fun t232 => (if t232 = true then (some true) else (some false))) = some r := by rw [if_pos rfl] at H; exact H
      clear H
      have H := H1
      clear H1
      replace H := Option.bind_eq_some_iff.mp H
      obtain ⟨t232, A110, H⟩ := H
      replace H : (if t232 = true then (some true) else (some false)) = some r := H
      have A11 := Aside0.mk A110
      clear A110
      by_cases c12 : t232 = true
      ·subst c12
       have H1 : (some true) = some r := by rw [if_pos rfl] at H; exact H
       clear H
       have H := H1
       clear H1
       obtain rfl := Option.some.inj H
       go_enter Try.func19, Try.ntmps19
       go_wp2_with (first | ((with_reducible refine gate_dst (N := 2) rfl ?_); refine bx_ 2 #[.int .i64 a0_0, .slice A0_1 l0_1.length c0_1, .slice A0_2 l0_2.length c0_2, .int .i64 a0_3, .slice A0_4 l0_4.length c0_4, .slice A0_5 l0_5.length c0_5] 35 (h := ?_); intro gb227 hg w13 hbox hb; have BK227 := Aside0.mk (hbox); have GW227 := Aside0.mk ((by rw [hg]; exact (below_size bel) : w.heap.size ≤ gb227)); have GE227 := GW227; replace HB := bst hb; clear hb hbox hg) | ((with_reducible refine gate_dst (N := 3) rfl ?_); refine bx_ 3 #[.int .i64 a1_0, .slice A1_1 l1_1.length c1_1, .slice A1_2 l1_2.length c1_2, .int .i64 a1_3, .slice A1_4 l1_4.length c1_4, .slice A1_5 l1_5.length c1_5] 35 (h := ?_); intro gb228 hg w14 hbox hb; have BK228 := Aside0.mk (hbox); have GW228 := Aside0.mk ((by rw [hg]; exact (below_size bel) : w.heap.size ≤ gb228)); have GE228 := GW228; have NB227_228 := Aside0.mk ((by rw [hg]; exact Nat.ne_of_lt (blt BK227) : gb227 ≠ gb228)); have NB228_227 := Aside0.mk NB227_228.out.symm; replace BK227 := Aside0.mk (blb BK227 hb); replace HB := bst hb; clear hb hbox hg; have hnb15 := NB227_228.out; have hnc15 := NB228_227.out; obtain ⟨C16_0, C16_1, C16_2, C16_3, C16_4, C16_5, -⟩ := cells_6 BK227.out trivial; obtain ⟨F16_0, F16_1, F16_2, F16_3, F16_4, F16_5, -⟩ := frz_6 BK227.out; obtain ⟨C17_0, C17_1, C17_2, C17_3, C17_4, C17_5, -⟩ := cells_6 BK228.out trivial; obtain ⟨F17_0, F17_1, F17_2, F17_3, F17_4, F17_5, -⟩ := frz_6 BK228.out) | ((with_reducible refine gate_callee (f := 87) rfl ?_); refine gl_ (some 14) Try.func87 #[.slice A0_1 l0_1.length c0_1, .slice A1_1 l1_1.length c1_1] (h := ?_); (with_reducible refine (laws_eqRowS.calls k _ _ l0_1 _ _ l1_1 true _ ?side1 ?side2 ?side3 ?side4 A4.out).mono ?_); (case side1 => exact kcb); (case side2 => exact HC0_1.out); (case side3 => exact kcb); (case side4 => exact HC1_1.out); rintro e w18 ⟨rfl, hb⟩; refine ⟨_, rfl, ?_⟩; replace BK227 := Aside0.mk (blb BK227 hb); replace BK228 := Aside0.mk (blb BK228 hb); replace HB := bst hb; (try clear hb); (try clear hb2); (try clear hk); (try clear hi); obtain ⟨C19_0, C19_1, C19_2, C19_3, C19_4, C19_5, -⟩ := cells_6 BK227.out trivial; obtain ⟨F19_0, F19_1, F19_2, F19_3, F19_4, F19_5, -⟩ := frz_6 BK227.out; obtain ⟨C20_0, C20_1, C20_2, C20_3, C20_4, C20_5, -⟩ := cells_6 BK228.out trivial; obtain ⟨F20_0, F20_1, F20_2, F20_3, F20_4, F20_5, -⟩ := frz_6 BK228.out) | ((with_reducible refine gate_callee (f := 88) rfl ?_); refine gl_ (some 20) Try.func88 #[.slice A0_2 l0_2.length c0_2, .slice A1_2 l1_2.length c1_2] (h := ?_); (with_reducible refine (laws_eqTombS.calls k _ _ l0_2 _ _ l1_2 true _ ?side1 ?side2 ?side3 ?side4 A6.out).mono ?_); (case side1 => exact kcb); (case side2 => exact HC0_2.out); (case side3 => exact kcb); (case side4 => exact HC1_2.out); rintro e w21 ⟨rfl, hb⟩; refine ⟨_, rfl, ?_⟩; replace BK227 := Aside0.mk (blb BK227 hb); replace BK228 := Aside0.mk (blb BK228 hb); replace HB := bst hb; (try clear hb); (try clear hb2); (try clear hk); (try clear hi); obtain ⟨C22_0, C22_1, C22_2, C22_3, C22_4, C22_5, -⟩ := cells_6 BK227.out trivial; obtain ⟨F22_0, F22_1, F22_2, F22_3, F22_4, F22_5, -⟩ := frz_6 BK227.out; obtain ⟨C23_0, C23_1, C23_2, C23_3, C23_4, C23_5, -⟩ := cells_6 BK228.out trivial; obtain ⟨F23_0, F23_1, F23_2, F23_3, F23_4, F23_5, -⟩ := frz_6 BK228.out) | ((with_reducible refine gate_callee (f := 89) rfl ?_); refine gl_ (some 31) Try.func89 #[.slice A0_4 l0_4.length c0_4, .slice A1_4 l1_4.length c1_4] (h := ?_); (with_reducible refine (laws_eqSessionS.calls k _ _ l0_4 _ _ l1_4 true _ ?side1 ?side2 ?side3 ?side4 A9.out).mono ?_); (case side1 => exact kcb); (case side2 => exact HC0_4.out); (case side3 => exact kcb); (case side4 => exact HC1_4.out); rintro e w24 ⟨rfl, hb⟩; refine ⟨_, rfl, ?_⟩; replace BK227 := Aside0.mk (blb BK227 hb); replace BK228 := Aside0.mk (blb BK228 hb); replace HB := bst hb; (try clear hb); (try clear hb2); (try clear hk); (try clear hi); obtain ⟨C25_0, C25_1, C25_2, C25_3, C25_4, C25_5, -⟩ := cells_6 BK227.out trivial; obtain ⟨F25_0, F25_1, F25_2, F25_3, F25_4, F25_5, -⟩ := frz_6 BK227.out; obtain ⟨C26_0, C26_1, C26_2, C26_3, C26_4, C26_5, -⟩ := cells_6 BK228.out trivial; obtain ⟨F26_0, F26_1, F26_2, F26_3, F26_4, F26_5, -⟩ := frz_6 BK228.out) | ((with_reducible refine gate_callee (f := 90) rfl ?_); refine gl_ (some 37) Try.func90 #[.slice A0_5 l0_5.length c0_5, .slice A1_5 l1_5.length c1_5] (h := ?_); (with_reducible refine (laws_eqLastS.calls k _ _ l0_5 _ _ l1_5 true _ ?side1 ?side2 ?side3 ?side4 A11.out).mono ?_); (case side1 => exact kcb); (case side2 => exact HC0_5.out); (case side3 => exact kcb); (case side4 => exact HC1_5.out); rintro e w27 ⟨rfl, hb⟩; refine ⟨_, rfl, ?_⟩; replace BK227 := Aside0.mk (blb BK227 hb); replace BK228 := Aside0.mk (blb BK228 hb); replace HB := bst hb; (try clear hb); (try clear hb2); (try clear hk); (try clear hi)))
       go_ret
       exact ⟨rz_, bel⟩
      replace c12 := Bool.eq_false_iff.mpr c12
      subst c12
      have H1 : (some false) = some r := by rw [if_neg (show ¬ (false = true) by decide)] at H; exact H
      clear H
      have H := H1
      clear H1
      obtain rfl := Option.some.inj H
      go_enter Try.func19, Try.ntmps19
      go_wp2_with (first | ((with_reducible refine gate_dst (N := 2) rfl ?_); refine bx_ 2 #[.int .i64 a0_0, .slice A0_1 l0_1.length c0_1, .slice A0_2 l0_2.length c0_2, .int .i64 a0_3, .slice A0_4 l0_4.length c0_4, .slice A0_5 l0_5.length c0_5] 35 (h := ?_); intro gb227 hg w28 hbox hb; have BK227 := Aside0.mk (hbox); have GW227 := Aside0.mk ((by rw [hg]; exact (below_size bel) : w.heap.size ≤ gb227)); have GE227 := GW227; replace HB := bst hb; clear hb hbox hg) | ((with_reducible refine gate_dst (N := 3) rfl ?_); refine bx_ 3 #[.int .i64 a1_0, .slice A1_1 l1_1.length c1_1, .slice A1_2 l1_2.length c1_2, .int .i64 a1_3, .slice A1_4 l1_4.length c1_4, .slice A1_5 l1_5.length c1_5] 35 (h := ?_); intro gb228 hg w29 hbox hb; have BK228 := Aside0.mk (hbox); have GW228 := Aside0.mk ((by rw [hg]; exact (below_size bel) : w.heap.size ≤ gb228)); have GE228 := GW228; have NB227_228 := Aside0.mk ((by rw [hg]; exact Nat.ne_of_lt (blt BK227) : gb227 ≠ gb228)); have NB228_227 := Aside0.mk NB227_228.out.symm; replace BK227 := Aside0.mk (blb BK227 hb); replace HB := bst hb; clear hb hbox hg; have hnb30 := NB227_228.out; have hnc30 := NB228_227.out; obtain ⟨C31_0, C31_1, C31_2, C31_3, C31_4, C31_5, -⟩ := cells_6 BK227.out trivial; obtain ⟨F31_0, F31_1, F31_2, F31_3, F31_4, F31_5, -⟩ := frz_6 BK227.out; obtain ⟨C32_0, C32_1, C32_2, C32_3, C32_4, C32_5, -⟩ := cells_6 BK228.out trivial; obtain ⟨F32_0, F32_1, F32_2, F32_3, F32_4, F32_5, -⟩ := frz_6 BK228.out) | ((with_reducible refine gate_callee (f := 87) rfl ?_); refine gl_ (some 14) Try.func87 #[.slice A0_1 l0_1.length c0_1, .slice A1_1 l1_1.length c1_1] (h := ?_); (with_reducible refine (laws_eqRowS.calls k _ _ l0_1 _ _ l1_1 true _ ?side1 ?side2 ?side3 ?side4 A4.out).mono ?_); (case side1 => exact kcb); (case side2 => exact HC0_1.out); (case side3 => exact kcb); (case side4 => exact HC1_1.out); rintro e w33 ⟨rfl, hb⟩; refine ⟨_, rfl, ?_⟩; replace BK227 := Aside0.mk (blb BK227 hb); replace BK228 := Aside0.mk (blb BK228 hb); replace HB := bst hb; (try clear hb); (try clear hb2); (try clear hk); (try clear hi); obtain ⟨C34_0, C34_1, C34_2, C34_3, C34_4, C34_5, -⟩ := cells_6 BK227.out trivial; obtain ⟨F34_0, F34_1, F34_2, F34_3, F34_4, F34_5, -⟩ := frz_6 BK227.out; obtain ⟨C35_0, C35_1, C35_2, C35_3, C35_4, C35_5, -⟩ := cells_6 BK228.out trivial; obtain ⟨F35_0, F35_1, F35_2, F35_3, F35_4, F35_5, -⟩ := frz_6 BK228.out) | ((with_reducible refine gate_callee (f := 88) rfl ?_); refine gl_ (some 20) Try.func88 #[.slice A0_2 l0_2.length c0_2, .slice A1_2 l1_2.length c1_2] (h := ?_); (with_reducible refine (laws_eqTombS.calls k _ _ l0_2 _ _ l1_2 true _ ?side1 ?side2 ?side3 ?side4 A6.out).mono ?_); (case side1 => exact kcb); (case side2 => exact HC0_2.out); (case side3 => exact kcb); (case side4 => exact HC1_2.out); rintro e w36 ⟨rfl, hb⟩; refine ⟨_, rfl, ?_⟩; replace BK227 := Aside0.mk (blb BK227 hb); replace BK228 := Aside0.mk (blb BK228 hb); replace HB := bst hb; (try clear hb); (try clear hb2); (try clear hk); (try clear hi); obtain ⟨C37_0, C37_1, C37_2, C37_3, C37_4, C37_5, -⟩ := cells_6 BK227.out trivial; obtain ⟨F37_0, F37_1, F37_2, F37_3, F37_4, F37_5, -⟩ := frz_6 BK227.out; obtain ⟨C38_0, C38_1, C38_2, C38_3, C38_4, C38_5, -⟩ := cells_6 BK228.out trivial; obtain ⟨F38_0, F38_1, F38_2, F38_3, F38_4, F38_5, -⟩ := frz_6 BK228.out) | ((with_reducible refine gate_callee (f := 89) rfl ?_); refine gl_ (some 31) Try.func89 #[.slice A0_4 l0_4.length c0_4, .slice A1_4 l1_4.length c1_4] (h := ?_); (with_reducible refine (laws_eqSessionS.calls k _ _ l0_4 _ _ l1_4 true _ ?side1 ?side2 ?side3 ?side4 A9.out).mono ?_); (case side1 => exact kcb); (case side2 => exact HC0_4.out); (case side3 => exact kcb); (case side4 => exact HC1_4.out); rintro e w39 ⟨rfl, hb⟩; refine ⟨_, rfl, ?_⟩; replace BK227 := Aside0.mk (blb BK227 hb); replace BK228 := Aside0.mk (blb BK228 hb); replace HB := bst hb; (try clear hb); (try clear hb2); (try clear hk); (try clear hi); obtain ⟨C40_0, C40_1, C40_2, C40_3, C40_4, C40_5, -⟩ := cells_6 BK227.out trivial; obtain ⟨F40_0, F40_1, F40_2, F40_3, F40_4, F40_5, -⟩ := frz_6 BK227.out; obtain ⟨C41_0, C41_1, C41_2, C41_3, C41_4, C41_5, -⟩ := cells_6 BK228.out trivial; obtain ⟨F41_0, F41_1, F41_2, F41_3, F41_4, F41_5, -⟩ := frz_6 BK228.out) | ((with_reducible refine gate_callee (f := 90) rfl ?_); refine gl_ (some 37) Try.func90 #[.slice A0_5 l0_5.length c0_5, .slice A1_5 l1_5.length c1_5] (h := ?_); (with_reducible refine (laws_eqLastS.calls k _ _ l0_5 _ _ l1_5 false _ ?side1 ?side2 ?side3 ?side4 A11.out).mono ?_); (case side1 => exact kcb); (case side2 => exact HC0_5.out); (case side3 => exact kcb); (case side4 => exact HC1_5.out); rintro e w42 ⟨rfl, hb⟩; refine ⟨_, rfl, ?_⟩; replace BK227 := Aside0.mk (blb BK227 hb); replace BK228 := Aside0.mk (blb BK228 hb); replace HB := bst hb; (try clear hb); (try clear hb2); (try clear hk); (try clear hi)))
      go_ret
      exact ⟨rz_, bel⟩
     replace c10 := Bool.eq_false_iff.mpr c10
     subst c10
     have H1 : (some false) = some r := by rw [if_neg (show ¬ (false = true) by decide)] at H; exact H
     clear H
     have H := H1
     clear H1
     obtain rfl := Option.some.inj H
     go_enter Try.func19, Try.ntmps19
     go_wp2_with (first | ((with_reducible refine gate_dst (N := 2) rfl ?_); refine bx_ 2 #[.int .i64 a0_0, .slice A0_1 l0_1.length c0_1, .slice A0_2 l0_2.length c0_2, .int .i64 a0_3, .slice A0_4 l0_4.length c0_4, .slice A0_5 l0_5.length c0_5] 35 (h := ?_); intro gb227 hg w43 hbox hb; have BK227 := Aside0.mk (hbox); have GW227 := Aside0.mk ((by rw [hg]; exact (below_size bel) : w.heap.size ≤ gb227)); have GE227 := GW227; replace HB := bst hb; clear hb hbox hg) | ((with_reducible refine gate_dst (N := 3) rfl ?_); refine bx_ 3 #[.int .i64 a1_0, .slice A1_1 l1_1.length c1_1, .slice A1_2 l1_2.length c1_2, .int .i64 a1_3, .slice A1_4 l1_4.length c1_4, .slice A1_5 l1_5.length c1_5] 35 (h := ?_); intro gb228 hg w44 hbox hb; have BK228 := Aside0.mk (hbox); have GW228 := Aside0.mk ((by rw [hg]; exact (below_size bel) : w.heap.size ≤ gb228)); have GE228 := GW228; have NB227_228 := Aside0.mk ((by rw [hg]; exact Nat.ne_of_lt (blt BK227) : gb227 ≠ gb228)); have NB228_227 := Aside0.mk NB227_228.out.symm; replace BK227 := Aside0.mk (blb BK227 hb); replace HB := bst hb; clear hb hbox hg; have hnb45 := NB227_228.out; have hnc45 := NB228_227.out; obtain ⟨C46_0, C46_1, C46_2, C46_3, C46_4, C46_5, -⟩ := cells_6 BK227.out trivial; obtain ⟨F46_0, F46_1, F46_2, F46_3, F46_4, F46_5, -⟩ := frz_6 BK227.out; obtain ⟨C47_0, C47_1, C47_2, C47_3, C47_4, C47_5, -⟩ := cells_6 BK228.out trivial; obtain ⟨F47_0, F47_1, F47_2, F47_3, F47_4, F47_5, -⟩ := frz_6 BK228.out) | ((with_reducible refine gate_callee (f := 87) rfl ?_); refine gl_ (some 14) Try.func87 #[.slice A0_1 l0_1.length c0_1, .slice A1_1 l1_1.length c1_1] (h := ?_); (with_reducible refine (laws_eqRowS.calls k _ _ l0_1 _ _ l1_1 true _ ?side1 ?side2 ?side3 ?side4 A4.out).mono ?_); (case side1 => exact kcb); (case side2 => exact HC0_1.out); (case side3 => exact kcb); (case side4 => exact HC1_1.out); rintro e w48 ⟨rfl, hb⟩; refine ⟨_, rfl, ?_⟩; replace BK227 := Aside0.mk (blb BK227 hb); replace BK228 := Aside0.mk (blb BK228 hb); replace HB := bst hb; (try clear hb); (try clear hb2); (try clear hk); (try clear hi); obtain ⟨C49_0, C49_1, C49_2, C49_3, C49_4, C49_5, -⟩ := cells_6 BK227.out trivial; obtain ⟨F49_0, F49_1, F49_2, F49_3, F49_4, F49_5, -⟩ := frz_6 BK227.out; obtain ⟨C50_0, C50_1, C50_2, C50_3, C50_4, C50_5, -⟩ := cells_6 BK228.out trivial; obtain ⟨F50_0, F50_1, F50_2, F50_3, F50_4, F50_5, -⟩ := frz_6 BK228.out) | ((with_reducible refine gate_callee (f := 88) rfl ?_); refine gl_ (some 20) Try.func88 #[.slice A0_2 l0_2.length c0_2, .slice A1_2 l1_2.length c1_2] (h := ?_); (with_reducible refine (laws_eqTombS.calls k _ _ l0_2 _ _ l1_2 true _ ?side1 ?side2 ?side3 ?side4 A6.out).mono ?_); (case side1 => exact kcb); (case side2 => exact HC0_2.out); (case side3 => exact kcb); (case side4 => exact HC1_2.out); rintro e w51 ⟨rfl, hb⟩; refine ⟨_, rfl, ?_⟩; replace BK227 := Aside0.mk (blb BK227 hb); replace BK228 := Aside0.mk (blb BK228 hb); replace HB := bst hb; (try clear hb); (try clear hb2); (try clear hk); (try clear hi); obtain ⟨C52_0, C52_1, C52_2, C52_3, C52_4, C52_5, -⟩ := cells_6 BK227.out trivial; obtain ⟨F52_0, F52_1, F52_2, F52_3, F52_4, F52_5, -⟩ := frz_6 BK227.out; obtain ⟨C53_0, C53_1, C53_2, C53_3, C53_4, C53_5, -⟩ := cells_6 BK228.out trivial; obtain ⟨F53_0, F53_1, F53_2, F53_3, F53_4, F53_5, -⟩ := frz_6 BK228.out) | ((with_reducible refine gate_callee (f := 89) rfl ?_); refine gl_ (some 31) Try.func89 #[.slice A0_4 l0_4.length c0_4, .slice A1_4 l1_4.length c1_4] (h := ?_); (with_reducible refine (laws_eqSessionS.calls k _ _ l0_4 _ _ l1_4 false _ ?side1 ?side2 ?side3 ?side4 A9.out).mono ?_); (case side1 => exact kcb); (case side2 => exact HC0_4.out); (case side3 => exact kcb); (case side4 => exact HC1_4.out); rintro e w54 ⟨rfl, hb⟩; refine ⟨_, rfl, ?_⟩; replace BK227 := Aside0.mk (blb BK227 hb); replace BK228 := Aside0.mk (blb BK228 hb); replace HB := bst hb; (try clear hb); (try clear hb2); (try clear hk); (try clear hi)))
     go_ret
     exact ⟨rz_, bel⟩
    rw [if_neg c8] at H
    have c8b0 : (a0_3 == a1_3) = false := beq_eq_false_iff_ne.mpr c8
    have c8b1 : (a0_3 != a1_3) = true := bne_iff_ne.mpr c8
    obtain rfl := Option.some.inj H
    go_enter Try.func19, Try.ntmps19
    go_wp2_with (first | ((with_reducible refine gate_dst (N := 2) rfl ?_); refine bx_ 2 #[.int .i64 a0_0, .slice A0_1 l0_1.length c0_1, .slice A0_2 l0_2.length c0_2, .int .i64 a0_3, .slice A0_4 l0_4.length c0_4, .slice A0_5 l0_5.length c0_5] 35 (h := ?_); intro gb227 hg w55 hbox hb; have BK227 := Aside0.mk (hbox); have GW227 := Aside0.mk ((by rw [hg]; exact (below_size bel) : w.heap.size ≤ gb227)); have GE227 := GW227; replace HB := bst hb; clear hb hbox hg) | ((with_reducible refine gate_dst (N := 3) rfl ?_); refine bx_ 3 #[.int .i64 a1_0, .slice A1_1 l1_1.length c1_1, .slice A1_2 l1_2.length c1_2, .int .i64 a1_3, .slice A1_4 l1_4.length c1_4, .slice A1_5 l1_5.length c1_5] 35 (h := ?_); intro gb228 hg w56 hbox hb; have BK228 := Aside0.mk (hbox); have GW228 := Aside0.mk ((by rw [hg]; exact (below_size bel) : w.heap.size ≤ gb228)); have GE228 := GW228; have NB227_228 := Aside0.mk ((by rw [hg]; exact Nat.ne_of_lt (blt BK227) : gb227 ≠ gb228)); have NB228_227 := Aside0.mk NB227_228.out.symm; replace BK227 := Aside0.mk (blb BK227 hb); replace HB := bst hb; clear hb hbox hg; have hnb57 := NB227_228.out; have hnc57 := NB228_227.out; obtain ⟨C58_0, C58_1, C58_2, C58_3, C58_4, C58_5, -⟩ := cells_6 BK227.out trivial; obtain ⟨F58_0, F58_1, F58_2, F58_3, F58_4, F58_5, -⟩ := frz_6 BK227.out; obtain ⟨C59_0, C59_1, C59_2, C59_3, C59_4, C59_5, -⟩ := cells_6 BK228.out trivial; obtain ⟨F59_0, F59_1, F59_2, F59_3, F59_4, F59_5, -⟩ := frz_6 BK228.out) | ((with_reducible refine gate_callee (f := 87) rfl ?_); refine gl_ (some 14) Try.func87 #[.slice A0_1 l0_1.length c0_1, .slice A1_1 l1_1.length c1_1] (h := ?_); (with_reducible refine (laws_eqRowS.calls k _ _ l0_1 _ _ l1_1 true _ ?side1 ?side2 ?side3 ?side4 A4.out).mono ?_); (case side1 => exact kcb); (case side2 => exact HC0_1.out); (case side3 => exact kcb); (case side4 => exact HC1_1.out); rintro e w60 ⟨rfl, hb⟩; refine ⟨_, rfl, ?_⟩; replace BK227 := Aside0.mk (blb BK227 hb); replace BK228 := Aside0.mk (blb BK228 hb); replace HB := bst hb; (try clear hb); (try clear hb2); (try clear hk); (try clear hi); obtain ⟨C61_0, C61_1, C61_2, C61_3, C61_4, C61_5, -⟩ := cells_6 BK227.out trivial; obtain ⟨F61_0, F61_1, F61_2, F61_3, F61_4, F61_5, -⟩ := frz_6 BK227.out; obtain ⟨C62_0, C62_1, C62_2, C62_3, C62_4, C62_5, -⟩ := cells_6 BK228.out trivial; obtain ⟨F62_0, F62_1, F62_2, F62_3, F62_4, F62_5, -⟩ := frz_6 BK228.out) | ((with_reducible refine gate_callee (f := 88) rfl ?_); refine gl_ (some 20) Try.func88 #[.slice A0_2 l0_2.length c0_2, .slice A1_2 l1_2.length c1_2] (h := ?_); (with_reducible refine (laws_eqTombS.calls k _ _ l0_2 _ _ l1_2 true _ ?side1 ?side2 ?side3 ?side4 A6.out).mono ?_); (case side1 => exact kcb); (case side2 => exact HC0_2.out); (case side3 => exact kcb); (case side4 => exact HC1_2.out); rintro e w63 ⟨rfl, hb⟩; refine ⟨_, rfl, ?_⟩; replace BK227 := Aside0.mk (blb BK227 hb); replace BK228 := Aside0.mk (blb BK228 hb); replace HB := bst hb; (try clear hb); (try clear hb2); (try clear hk); (try clear hi); obtain ⟨C64_0, C64_1, C64_2, C64_3, C64_4, C64_5, -⟩ := cells_6 BK227.out trivial; obtain ⟨F64_0, F64_1, F64_2, F64_3, F64_4, F64_5, -⟩ := frz_6 BK227.out; obtain ⟨C65_0, C65_1, C65_2, C65_3, C65_4, C65_5, -⟩ := cells_6 BK228.out trivial; obtain ⟨F65_0, F65_1, F65_2, F65_3, F65_4, F65_5, -⟩ := frz_6 BK228.out))
    go_ret
    exact ⟨rz_, bel⟩
   replace c7 := Bool.eq_false_iff.mpr c7
   subst c7
   have H1 : (some false) = some r := by rw [if_neg (show ¬ (false = true) by decide)] at H; exact H
   clear H
   have H := H1
   clear H1
   obtain rfl := Option.some.inj H
   go_enter Try.func19, Try.ntmps19
   go_wp2_with (first | ((with_reducible refine gate_dst (N := 2) rfl ?_); refine bx_ 2 #[.int .i64 a0_0, .slice A0_1 l0_1.length c0_1, .slice A0_2 l0_2.length c0_2, .int .i64 a0_3, .slice A0_4 l0_4.length c0_4, .slice A0_5 l0_5.length c0_5] 35 (h := ?_); intro gb227 hg w66 hbox hb; have BK227 := Aside0.mk (hbox); have GW227 := Aside0.mk ((by rw [hg]; exact (below_size bel) : w.heap.size ≤ gb227)); have GE227 := GW227; replace HB := bst hb; clear hb hbox hg) | ((with_reducible refine gate_dst (N := 3) rfl ?_); refine bx_ 3 #[.int .i64 a1_0, .slice A1_1 l1_1.length c1_1, .slice A1_2 l1_2.length c1_2, .int .i64 a1_3, .slice A1_4 l1_4.length c1_4, .slice A1_5 l1_5.length c1_5] 35 (h := ?_); intro gb228 hg w67 hbox hb; have BK228 := Aside0.mk (hbox); have GW228 := Aside0.mk ((by rw [hg]; exact (below_size bel) : w.heap.size ≤ gb228)); have GE228 := GW228; have NB227_228 := Aside0.mk ((by rw [hg]; exact Nat.ne_of_lt (blt BK227) : gb227 ≠ gb228)); have NB228_227 := Aside0.mk NB227_228.out.symm; replace BK227 := Aside0.mk (blb BK227 hb); replace HB := bst hb; clear hb hbox hg; have hnb68 := NB227_228.out; have hnc68 := NB228_227.out; obtain ⟨C69_0, C69_1, C69_2, C69_3, C69_4, C69_5, -⟩ := cells_6 BK227.out trivial; obtain ⟨F69_0, F69_1, F69_2, F69_3, F69_4, F69_5, -⟩ := frz_6 BK227.out; obtain ⟨C70_0, C70_1, C70_2, C70_3, C70_4, C70_5, -⟩ := cells_6 BK228.out trivial; obtain ⟨F70_0, F70_1, F70_2, F70_3, F70_4, F70_5, -⟩ := frz_6 BK228.out) | ((with_reducible refine gate_callee (f := 87) rfl ?_); refine gl_ (some 14) Try.func87 #[.slice A0_1 l0_1.length c0_1, .slice A1_1 l1_1.length c1_1] (h := ?_); (with_reducible refine (laws_eqRowS.calls k _ _ l0_1 _ _ l1_1 true _ ?side1 ?side2 ?side3 ?side4 A4.out).mono ?_); (case side1 => exact kcb); (case side2 => exact HC0_1.out); (case side3 => exact kcb); (case side4 => exact HC1_1.out); rintro e w71 ⟨rfl, hb⟩; refine ⟨_, rfl, ?_⟩; replace BK227 := Aside0.mk (blb BK227 hb); replace BK228 := Aside0.mk (blb BK228 hb); replace HB := bst hb; (try clear hb); (try clear hb2); (try clear hk); (try clear hi); obtain ⟨C72_0, C72_1, C72_2, C72_3, C72_4, C72_5, -⟩ := cells_6 BK227.out trivial; obtain ⟨F72_0, F72_1, F72_2, F72_3, F72_4, F72_5, -⟩ := frz_6 BK227.out; obtain ⟨C73_0, C73_1, C73_2, C73_3, C73_4, C73_5, -⟩ := cells_6 BK228.out trivial; obtain ⟨F73_0, F73_1, F73_2, F73_3, F73_4, F73_5, -⟩ := frz_6 BK228.out) | ((with_reducible refine gate_callee (f := 88) rfl ?_); refine gl_ (some 20) Try.func88 #[.slice A0_2 l0_2.length c0_2, .slice A1_2 l1_2.length c1_2] (h := ?_); (with_reducible refine (laws_eqTombS.calls k _ _ l0_2 _ _ l1_2 false _ ?side1 ?side2 ?side3 ?side4 A6.out).mono ?_); (case side1 => exact kcb); (case side2 => exact HC0_2.out); (case side3 => exact kcb); (case side4 => exact HC1_2.out); rintro e w74 ⟨rfl, hb⟩; refine ⟨_, rfl, ?_⟩; replace BK227 := Aside0.mk (blb BK227 hb); replace BK228 := Aside0.mk (blb BK228 hb); replace HB := bst hb; (try clear hb); (try clear hb2); (try clear hk); (try clear hi)))
   go_ret
   exact ⟨rz_, bel⟩
  replace c5 := Bool.eq_false_iff.mpr c5
  subst c5
  have H1 : (some false) = some r := by rw [if_neg (show ¬ (false = true) by decide)] at H; exact H
  clear H
  have H := H1
  clear H1
  obtain rfl := Option.some.inj H
  go_enter Try.func19, Try.ntmps19
  go_wp2_with (first | ((with_reducible refine gate_dst (N := 2) rfl ?_); refine bx_ 2 #[.int .i64 a0_0, .slice A0_1 l0_1.length c0_1, .slice A0_2 l0_2.length c0_2, .int .i64 a0_3, .slice A0_4 l0_4.length c0_4, .slice A0_5 l0_5.length c0_5] 35 (h := ?_); intro gb227 hg w75 hbox hb; have BK227 := Aside0.mk (hbox); have GW227 := Aside0.mk ((by rw [hg]; exact (below_size bel) : w.heap.size ≤ gb227)); have GE227 := GW227; replace HB := bst hb; clear hb hbox hg) | ((with_reducible refine gate_dst (N := 3) rfl ?_); refine bx_ 3 #[.int .i64 a1_0, .slice A1_1 l1_1.length c1_1, .slice A1_2 l1_2.length c1_2, .int .i64 a1_3, .slice A1_4 l1_4.length c1_4, .slice A1_5 l1_5.length c1_5] 35 (h := ?_); intro gb228 hg w76 hbox hb; have BK228 := Aside0.mk (hbox); have GW228 := Aside0.mk ((by rw [hg]; exact (below_size bel) : w.heap.size ≤ gb228)); have GE228 := GW228; have NB227_228 := Aside0.mk ((by rw [hg]; exact Nat.ne_of_lt (blt BK227) : gb227 ≠ gb228)); have NB228_227 := Aside0.mk NB227_228.out.symm; replace BK227 := Aside0.mk (blb BK227 hb); replace HB := bst hb; clear hb hbox hg; have hnb77 := NB227_228.out; have hnc77 := NB228_227.out; obtain ⟨C78_0, C78_1, C78_2, C78_3, C78_4, C78_5, -⟩ := cells_6 BK227.out trivial; obtain ⟨F78_0, F78_1, F78_2, F78_3, F78_4, F78_5, -⟩ := frz_6 BK227.out; obtain ⟨C79_0, C79_1, C79_2, C79_3, C79_4, C79_5, -⟩ := cells_6 BK228.out trivial; obtain ⟨F79_0, F79_1, F79_2, F79_3, F79_4, F79_5, -⟩ := frz_6 BK228.out) | ((with_reducible refine gate_callee (f := 87) rfl ?_); refine gl_ (some 14) Try.func87 #[.slice A0_1 l0_1.length c0_1, .slice A1_1 l1_1.length c1_1] (h := ?_); (with_reducible refine (laws_eqRowS.calls k _ _ l0_1 _ _ l1_1 false _ ?side1 ?side2 ?side3 ?side4 A4.out).mono ?_); (case side1 => exact kcb); (case side2 => exact HC0_1.out); (case side3 => exact kcb); (case side4 => exact HC1_1.out); rintro e w80 ⟨rfl, hb⟩; refine ⟨_, rfl, ?_⟩; replace BK227 := Aside0.mk (blb BK227 hb); replace BK228 := Aside0.mk (blb BK228 hb); replace HB := bst hb; (try clear hb); (try clear hb2); (try clear hk); (try clear hi)))
  go_ret
  exact ⟨rz_, bel⟩
 rw [if_neg c3] at H
 have c3b0 : (a0_0 == a1_0) = false := beq_eq_false_iff_ne.mpr c3
 have c3b1 : (a0_0 != a1_0) = true := bne_iff_ne.mpr c3
 obtain rfl := Option.some.inj H
 go_enter Try.func19, Try.ntmps19
 go_wp2_with (first | ((with_reducible refine gate_dst (N := 2) rfl ?_); refine bx_ 2 #[.int .i64 a0_0, .slice A0_1 l0_1.length c0_1, .slice A0_2 l0_2.length c0_2, .int .i64 a0_3, .slice A0_4 l0_4.length c0_4, .slice A0_5 l0_5.length c0_5] 35 (h := ?_); intro gb227 hg w81 hbox hb; have BK227 := Aside0.mk (hbox); have GW227 := Aside0.mk ((by rw [hg]; exact (below_size bel) : w.heap.size ≤ gb227)); have GE227 := GW227; replace HB := bst hb; clear hb hbox hg) | ((with_reducible refine gate_dst (N := 3) rfl ?_); refine bx_ 3 #[.int .i64 a1_0, .slice A1_1 l1_1.length c1_1, .slice A1_2 l1_2.length c1_2, .int .i64 a1_3, .slice A1_4 l1_4.length c1_4, .slice A1_5 l1_5.length c1_5] 35 (h := ?_); intro gb228 hg w82 hbox hb; have BK228 := Aside0.mk (hbox); have GW228 := Aside0.mk ((by rw [hg]; exact (below_size bel) : w.heap.size ≤ gb228)); have GE228 := GW228; have NB227_228 := Aside0.mk ((by rw [hg]; exact Nat.ne_of_lt (blt BK227) : gb227 ≠ gb228)); have NB228_227 := Aside0.mk NB227_228.out.symm; replace BK227 := Aside0.mk (blb BK227 hb); replace HB := bst hb; clear hb hbox hg; have hnb83 := NB227_228.out; have hnc83 := NB228_227.out; obtain ⟨C84_0, C84_1, C84_2, C84_3, C84_4, C84_5, -⟩ := cells_6 BK227.out trivial; obtain ⟨F84_0, F84_1, F84_2, F84_3, F84_4, F84_5, -⟩ := frz_6 BK227.out; obtain ⟨C85_0, C85_1, C85_2, C85_3, C85_4, C85_5, -⟩ := cells_6 BK228.out trivial; obtain ⟨F85_0, F85_1, F85_2, F85_3, F85_4, F85_5, -⟩ := frz_6 BK228.out))
 go_ret
 exact ⟨rz_, bel⟩

/-! ### impl_within: function 81 -/
def impl_within.f (a0 : Int) (a1 : Int) (a2 : Int) : Option (Bool) := if a1 ≤ a0 then (some (decide (a0 ≤ a2))) else (some false)
set_option maxHeartbeats 8000000 in
set_option maxRecDepth 100000 in
theorem impl_within.calls (a0 : Int) (a1 : Int) (a2 : Int) (r : Bool) (w : World) (h : impl_within.f a0 a1 a2 = some r) :
  Calls Try.prog 81 #[.int .i64 a0, .int .i64 a1, .int .i64 a2] w fun e w' => e = .returned (.bool r) ∧ Drawn0 w w' := by
 have H : (if a1 ≤ a0 then (some (decide (a0 ≤ a2))) else (some false)) = some r := h
 clear h
 by_cases c4 : a1 ≤ a0
 ·rw [if_pos c4] at H
  have c4b0 : decide (a1 ≤ a0) = true := decide_eq_true c4
  clear c4
  obtain rfl := Option.some.inj H
  go_enter Try.func81, Try.ntmps81
  go_wp2
  go_ret
  exact ⟨by first | rfl | (simp; done) | (simp [*]; done), by repeat (first | exact Drawn0.refl _ | apply Drawn0.step)⟩
 rw [if_neg c4] at H
 have c4b0 : decide (a1 ≤ a0) = false := decide_eq_false c4
 clear c4
 obtain rfl := Option.some.inj H
 go_enter Try.func81, Try.ntmps81
 go_wp2
 go_ret
 exact ⟨by first | rfl | (simp; done) | (simp [*]; done), by repeat (first | exact Drawn0.refl _ | apply Drawn0.step)⟩

end Go.Proofs.Ytdgegnakiljfjaa.PT
