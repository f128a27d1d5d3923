-- Written for this claim by the session's program pp.py, out of the kit's print and the seat's translation.
import Derived.Test.YtmnjdmmljkahgaaDoorPEx0
import Derived.Test.YtmnjdmmljkahgaaDoorPEx4
namespace Go.Proofs.YtmnjdmmljkahgaaDoor.PE
open Go.RowKit Go.Proofs.YtmnjdmmljkahgaaDoorW.PrintWords Go.Proofs.YtmnjdmmljkahgaaDoorW.PrintLast Go.Proofs.YtmnjdmmljkahgaaDoorW.PrintMore
attribute [local go_sem] max2_int min2_int max_two min_two max_three min_three max_four min_four   -- for this text's walks alone
set_option linter.unusedVariables false
set_option linter.unusedSimpArgs false

/-! ### spec_l8quoted: function 62 -/
mutual
def spec_l8quoted.l0 : Nat → List Int → List Int → Int → Option (List Int)
 | 0, _, _, _ => none
 | k + 1, x0, x3, x4 => if x4 < (x0.length : Int) then (if 0 ≤ x4 then (if (rd x0 x4) < 32 then (spec_l8quoted.j1 k x0 x3 x4 true) else (if (rd x0 x4) > 126 then (spec_l8quoted.j1 k x0 x3 x4 true) else (if (rd x0 x4) = 34 then (spec_l8quoted.j1 k x0 x3 x4 true) else (spec_l8quoted.j1 k x0 x3 x4 ((rd x0 x4) == 37))))) else (none)) else (if x3.length < 140737488355328 then (some (x3 ++ [34])) else (none))
def spec_l8quoted.j1 : Nat → List Int → List Int → Int → Bool → Option (List Int)
 | 0, _, _, _, _ => none
 | k + 1, x0, x3, x4, x37 => if x37 = true then (if 0 ≤ x4 then (if x4 < (x0.length : Int) then ((spec_l8hex.f ((Int.tdiv (rd x0 x4) 16) % 256)).bind fun t222 => ((spec_l8hex.f (wrap64 (Int.tmod (rd x0 x4) 16))).bind fun t224 => ((some (([37, t222, t224] : List Int) : List Int)).bind fun y225 => (if x3.length + y225.length < 140737488355328 then (spec_l8quoted.l0 k x0 (x3 ++ y225) (wrap64 (x4 + 1))) else (none))))) else (none)) else (none)) else (if 0 ≤ x4 then (if x4 < (x0.length : Int) then (if x3.length < 140737488355328 then (spec_l8quoted.l0 k x0 (x3 ++ [rd x0 x4]) (wrap64 (x4 + 1))) else (none)) else (none)) else (none))
end
def spec_l8quoted.f (k : Nat) (l0 : List Int) : Option (List Int) := spec_l8quoted.l0 k l0 (([34] : List Int)) 0
def spec_l8quoted.T6 : Bool × List (List Nat × List Nat) := (true, [([], []), ([], []), ([], []), ([1, 2], [1, 2]), ([3], [3]), ([4], [4]), ([5], [5]), ([6], [6]), ([], []), ([], []), ([8, 9], [8, 9]), ([10], [10]), ([11], [11]), ([12], [12]), ([13, 7], [13]), ([7, 14], [7, 14]), ([0, 15, 14], [0, 15]), ([16, 16, 0, 1, 2, 3, 4, 5, 6, 7, 8, 9, 10, 11, 12, 13, 14, 15, 16], [0, 16])])
def spec_l8quoted.B6 : List Nat := [0, 0, 0, 6, 14, 30, 62, 126, 0, 0, 768, 1792, 3840, 7936, 16382, 32766, 65535, 131071]
theorem spec_l8quoted.tab6 : rtab .any (opsOf Tryd.f62 6) = spec_l8quoted.T6 := by kernel_rfl
theorem spec_l8quoted.bits6 : waitsOk spec_l8quoted.T6.2 spec_l8quoted.B6 = true := by kernel_rfl
set_option maxHeartbeats 8000000 in
set_option maxRecDepth 100000 in
theorem spec_l8quoted.calls (k : Nat) (A0 : Option Addr) (c0 : Nat) (l0 : List Int) (r : List Int) (w : World) (hr0 : Kd.C (Kd.int .u8) w A0 l0.length l0) (hc0 : l0.length ≤ c0) (h : spec_l8quoted.f k l0 = some r) :
  Calls Tryd.prog 62 #[.slice A0 l0.length c0] w fun e w' => ∃ v0_ : Value, e = .returned (v0_) ∧ Kd.R (Kd.int .u8) 5 w' w.heap.size (fun _ => True) v0_ r ∧ Below w.heap.size w w' := by
 have HR0 := Aside0.mk hr0
 have HC0 := Aside0.mk hc0
 clear hr0 hc0
 have HB := Aside0.mk (Below.refl w.heap.size w)
 have H : (spec_l8quoted.l0 k l0 (([34] : List Int)) 0) = some r := h
 clear h
 obtain ⟨y211, hy211⟩ : ∃ y_ : List Int, y_ = (([34] : List Int)) := ⟨_, rfl⟩
 replace H : (spec_l8quoted.l0 k l0 y211 0) = some r := by first | (rw [hy211]; with_reducible exact H) | (have H2_ := (Option.bind_some _ _).symm.trans H; rw [hy211]; with_reducible exact H2_) | (have H2_ := (Option.bind_some _ _).symm.trans H; with_reducible exact H2_) | with_reducible exact H | (rw [hy211]; exact H) | exact H
 have Ny211 := Aside0.mk hy211
 clear hy211
 have H' := Aside0.mk H
 clear H
 go_enter Tryd.func62, Tryd.ntmps62
 go_wp2_with (first | ((with_reducible refine gate_dst (N := 5) rfl ?_); refine Kd.R_lit (Kd.int .u8) _ 5 ?hg (N := 5) ?hd (xs := ([34] : List Int)) (inner := [.int .u8 34]) (ok := fun _ => True) (okp := fun _ => True) ?hr ?hp (fun _ hk => hk) trivial (Below.refl _ _) (Nat.le_refl _) (by simp) ?_; (case hd => rfl); (case hg => rfl); (case hr => first | (go_simp; done) | (go_simp; rfl)); (case hp => exact (Reps.one (show Kd.M (Kd.int .u8) _ _ _ 34 [.int .u8 34] from rfl) (Reps.none _ _))); intro v212 w2 ho3 hb hg_ hnew_; clear hg_ hnew_; (first | rw [← Ny211.out] at ho3 | (simp only [Int.reduceToNat] at ho3; rw [← Ny211.out] at ho3)); have HO213 := Aside0.mk (Kd.R_lower ho3 (below_size bel)); replace HB := bst hb; clear hb ho3))
 go_loopg [3, 4] k (fun kq v3 v4 w' => ∃ (x3_1 : List Int) (x4_1 : Int), v4 = .int .i64 x4_1 ∧ Aside0 (spec_l8quoted.l0 kq l0 x3_1 x4_1 = some r) ∧ Aside0 (kq ≤ k) ∧ Aside0 (Kd.R (Kd.int .u8) 5 w' w.heap.size (fun _ => True) v3 x3_1) ∧ Aside0 (Below w.heap.size w w'))
 case atStart => exact ⟨(y211), (0), rs_, H', ⟨Nat.le_refl _⟩, ⟨rkp HO213⟩, ⟨bel⟩⟩
 case round =>
  clear H'
  try clear p2
  obtain ⟨x3_1, x4_1, rfl, HA, HK1, HO_3, HB⟩ := hrel
  cases gk with
  | zero => exact absurd HA.out (by simp [spec_l8quoted.l0])
  | succ k1 =>
   have H := HA.out
   clear HA
   simp only [spec_l8quoted.l0] at H
   by_cases c4 : x4_1 < (l0.length : Int)
   ·rw [if_pos c4] at H
    have c4b0 : decide (x4_1 < (l0.length : Int)) = true := decide_eq_true c4
    clear c4
    have HC5 := Aside0.mk H
    clear H
    go_upto_region 5 with (fail)
    go_cut [37] (fun v37 wc => ∃ (kq : Nat) (x37_4 : Bool), v37 = .bool x37_4 ∧ Aside0 (spec_l8quoted.j1 kq l0 x3_1 x4_1 x37_4 = some r) ∧ Aside0 (kq ≤ k1) ∧ Aside0 (Kd.R (Kd.int .u8) 5 wc w.heap.size (fun _ => True) u3 x3_1) ∧ Aside0 (Below w.heap.size w wc))
    case first =>
     have H := HC5.out
     clear HC5
     by_cases c6 : 0 ≤ x4_1
     ·rw [if_pos c6] at H
      have c6b0 : decide (0 ≤ x4_1) = true := decide_eq_true c6
      clear c6
      (first | rw [c6b0] | (simp only [i64_w, i32_w]; rw [c6b0]) | skip)
      by_cases c7 : (rd l0 x4_1) < 32
      ·rw [if_pos c7] at H
       have c7b0 : decide ((rd l0 x4_1) < 32) = true := decide_eq_true c7
       clear c7
       have H' := Aside0.mk H
       clear H
       have p217 : 0 ≤ (x4_1 : Int) := od
       have q217 : x4_1 < (l0.length : Int) := od
       obtain ⟨ad217, e217, hx217_0⟩ := Kd.at_int HR0.out x4_1 p217 q217
       cases e217
       replace hx217_0 := hxb HB hx217_0
       replace p217 := eq_true p217
       replace q217 := eq_true q217
       go_wp2
       go_meet
       case rel => exact ⟨_, (true), rs_, H', ⟨by have := HK1.out; first | omega | exact Nat.le_refl _⟩, ⟨rkp HO_3⟩, ⟨bel⟩⟩
      rw [if_neg c7] at H
      have c7b0 : decide ((rd l0 x4_1) < 32) = false := decide_eq_false c7
      clear c7
      by_cases c8 : (rd l0 x4_1) > 126
      ·rw [if_pos c8] at H
       have c8b0 : decide (126 < (rd l0 x4_1)) = true := decide_eq_true c8
       clear c8
       have H' := Aside0.mk H
       clear H
       have p217 : 0 ≤ (x4_1 : Int) := od
       have q217 : x4_1 < (l0.length : Int) := od
       obtain ⟨ad217, e217, hx217_0⟩ := Kd.at_int HR0.out x4_1 p217 q217
       cases e217
       replace hx217_0 := hxb HB hx217_0
       replace p217 := eq_true p217
       replace q217 := eq_true q217
       have p218 : 0 ≤ (x4_1 : Int) := od
       have q218 : x4_1 < (l0.length : Int) := od
       obtain ⟨ad218, e218, hx218_0⟩ := Kd.at_int HR0.out x4_1 p218 q218
       obtain rfl : ad217 = ad218 := (by injection e218)
       replace hx218_0 := hxb HB hx218_0
       replace p218 := eq_true p218
       replace q218 := eq_true q218
       go_wp2
       go_meet
       case rel => exact ⟨_, (true), rs_, H', ⟨by have := HK1.out; first | omega | exact Nat.le_refl _⟩, ⟨rkp HO_3⟩, ⟨bel⟩⟩
      rw [if_neg c8] at H
      have c8b0 : decide (126 < (rd l0 x4_1)) = false := decide_eq_false c8
      clear c8
      by_cases c9 : (rd l0 x4_1) = 34
      ·rw [if_pos c9] at H
       have c9b0 : ((rd l0 x4_1) == 34) = true := beq_iff_eq.mpr c9
       have c9b1 : ((rd l0 x4_1) != 34) = false := bne_eq_false_iff_eq.mpr c9
       clear c9
       have H' := Aside0.mk H
       clear H
       have p217 : 0 ≤ (x4_1 : Int) := od
       have q217 : x4_1 < (l0.length : Int) := od
       obtain ⟨ad217, e217, hx217_0⟩ := Kd.at_int HR0.out x4_1 p217 q217
       cases e217
       replace hx217_0 := hxb HB hx217_0
       replace p217 := eq_true p217
       replace q217 := eq_true q217
       have p218 : 0 ≤ (x4_1 : Int) := od
       have q218 : x4_1 < (l0.length : Int) := od
       obtain ⟨ad218, e218, hx218_0⟩ := Kd.at_int HR0.out x4_1 p218 q218
       obtain rfl : ad217 = ad218 := (by injection e218)
       replace hx218_0 := hxb HB hx218_0
       replace p218 := eq_true p218
       replace q218 := eq_true q218
       have p219 : 0 ≤ (x4_1 : Int) := od
       have q219 : x4_1 < (l0.length : Int) := od
       obtain ⟨ad219, e219, hx219_0⟩ := Kd.at_int HR0.out x4_1 p219 q219
       obtain rfl : ad217 = ad219 := (by injection e219)
       replace hx219_0 := hxb HB hx219_0
       replace p219 := eq_true p219
       replace q219 := eq_true q219
       go_wp2
       go_meet
       case rel => exact ⟨_, (true), rs_, H', ⟨by have := HK1.out; first | omega | exact Nat.le_refl _⟩, ⟨rkp HO_3⟩, ⟨bel⟩⟩
      rw [if_neg c9] at H
      have c9b0 : ((rd l0 x4_1) == 34) = false := beq_eq_false_iff_ne.mpr c9
      have c9b1 : ((rd l0 x4_1) != 34) = true := bne_iff_ne.mpr c9
      have H' := Aside0.mk H
      clear H
      have p217 : 0 ≤ (x4_1 : Int) := od
      have q217 : x4_1 < (l0.length : Int) := od
      obtain ⟨ad217, e217, hx217_0⟩ := Kd.at_int HR0.out x4_1 p217 q217
      cases e217
      replace hx217_0 := hxb HB hx217_0
      replace p217 := eq_true p217
      replace q217 := eq_true q217
      have p218 : 0 ≤ (x4_1 : Int) := od
      have q218 : x4_1 < (l0.length : Int) := od
      obtain ⟨ad218, e218, hx218_0⟩ := Kd.at_int HR0.out x4_1 p218 q218
      obtain rfl : ad217 = ad218 := (by injection e218)
      replace hx218_0 := hxb HB hx218_0
      replace p218 := eq_true p218
      replace q218 := eq_true q218
      have p219 : 0 ≤ (x4_1 : Int) := od
      have q219 : x4_1 < (l0.length : Int) := od
      obtain ⟨ad219, e219, hx219_0⟩ := Kd.at_int HR0.out x4_1 p219 q219
      obtain rfl : ad217 = ad219 := (by injection e219)
      replace hx219_0 := hxb HB hx219_0
      replace p219 := eq_true p219
      replace q219 := eq_true q219
      have p220 : 0 ≤ (x4_1 : Int) := od
      have q220 : x4_1 < (l0.length : Int) := od
      obtain ⟨ad220, e220, hx220_0⟩ := Kd.at_int HR0.out x4_1 p220 q220
      obtain rfl : ad217 = ad220 := (by injection e220)
      replace hx220_0 := hxb HB hx220_0
      replace p220 := eq_true p220
      replace q220 := eq_true q220
      go_wp2
      go_meet
      case rel => exact ⟨_, (((rd l0 x4_1) == 37)), rs_, H', ⟨by have := HK1.out; first | omega | exact Nat.le_refl _⟩, ⟨rkp HO_3⟩, ⟨bel⟩⟩
     rw [if_neg c6] at H
     exact absurd H (by simp)
    case rest =>
     clear HC5
     try clear p2; try clear q2; try clear hx2; try clear c4; try clear c4b0; try clear c6; try clear c6b0; try clear c7; try clear c7b0; try clear c8; try clear c8b0; try clear c9; try clear c9b0; try clear c9b1; try clear hx217_0; try clear hx218_0; try clear hx219_0; try clear hx220_0; try clear p2; try clear p217; try clear p218; try clear p219; try clear p220; try clear q217; try clear q218; try clear q219; try clear q220
     obtain ⟨kq, x37_4, rfl, HA, HJ4, HO_3, HB⟩ := hcut
     cases kq with
     | zero => exact absurd HA.out (by simp [spec_l8quoted.j1])
     | succ kj4 =>
      have H := HA.out
      clear HA
      simp only [spec_l8quoted.j1] at H
      by_cases c10 : x37_4 = true
      ·subst c10
       have H1 : (if 0 ≤ x4_1 then (if x4_1 < (l0.length : Int) then ((spec_l8hex.f ((Int.tdiv (rd l0 x4_1) 16) % 256)).bind fun t222 => ((spec_l8hex.f (wrap64 (Int.tmod (rd l0 x4_1) 16))).bind fun t224 => ((some (([37, t222, t224] : List Int) : List Int)).bind fun y225 => (if x3_1.length + y225.length < 140737488355328 then (spec_l8quoted.l0 kj4 l0 (x3_1 ++ y225) (wrap64 (x4_1 + 1))) else (none))))) else (none)) else (none)) = some r := by rw [if_pos rfl] at H; exact H
       clear H
       have H := H1
       clear H1
       by_cases c11 : 0 ≤ x4_1
       ·rw [if_pos c11] at H
        have c11b0 : decide (0 ≤ x4_1) = true := decide_eq_true c11
        clear c11
        by_cases c12 : x4_1 < (l0.length : Int)
        ·rw [if_pos c12] at H
         have c12b0 : decide (x4_1 < (l0.length : Int)) = true := decide_eq_true c12
         clear c12
         replace H := Option.bind_eq_some_iff.mp H
         obtain ⟨t222, A130, H⟩ := H
         replace H : ((spec_l8hex.f (wrap64 (Int.tmod (rd l0 x4_1) 16))).bind fun t224 => ((some (([37, t222, t224] : List Int) : List Int)).bind fun y225 => (if x3_1.length + y225.length < 140737488355328 then (spec_l8quoted.l0 kj4 l0 (x3_1 ++ y225) (wrap64 (x4_1 + 1))) else (none)))) = some r := H
         have A13 := Aside0.mk A130
         clear A130
         replace H := Option.bind_eq_some_iff.mp H
         obtain ⟨t224, A140, H⟩ := H
         replace H : ((some (([37, t222, t224] : List Int) : List Int)).bind fun y225 => (if x3_1.length + y225.length < 140737488355328 then (spec_l8quoted.l0 kj4 l0 (x3_1 ++ y225) (wrap64 (x4_1 + 1))) else (none))) = some r := H
         have A14 := Aside0.mk A140
         clear A140
         obtain ⟨y225, hy225⟩ : ∃ y_ : List Int, y_ = (([37, t222, t224] : List Int)) := ⟨_, rfl⟩
         replace H : (if x3_1.length + y225.length < 140737488355328 then (spec_l8quoted.l0 kj4 l0 (x3_1 ++ y225) (wrap64 (x4_1 + 1))) else (none)) = some r := by first | (rw [hy225]; with_reducible exact H) | (have H2_ := (Option.bind_some _ _).symm.trans H; rw [hy225]; with_reducible exact H2_) | (have H2_ := (Option.bind_some _ _).symm.trans H; with_reducible exact H2_) | with_reducible exact H | (rw [hy225]; exact H) | exact H
         have Ny225 := Aside0.mk hy225
         clear hy225
         by_cases c15 : x3_1.length + y225.length < 140737488355328
         ·rw [if_pos c15] at H
          have LMc15 := Aside0.mk c15
          clear c15
          obtain ⟨y228, hy228⟩ : ∃ y_ : List Int, y_ = (x3_1 ++ y225) := ⟨_, rfl⟩
          replace H : (spec_l8quoted.l0 kj4 l0 y228 (wrap64 (x4_1 + 1))) = some r := by first | (rw [hy228]; with_reducible exact H) | (have H2_ := (Option.bind_some _ _).symm.trans H; rw [hy228]; with_reducible exact H2_) | (have H2_ := (Option.bind_some _ _).symm.trans H; with_reducible exact H2_) | with_reducible exact H | (rw [hy228]; exact H) | exact H
          have Ny228 := Aside0.mk hy228
          clear hy228
          have H' := Aside0.mk H
          clear H
          try go_wp2
          replace HO_3 := Aside0.mk (Kd.R_drew HO_3.out)
          replace HB := Aside0.mk (below_drew1 HB.out)
          have p221 : 0 ≤ (x4_1 : Int) := od
          have q221 : x4_1 < (l0.length : Int) := od
          obtain ⟨ad221, e221, hx221_0⟩ := Kd.at_int HR0.out x4_1 p221 q221
          have hw221_0 := hx221_0
          cases e221
          replace hx221_0 := hxb HB hx221_0
          replace p221 := eq_true p221
          replace q221 := eq_true q221
          have p223 : 0 ≤ (x4_1 : Int) := od
          have q223 : x4_1 < (l0.length : Int) := od
          obtain ⟨ad223, e223, hx223_0⟩ := Kd.at_int HR0.out x4_1 p223 q223
          have hw223_0 := hx223_0
          obtain rfl : ad221 = ad223 := (by injection e223)
          replace hx223_0 := hxb HB hx223_0
          replace p223 := eq_true p223
          replace q223 := eq_true q223
          refine start_ (n := 18) (S := fun w' => w'.cell? (ad221.add (x4_1).toNat) = some (.int .u8 (rd l0 x4_1)) ∧ w'.cell? (ad221.add (x4_1).toNat) = some (.int .u8 (rd l0 x4_1))) (ds := []) (tf 0 18) (by kernel_rfl) rfl rfl ⟨(hxb HB hw221_0 :), (hxb HB hw223_0 :)⟩ (fun hHeld => ?_); refine with_tabW spec_l8quoted.tab6 spec_l8quoted.bits6 (fun HT_ HW_ => ?_)
          generalize wc.drew = w16 at HO_3 HB hx221_0 hx223_0 hHeld ⊢
          iterate 4 (refine pvn_ HT_ (h := ?_))
          refine pv_ HT_ 8 (some 46) (tb 18 271) (h := ?_)
          refine pv_ HT_ 9 (some 47) (tb 18 783) (h := ?_)
          refine pv_ HT_ 10 (some 48) (tb 18 1807) (h := ?_)
          refine tv_ HT_ HW_ hHeld 4 (some 42) (tb 18 1823) (h := ?_)
          refine pv_ HT_ 5 (some 43) (tb 18 1855) (h := ?_)
          refine pv_ HT_ 6 (some 44) (tb 18 1919) (h := ?_)
          refine tv_ HT_ HW_ hHeld 11 (some 49) (tb 18 3967) (h := ?_)
          refine pv_ HT_ 12 (some 50) (tb 18 8063) (h := ?_)
          refine pv_ HT_ 13 (some 51) (tb 18 16255) (h := ?_)
          refine one_ (i := 7) (N := some 45) (tf 14 4) rfl rfl (one_of HT_.out (by kernel_rfl)) (by decide) (fun K hK => ?_)
          refine gs_ Tryd.func74 #[.int .i64 ((Int.tdiv (rd l0 x4_1) 16) % 256)] (hargs := by (try simp only [List.map_toArray, List.map_cons, List.map_nil]); exact (congrArg (fun z => #[Value.int .i64 z]) (w8_ _) : #[Value.int .i64 (wrap64 (IntKind.u8.wrap (Int.tdiv (rd l0 x4_1) 16)))] = _)) (h := ?_)
          with_reducible refine (spec_l8hex.calls ((Int.tdiv (rd l0 x4_1) 16) % 256) t222 _ A13.out).mono ?_
          rintro e w' ⟨rfl, ⟨nd, rfl⟩⟩
          refine ⟨_, rfl, ?_⟩
          refine hK.out _ _ ⟨(hxb HB hw221_0 :), (hxb HB hw223_0 :)⟩ (fun hHeld => ?_)
          clear hK K
          refine nrm_ (some 45) (h := ?_)
          refine one_ (i := 14) (N := some 52) (tf 15 3) rfl rfl (one_of HT_.out (by kernel_rfl)) (by decide) (fun K hK => ?_)
          refine gs_ Tryd.func74 #[.int .i64 (wrap64 (Int.tmod (rd l0 x4_1) 16))] (h := ?_)
          with_reducible refine (spec_l8hex.calls (wrap64 (Int.tmod (rd l0 x4_1) 16)) t224 _ A14.out).mono ?_
          rintro e w' ⟨rfl, ⟨nd, rfl⟩⟩
          refine ⟨_, rfl, ?_⟩
          refine hK.out _ _ ⟨(hxb HB hw221_0 :), (hxb HB hw223_0 :)⟩ (fun hHeld => ?_)
          clear hK K
          refine nrm_ (some 52) (h := ?_)
          refine one_ (i := 15) (N := some 53) (tf 16 2) rfl rfl (one_of HT_.out (by kernel_rfl)) (by decide) (fun K hK => ?_)
          refine Kd.R_lit_step (Kd.int .u8) _ 5 ?hg (N := 53) ?hd (xs := ([37, t222, t224] : List Int)) (inner := [.int .u8 37, .int .u8 t222, .int .u8 t224]) (ok := fun _ => True) (okp := fun _ => True) ?hr ?hp (fun _ hk => hk) trivial (Below.refl _ _) (Nat.le_refl _) (by simp) ?_; (case hd => rfl); (case hg => rfl); (case hr => first | (go_simp; done) | (go_simp; rfl)); (case hp => exact (Reps.one (show Kd.M (Kd.int .u8) _ _ _ 37 [.int .u8 37] from rfl) (Reps.one (show Kd.M (Kd.int .u8) _ _ _ t222 [.int .u8 t222] from rfl) (Reps.one (show Kd.M (Kd.int .u8) _ _ _ t224 [.int .u8 t224] from rfl) (Reps.none _ _)))))
          intro v226 w17 ho18 hb hg_ hnew_
          clear hg_ hnew_
          (first | rw [← Ny225.out] at ho18 | (simp only [Int.reduceToNat] at ho18; rw [← Ny225.out] at ho18))
          have HO227 := Aside0.mk (Kd.R_lower (Kd.R_new' ho18 (Kd.R_lt (rkp HO_3))) (below_size bel))
          replace HO_3 := Aside0.mk (Kd.R_elder' (rkp HO_3) (Kd.R_base ho18) hb)
          replace HB := bst hb
          clear hb ho18
          obtain ⟨Ao20, co20, eo20⟩ := Kd.R_slice HO227.out
          (first | subst eo20 | (injection eo20 with f1_ f2_ f3_; have f4_ := f1_.symm; have f5_ := f3_.symm; clear f1_ f2_ f3_; subst f4_; subst f5_))
          refine hK.out _ _ ⟨(hxb HB hw221_0 :), (hxb HB hw223_0 :)⟩ (fun hHeld => ?_)
          clear hK K
          refine nrm_ (some 53) (h := ?_)
          refine one_ (i := 16) (N := some 54) (tf 17 1) rfl rfl (one_of HT_.out (by kernel_rfl)) (by decide) (fun K hK => ?_)
          refine Kd.R_append_rows_step (Kd.int .u8) (w0 := w) w.heap.size (by rfl) (.tmp 38) (.tmp 53) 22 5 (.int .u8 0) 1 rfl Tryd.underlying22 info5 rfl (by decide) (by omega) u3 x3_1 y225 _ _ _ (fun k_ => some k_ ≠ (.slice Ao20 y225.length co20 : Value).ownBlock) (fun _ => False) rfl rfl ?aO ?aR (fun _ _ h => h) (fun _ h => h.elim) ?aF ?aB ?aS ?aL ?_
          (case aR => repeat (first | exact (Kd.R_reads' HO227.out).2.2 | (with_reducible refine Kd.C_alloc ?_ _) | (with_reducible refine Kd.C_drewN ?_ _) | (with_reducible refine Kd.C_drew ?_)))
          (case aB => exact bel)
          (case aF => exact (fun k_ hk => Kd.fresh' (Kd.R_lt (rkp HO227)) k_ hk))
          (case aO => exact (by (with_reducible repeat (first | apply Kd.R_alloc | apply Kd.R_drewN | apply Kd.R_drew)); exact Kd.R_mono HO_3.out (fun _ hk => hk.2)))
          (case aS => exact (below_size bel))
          (case aL => have := LMc15.out; omega)
          intro v229 w19 ho hb hg hat
          rw [← Ny228.out] at ho
          have n0_ := Aside0.mk (Kd.R_after (ok := (fun _ => True)) (rkp HO227) hg hat)
          have n1_ := Aside0.mk (hb)
          have n2_ := Aside0.mk (ho)
          clear HO227
          clear HB
          clear HO_3
          have HO227 := n0_
          have HB := n1_
          have HO230 := n2_
          clear n0_ n1_ n2_
          clear ho hb hg hat
          refine hK.out _ _ ⟨(hxb HB hw221_0 :), (hxb HB hw223_0 :)⟩ (fun hHeld => ?_)
          clear hK K
          refine nrm_ (some 54) (h := ?_)
          refine pv_ HT_ 17 (some 3) (tf 18 0) (h := ?_)
          refine done_ (done_of HT_.out (by kernel_rfl)) ?_
          try go_wp2
          go_roundg kj4
          case measure => have := HK1.out; have := HJ4.out; omega
          case rel => exact ⟨(y228), (wrap64 (x4_1 + 1)), rs_, H', ⟨by have := HK1.out; have := HJ4.out; omega⟩, ⟨by (with_reducible repeat (first | apply Kd.R_alloc | apply Kd.R_drewN | apply Kd.R_drew)); exact Kd.R_mono HO230.out (fun _ hk => trivial)⟩, ⟨bel⟩⟩
         rw [if_neg c15] at H
         exact absurd H (by simp)
        rw [if_neg c12] at H
        exact absurd H (by simp)
       rw [if_neg c11] at H
       exact absurd H (by simp)
      replace c10 := Bool.eq_false_iff.mpr c10
      subst c10
      have H1 : (if 0 ≤ x4_1 then (if x4_1 < (l0.length : Int) then (if x3_1.length < 140737488355328 then (spec_l8quoted.l0 kj4 l0 (x3_1 ++ [rd l0 x4_1]) (wrap64 (x4_1 + 1))) else (none)) else (none)) else (none)) = some r := by rw [if_neg (show ¬ (false = true) by decide)] at H; exact H
      clear H
      have H := H1
      clear H1
      by_cases c21 : 0 ≤ x4_1
      ·rw [if_pos c21] at H
       have c21b0 : decide (0 ≤ x4_1) = true := decide_eq_true c21
       clear c21
       by_cases c22 : x4_1 < (l0.length : Int)
       ·rw [if_pos c22] at H
        have c22b0 : decide (x4_1 < (l0.length : Int)) = true := decide_eq_true c22
        clear c22
        by_cases c23 : x3_1.length < 140737488355328
        ·rw [if_pos c23] at H
         have LMc23 := Aside0.mk c23
         clear c23
         obtain ⟨y232, hy232⟩ : ∃ y_ : List Int, y_ = (x3_1 ++ [rd l0 x4_1]) := ⟨_, rfl⟩
         replace H : (spec_l8quoted.l0 kj4 l0 y232 (wrap64 (x4_1 + 1))) = some r := by first | (rw [hy232]; with_reducible exact H) | (have H2_ := (Option.bind_some _ _).symm.trans H; rw [hy232]; with_reducible exact H2_) | (have H2_ := (Option.bind_some _ _).symm.trans H; with_reducible exact H2_) | with_reducible exact H | (rw [hy232]; exact H) | exact H
         have Ny232 := Aside0.mk hy232
         clear hy232
         have H' := Aside0.mk H
         clear H
         have p231 : 0 ≤ (x4_1 : Int) := od
         have q231 : x4_1 < (l0.length : Int) := od
         obtain ⟨ad231, e231, hx231_0⟩ := Kd.at_int HR0.out x4_1 p231 q231
         cases e231
         replace hx231_0 := hxb HB hx231_0
         replace p231 := eq_true p231
         replace q231 := eq_true q231
         go_wp2_with (first | ((with_reducible refine gate_builtin (b := .append) (xs := #[.tmp 55, .tmp 60]) rfl ?_); at_builtin; refine Kd.R_append (Kd.int .u8) (w0 := w) w.heap.size rfl (.tmp 55) (.tmp 60) 22 5 (.int .u8 0) 1 rfl Tryd.underlying22 info5 rfl (by decide) (by omega) u3 x3_1 (rd l0 x4_1) [.int .u8 (rd l0 x4_1)] (fun _ => True) (fun _ => False) rfl rfl ?aP (fun _ hk => hk.elim) ?aF ?aO ?aB ?aS ?aL ?_; (case aP => exact rfl); (case aB => exact bel); (case aF => exact (fun _ _ => trivial)); (case aO => exact (rkp HO_3)); (case aS => exact (below_size bel)); (case aL => have := LMc23.out; omega); intro v233 w24 ho hb hg hat; rw [← Ny232.out] at ho; have n0_ := Aside0.mk (hb); have n1_ := Aside0.mk (ho); clear HB; clear HO_3; have HB := n0_; have HO234 := n1_; clear n0_ n1_; clear ho hb hg hat))
         go_roundg kj4
         case measure => have := HK1.out; have := HJ4.out; omega
         case rel => exact ⟨(y232), (wrap64 (x4_1 + 1)), rs_, H', ⟨by have := HK1.out; have := HJ4.out; omega⟩, ⟨rkp HO234⟩, ⟨bel⟩⟩
        rw [if_neg c23] at H
        exact absurd H (by simp)
       rw [if_neg c22] at H
       exact absurd H (by simp)
      rw [if_neg c21] at H
      exact absurd H (by simp)
   rw [if_neg c4] at H
   have c4b0 : decide (x4_1 < (l0.length : Int)) = false := decide_eq_false c4
   clear c4
   by_cases c25 : x3_1.length < 140737488355328
   ·rw [if_pos c25] at H
    have LMc25 := Aside0.mk c25
    clear c25
    obtain ⟨y214, hy214⟩ : ∃ y_ : List Int, y_ = (x3_1 ++ [34]) := ⟨_, rfl⟩
    replace H : (some y214) = some r := by first | (rw [hy214]; with_reducible exact H) | (have H2_ := (Option.bind_some _ _).symm.trans H; rw [hy214]; with_reducible exact H2_) | (have H2_ := (Option.bind_some _ _).symm.trans H; with_reducible exact H2_) | with_reducible exact H | (rw [hy214]; exact H) | exact H
    have Ny214 := Aside0.mk hy214
    clear hy214
    obtain rfl := Option.some.inj H
    go_wp2_with (first | ((with_reducible refine gate_builtin (b := .append) (xs := #[.tmp 62, .tmp 63]) rfl ?_); at_builtin; refine Kd.R_append (Kd.int .u8) (w0 := w) w.heap.size rfl (.tmp 62) (.tmp 63) 22 5 (.int .u8 0) 1 rfl Tryd.underlying22 info5 rfl (by decide) (by omega) u3 x3_1 34 [.int .u8 34] (fun _ => True) (fun _ => False) rfl rfl ?aP (fun _ hk => hk.elim) ?aF ?aO ?aB ?aS ?aL ?_; (case aP => exact rfl); (case aB => exact bel); (case aF => exact (fun _ _ => trivial)); (case aO => exact (rkp HO_3)); (case aS => exact (below_size bel)); (case aL => have := LMc25.out; omega); intro v215 w26 ho hb hg hat; rw [← Ny214.out] at ho; have n0_ := Aside0.mk (hb); have n1_ := Aside0.mk (ho); clear HB; clear HO_3; have HB := n0_; have HO216 := n1_; clear n0_ n1_; clear ho hb hg hat))
    go_ret
    exact ⟨_, rz_, by (with_reducible repeat (first | apply Kd.R_alloc | apply Kd.R_drewN | apply Kd.R_drew)); exact HO216.out, bel⟩
   rw [if_neg c25] at H
   exact absurd H (by simp)

/-! ### spec_l8digits: function 63 -/
def spec_l8digits.f : Nat → Int → Option (List Int)
 | 0, _ => none
 | k + 1, a0 => if a0 < 10 then (some (([(wrap64 (48 + a0)) % 256] : List Int))) else ((spec_l8digits.f k (wrap64 (Int.tdiv a0 10))).bind fun t238 => (if t238.length < 140737488355328 then (some (t238 ++ [(wrap64 (48 + (Int.tmod a0 10))) % 256])) else (none)))
set_option maxHeartbeats 8000000 in
set_option maxRecDepth 100000 in
theorem spec_l8digits.calls (k : Nat) : ∀ (a0 : Int) (r : List Int) (w : World) (h : spec_l8digits.f k a0 = some r),
  Calls Tryd.prog 63 #[.int .i64 a0] w fun e w' => ∃ v0_ : Value, e = .returned (v0_) ∧ Kd.R (Kd.int .u8) 5 w' w.heap.size (fun _ => True) v0_ r ∧ Below w.heap.size w w' := by
 induction k using Nat.strongRecOn with
 | _ k ih =>
 intro a0 r w h
 cases k with
 | zero => exact absurd h (by simp [spec_l8digits.f])
 | succ k =>
 simp only [spec_l8digits.f] at h
 have HB := Aside0.mk (Below.refl w.heap.size w)
 have H : (if a0 < 10 then (some (([(wrap64 (48 + a0)) % 256] : List Int))) else ((spec_l8digits.f k (wrap64 (Int.tdiv a0 10))).bind fun t238 => (if t238.length < 140737488355328 then (some (t238 ++ [(wrap64 (48 + (Int.tmod a0 10))) % 256])) else (none)))) = some r := h
 clear h
 by_cases c2 : a0 < 10
 ·rw [if_pos c2] at H
  have c2b0 : decide (a0 < 10) = true := decide_eq_true c2
  clear c2
  obtain ⟨y235, hy235⟩ : ∃ y_ : List Int, y_ = (([(wrap64 (48 + a0)) % 256] : List Int)) := ⟨_, rfl⟩
  replace H : (some y235) = some r := by first | (rw [hy235]; with_reducible exact H) | (have H2_ := (Option.bind_some _ _).symm.trans H; rw [hy235]; with_reducible exact H2_) | (have H2_ := (Option.bind_some _ _).symm.trans H; with_reducible exact H2_) | with_reducible exact H | (rw [hy235]; exact H) | exact H
  have Ny235 := Aside0.mk hy235
  clear hy235
  obtain rfl := Option.some.inj H
  go_enter Tryd.func63, Tryd.ntmps63
  go_wp2_with (first | ((with_reducible refine gate_dst (N := 8) rfl ?_); refine Kd.R_lit (Kd.int .u8) _ 5 ?hg (N := 8) ?hd (xs := ([(wrap64 (48 + a0)) % 256] : List Int)) (inner := [.int .u8 ((wrap64 (48 + a0)) % 256)]) (ok := fun _ => True) (okp := fun _ => True) ?hr ?hp (fun _ hk => hk) trivial (Below.refl _ _) (Nat.le_refl _) (by simp) ?_; (case hd => rfl); (case hg => rfl); (case hr => first | (go_simp; done) | (go_simp; rfl)); (case hp => exact (Reps.one (show Kd.M (Kd.int .u8) _ _ _ ((wrap64 (48 + a0)) % 256) [.int .u8 ((wrap64 (48 + a0)) % 256)] from rfl) (Reps.none _ _))); intro v236 w3 ho4 hb hg_ hnew_; clear hg_ hnew_; (first | rw [← Ny235.out] at ho4 | (simp only [Int.reduceToNat] at ho4; rw [← Ny235.out] at ho4)); have HO237 := Aside0.mk (Kd.R_lower ho4 (below_size bel)); replace HB := bst hb; clear hb ho4))
  go_ret
  exact ⟨_, rz_, by (with_reducible repeat (first | apply Kd.R_alloc | apply Kd.R_drewN | apply Kd.R_drew)); exact HO237.out, bel⟩
 rw [if_neg c2] at H
 have c2b0 : decide (a0 < 10) = false := decide_eq_false c2
 clear c2
 replace H := Option.bind_eq_some_iff.mp H
 obtain ⟨t238, A50, H⟩ := H
 replace H : (if t238.length < 140737488355328 then (some (t238 ++ [(wrap64 (48 + (Int.tmod a0 10))) % 256])) else (none)) = some r := H
 have A5 := Aside0.mk A50
 clear A50
 by_cases c6 : t238.length < 140737488355328
 ·rw [if_pos c6] at H
  have LMc6 := Aside0.mk c6
  clear c6
  obtain ⟨y241, hy241⟩ : ∃ y_ : List Int, y_ = (t238 ++ [(wrap64 (48 + (Int.tmod a0 10))) % 256]) := ⟨_, rfl⟩
  replace H : (some y241) = some r := by first | (rw [hy241]; with_reducible exact H) | (have H2_ := (Option.bind_some _ _).symm.trans H; rw [hy241]; with_reducible exact H2_) | (have H2_ := (Option.bind_some _ _).symm.trans H; with_reducible exact H2_) | with_reducible exact H | (rw [hy241]; exact H) | exact H
  have Ny241 := Aside0.mk hy241
  clear hy241
  obtain rfl := Option.some.inj H
  go_enter Tryd.func63, Tryd.ntmps63
  go_wp2_with (first | ((with_reducible refine gate_callee (f := 63) rfl ?_); refine gl_ (some 11) Tryd.func63 #[.int .i64 (wrap64 (Int.tdiv a0 10))] (h := ?_); (with_reducible refine (ih k (by omega) (wrap64 (Int.tdiv a0 10)) t238 _ A5.out).mono ?_); rintro e w7 ⟨v239, rfl, ho0, hb⟩; refine ⟨_, rfl, ?_⟩; have HO240 := Aside0.mk (Kd.R_lower ho0 (below_size bel)); replace HB := bst hb; (try clear hb); (try clear hb2); (try clear hk); (try clear hi); (try clear ho0)) | ((with_reducible refine gate_builtin (b := .append) (xs := #[.tmp 11, .tmp 16]) rfl ?_); at_builtin; refine Kd.R_append (Kd.int .u8) (w0 := w) w.heap.size rfl (.tmp 11) (.tmp 16) 22 5 (.int .u8 0) 1 rfl Tryd.underlying22 info5 rfl (by decide) (by omega) v239 t238 ((wrap64 (48 + (Int.tmod a0 10))) % 256) [.int .u8 ((wrap64 (48 + (Int.tmod a0 10))) % 256)] (fun _ => True) (fun _ => False) rfl rfl ?aP (fun _ hk => hk.elim) ?aF ?aO ?aB ?aS ?aL ?_; (case aP => exact rfl); (case aB => exact bel); (case aF => exact (fun _ _ => trivial)); (case aO => exact (rkp HO240)); (case aS => exact (below_size bel)); (case aL => have := LMc6.out; omega); intro v242 w8 ho hb hg hat; rw [← Ny241.out] at ho; have n0_ := Aside0.mk (hb); have n1_ := Aside0.mk (ho); clear HB; clear HO240; have HB := n0_; have HO243 := n1_; clear n0_ n1_; clear ho hb hg hat))
  go_ret
  exact ⟨_, rz_, by (with_reducible repeat (first | apply Kd.R_alloc | apply Kd.R_drewN | apply Kd.R_drew)); exact HO243.out, bel⟩
 rw [if_neg c6] at H
 exact absurd H (by simp)

/-! ### virtual_bytes: function 134 -/
def virtual_bytes.f (s : ByteArray) : Option (List Int) := if s.size ≤ 1000000 then some (s.data.toList.map (fun b => (b.toNat : Int))) else none
theorem virtual_bytes.calls (s : ByteArray) (r : List Int) (w : World) (h : virtual_bytes.f s = some r) :
  CV w s fun e w' => ∃ v0_ : Value, e = .returned (v0_) ∧ RTk w' w.heap.size (fun _ => True) v0_ r ∧ Below w.heap.size w w' := by
 unfold virtual_bytes.f at h
 by_cases c : s.size ≤ 1000000
 ·rw [if_pos c] at h
  obtain rfl := Option.some.inj h
  exact ⟨_, rfl, RT_bytes w s c, RM_bel w 5 s⟩
 rw [if_neg c] at h
 exact absurd h (by simp)

end Go.Proofs.YtmnjdmmljkahgaaDoor.PE
