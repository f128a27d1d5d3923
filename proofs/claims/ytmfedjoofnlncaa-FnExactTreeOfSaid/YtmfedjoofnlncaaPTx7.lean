-- Written for this claim by the session's program pp.py, out of the kit's print and the seat's translation.
import Derived.Test.YtmfedjoofnlncaaPTx0
import Derived.Test.YtmfedjoofnlncaaPTx5
import Derived.Test.YtmfedjoofnlncaaPTx6
namespace Go.Proofs.Ytmfedjoofnlncaa.PT
open Go.RowKit Go.Proofs.YtmfedjoofnlncaaW.PrintWords Go.Proofs.YtmfedjoofnlncaaW.PrintLast Go.Proofs.YtmfedjoofnlncaaW.PrintMore
attribute [local go_sem] kR kS nk nu jM jN kT kU   -- for this text's walks alone
set_option linter.unusedVariables false
set_option linter.unusedSimpArgs false
mutual
def aj.j0 : Nat → Bool → Int → List (kG) → List (lQ) → Int → List (l7) → List (mE) → Option (Bool)
 | 0, _, _, _, _, _, _, _ => none
 | k + 1, x49, kr, il, iX, lV, jR, iF => if x49 = true then (some false) else (aj.l0 k 0 kr il iX lV jR iF)
def aj.l0 : Nat → Int → Int → List (kG) → List (lQ) → Int → List (l7) → List (mE) → Option (Bool)
 | 0, _, _, _, _, _, _, _ => none
 | k + 1, x3, kr, il, iX, lV, jR, iF => if x3 < (il.length : Int) then (if 0 ≤ x3 then ((fD.f k ((ax il x3).f0)).bind fun aeT => (if aeT = true then ((vC.f ((ax il x3).f1)).bind fun aeU => (if aeU = true then (if ((ax il x3).f2) < 1 then (some false) else (if ((ax il x3).f2) > kr then (some false) else (if ((ax il x3).f3) = 0 then (if x3 > 0 then (if 0 ≤ (wrap64 (x3 - 1)) then (if (wrap64 (x3 - 1)) < (il.length : Int) then (if ((Op.bytesLess ((strOfNums ((ax il (wrap64 (x3 - 1))).f0)).toList) ((strOfNums ((ax il x3).f0)).toList)) = true) then (aj.l0 k (wrap64 (x3 + 1)) kr il iX lV jR iF) else (some false)) else (none)) else (none)) else (aj.l0 k (wrap64 (x3 + 1)) kr il iX lV jR iF)) else ((iT.f k kr il iX lV jR iF ((ax il x3).f3)).bind fun aeV => (if aeV < 0 then (some false) else (if x3 > 0 then (if 0 ≤ (wrap64 (x3 - 1)) then (if (wrap64 (x3 - 1)) < (il.length : Int) then (if ((Op.bytesLess ((strOfNums ((ax il (wrap64 (x3 - 1))).f0)).toList) ((strOfNums ((ax il x3).f0)).toList)) = true) then (aj.l0 k (wrap64 (x3 + 1)) kr il iX lV jR iF) else (some false)) else (none)) else (none)) else (aj.l0 k (wrap64 (x3 + 1)) kr il iX lV jR iF))))))) else (some false))) else (some false))) else (none)) else (aj.l1 k 0 kr il iX lV jR iF)
def aj.l1 : Nat → Int → Int → List (kG) → List (lQ) → Int → List (l7) → List (mE) → Option (Bool)
 | 0, _, _, _, _, _, _, _ => none
 | k + 1, x5, kr, il, iX, lV, jR, iF => if x5 < (iX.length : Int) then (if 0 ≤ x5 then ((fD.f k ((bu iX x5).f0)).bind fun akS => (if akS = true then ((jD.f k kr il iX lV jR iF ((bu iX x5).f0)).bind fun aeW => (if aeW ≥ 0 then (some false) else ((iU.f k kr il iX lV jR iF ((bu iX x5).f0)).bind fun VT => (if VT = x5 then (if ((bu iX x5).f1) < 1 then (some false) else (if ((bu iX x5).f1) > kr then (some false) else (if ((bu iX x5).f1) < lV then (some false) else (if x5 > 0 then (if 0 ≤ (wrap64 (x5 - 1)) then (if (wrap64 (x5 - 1)) < (iX.length : Int) then (if ((bu iX (wrap64 (x5 - 1))).f1) > ((bu iX x5).f1) then (some false) else (aj.l1 k (wrap64 (x5 + 1)) kr il iX lV jR iF)) else (none)) else (none)) else (aj.l1 k (wrap64 (x5 + 1)) kr il iX lV jR iF))))) else (some false))))) else (some false))) else (none)) else (aj.l2 k 0 kr il iX lV jR iF)
def aj.l2 : Nat → Int → Int → List (kG) → List (lQ) → Int → List (l7) → List (mE) → Option (Bool)
 | 0, _, _, _, _, _, _, _ => none
 | k + 1, x7, kr, il, iX, lV, jR, iF => if x7 < (jR.length : Int) then (if 0 ≤ x7 then (if ((bS jR x7).f0) < 1 then (some false) else (if ((bS jR x7).f0) > kr then (some false) else (if x7 > 0 then (if 0 ≤ (wrap64 (x7 - 1)) then (if (wrap64 (x7 - 1)) < (jR.length : Int) then (if ((bS jR (wrap64 (x7 - 1))).f0) ≥ ((bS jR x7).f0) then (some false) else (aj.l2 k (wrap64 (x7 + 1)) kr il iX lV jR iF)) else (none)) else (none)) else (aj.l2 k (wrap64 (x7 + 1)) kr il iX lV jR iF)))) else (none)) else (aj.l3 k 0 kr il iX lV jR iF)
def aj.l3 : Nat → Int → Int → List (kG) → List (lQ) → Int → List (l7) → List (mE) → Option (Bool)
 | 0, _, _, _, _, _, _, _ => none
 | k + 1, x8, kr, il, iX, lV, jR, iF => if x8 < (iF.length : Int) then (if 0 ≤ x8 then (if ((bn iF x8).f0) < 0 then (some false) else (if ((bn iF x8).f0) ≥ 4 then (some false) else (if ((bn iF x8).f1) < 1 then (some false) else (if ((bn iF x8).f1) > 1000000 then (some false) else (if ((bn iF x8).f2.f0) < 0 then (some false) else (if ((bn iF x8).f2.f0) > 5 then (some false) else (if ((bn iF x8).f2.f1) < 1 then (some false) else (if ((bn iF x8).f2.f1) > kr then (some false) else (if x8 > 0 then (if 0 ≤ (wrap64 (x8 - 1)) then (if (wrap64 (x8 - 1)) < (iF.length : Int) then (if ((bn iF (wrap64 (x8 - 1))).f0) ≥ ((bn iF x8).f0) then (some false) else (aj.l3 k (wrap64 (x8 + 1)) kr il iX lV jR iF)) else (none)) else (none)) else (aj.l3 k (wrap64 (x8 + 1)) kr il iX lV jR iF)))))))))) else (none)) else (some true)
end
def aj.f (k : Nat) (aU : Int) (ay : List (kG)) (aH : List (lQ)) (bq : Int) (aM : List (l7)) (aN : List (mE)) : Option (Bool) := (ko.f aU).bind fun arF => (if arF = true then (if (ay.length : Int) > 20 then (aj.j0 k true aU ay aH bq aM aN) else (if (aH.length : Int) > 10 then (aj.j0 k true aU ay aH bq aM aN) else (if bq < 0 then (aj.j0 k true aU ay aH bq aM aN) else (if bq > aU then (aj.j0 k true aU ay aH bq aM aN) else (if (aM.length : Int) > 8 then (aj.j0 k true aU ay aH bq aM aN) else (aj.j0 k (decide ((aN.length : Int) > 4)) aU ay aH bq aM aN)))))) else (aj.j0 k true aU ay aH bq aM aN))
def aj.T7 : Bool × List (List Nat × List Nat) := (true, [([], []), ([0], [0]), ([1], [1]), ([2], [2]), ([3, 2], [3]), ([4], [4]), ([5, 4], [4, 5]), ([6, 4, 4], [4, 6]), ([7, 4], [4, 7]), ([4, 8], [4, 8]), ([9, 7], [9]), ([10], [10]), ([11, 10], [10, 11]), ([12, 10], [10, 12]), ([10, 13], [10, 13]), ([14, 10], [14]), ([15], [15]), ([16, 15], [15, 16]), ([15], [15]), ([18, 15], [15, 18]), ([17, 19, 15], [15, 17, 19]), ([15, 20], [15, 20]), ([21, 15], [21]), ([22], [22]), ([23, 22], [22, 23]), ([24, 22], [22, 24]), ([25, 22, 22], [22, 25]), ([26], [26]), ([26], [26]), ([28, 26], [26, 28]), ([27, 29, 26, 26], [26, 27, 29]), ([30, 26], [26, 30]), ([26, 31, 22], [22, 26, 31]), ([22, 32], [22, 32]), ([33, 30], [33]), ([34], [34]), ([35, 34], [34, 35]), ([36, 34, 34], [34, 36]), ([37], [37]), ([38, 37], [37, 38]), ([37], [37]), ([40, 37], [37, 40]), ([39, 41, 37], [37, 39, 41]), ([42, 37], [37, 42]), ([43, 37], [37, 43]), ([44, 37], [37, 44]), ([37], [37]), ([46, 37], [37, 46]), ([47, 37], [37, 47]), ([45, 48, 37], [37, 45, 48]), ([37, 49, 34], [34, 37, 49]), ([34, 50], [34, 50])])
def aj.B7 : List Nat := [0, 1, 3, 7, 15, 31, 63, 127, 255, 511, 1023, 2047, 4095, 8191, 16383, 32767, 65535, 131071, 65535, 327679, 1048575, 2097151, 4194303, 8388607, 16777215, 33554431, 67108863, 134217727, 134217727, 402653183, 1073741823, 2147483647, 4294967295, 8589934591, 17179869183, 34359738367, 68719476735, 137438953471, 274877906943, 549755813887, 274877906943, 1374389534719, 4398046511103, 8796093022207, 17592186044415, 35184372088831, 274877906943, 70643622084607, 211381110439935, 562949953421311, 1125899906842623, 2251799813685247]
theorem aj.ahn : nL .any (opsOf Try.f23 7) = aj.T7 := by kernel_rfl
theorem aj.VO : jQ aj.T7.2 aj.B7 = true := by kernel_rfl
def aj.T13 : Bool × List (List Nat × List Nat) := (true, [([], []), ([0], [0]), ([1], [1]), ([2], [2]), ([3, 2], [3]), ([4], [4]), ([4], [4]), ([6, 4], [4, 6]), ([5, 7, 4, 4], [4, 5, 7]), ([8, 4], [4, 8]), ([4, 9], [4, 9]), ([10, 8], [10]), ([11], [11]), ([11], [11]), ([13, 11], [11, 13]), ([12, 14, 11, 11], [11, 12, 14]), ([11], [11]), ([15, 16, 11], [11, 15, 16]), ([11, 17], [11, 17]), ([18, 15], [18]), ([19], [19]), ([20, 19], [19, 20]), ([21, 19], [19, 21]), ([19, 22], [19, 22]), ([23, 19], [23]), ([24], [24]), ([25, 24], [24, 25]), ([24], [24]), ([27, 24], [24, 27]), ([26, 28, 24], [24, 26, 28]), ([24, 29], [24, 29]), ([30, 24], [30]), ([31], [31]), ([32, 31], [31, 32]), ([31], [31]), ([34, 31], [31, 34]), ([33, 35, 31], [31, 33, 35]), ([31, 36], [31, 36]), ([37, 31], [37]), ([38], [38]), ([39, 38], [38, 39]), ([40, 38, 38], [38, 40]), ([41], [41]), ([42, 41], [41, 42]), ([41], [41]), ([44, 41], [41, 44]), ([43, 45, 41], [41, 43, 45]), ([46, 41], [41, 46]), ([47, 41], [41, 47]), ([41], [41]), ([49, 41], [41, 49]), ([48, 50, 41], [41, 48, 50]), ([41, 51, 38], [38, 41, 51]), ([38, 52], [38, 52])])
def aj.B13 : List Nat := [0, 1, 3, 7, 15, 31, 31, 95, 255, 511, 1023, 2047, 4095, 4095, 12287, 32767, 4095, 131071, 262143, 524287, 1048575, 2097151, 4194303, 8388607, 16777215, 33554431, 67108863, 33554431, 167772159, 536870911, 1073741823, 2147483647, 4294967295, 8589934591, 4294967295, 21474836479, 68719476735, 137438953471, 274877906943, 549755813887, 1099511627775, 2199023255551, 4398046511103, 8796093022207, 4398046511103, 21990232555519, 70368744177663, 140737488355327, 281474976710655, 4398046511103, 567347999932415, 2251799813685247, 4503599627370495, 9007199254740991]
theorem aj.abU : nL .any (opsOf Try.f23 13) = aj.T13 := by kernel_rfl
theorem aj.RD : jQ aj.T13.2 aj.B13 = true := by kernel_rfl
def aj.T18 : Bool × List (List Nat × List Nat) := (true, [([], []), ([0], [0]), ([], []), ([1, 2], [1, 2]), ([3], [3]), ([4], [4]), ([5], [5]), ([6], [6]), ([7], [7]), ([8, 7], [7, 8]), ([7], [7]), ([9, 10, 7], [7, 9, 10]), ([11, 7], [7, 11]), ([12, 7], [7, 12]), ([7], [7]), ([14, 7], [7, 14]), ([13, 15, 7], [7, 13, 15]), ([7, 16], [7, 16]), ([17, 7], [17]), ([18], [18]), ([19, 18], [18, 19]), ([20, 18, 18], [18, 20]), ([21], [21]), ([22, 21], [21, 22]), ([21], [21]), ([24, 21], [21, 24]), ([23, 25, 21], [21, 23, 25]), ([26, 21], [21, 26]), ([27, 21], [21, 27]), ([21], [21]), ([29, 21], [21, 29]), ([21], [21]), ([30, 31, 21], [21, 30, 31]), ([32, 21], [21, 32]), ([33, 21], [21, 33]), ([28, 34, 21], [21, 28, 34]), ([21, 35, 18], [18, 21, 35]), ([18, 36], [18, 36])])
def aj.B18 : List Nat := [0, 1, 0, 7, 15, 31, 63, 127, 255, 511, 255, 2047, 4095, 8191, 255, 16639, 65535, 131071, 262143, 524287, 1048575, 2097151, 4194303, 8388607, 4194303, 20971519, 67108863, 134217727, 268435455, 4194303, 541065215, 4194303, 3762290687, 8057257983, 16647192575, 34359738367, 68719476735, 137438953471]
theorem aj.G7 : nL .any (opsOf Try.f23 18) = aj.T18 := by kernel_rfl
theorem aj.AV : jQ aj.T18.2 aj.B18 = true := by kernel_rfl
def aj.T24 : Bool × List (List Nat × List Nat) := (true, [([], []), ([0], [0]), ([1], [1]), ([2], [2]), ([3], [3]), ([4, 3], [3, 4]), ([5, 3], [3, 5]), ([3, 6], [3, 6]), ([7, 3], [7]), ([8], [8]), ([9, 8], [8, 9]), ([10, 8], [8, 10]), ([8, 11], [8, 11]), ([12, 8], [12]), ([13], [13]), ([14, 13], [13, 14]), ([15, 13], [13, 15]), ([13, 16], [13, 16]), ([17, 13], [17]), ([18], [18]), ([19, 18], [18, 19]), ([20, 18], [18, 20]), ([21, 18], [18, 21]), ([18, 22], [18, 22]), ([23, 18], [23]), ([24], [24]), ([25, 24], [24, 25]), ([26, 24], [24, 26]), ([27, 24], [24, 27]), ([24, 28], [24, 28]), ([29, 24], [29]), ([30], [30]), ([31, 30], [30, 31]), ([32, 30], [30, 32]), ([33, 30], [30, 33]), ([30, 34], [30, 34]), ([35, 30], [35]), ([36], [36]), ([37, 36], [36, 37]), ([38, 36], [36, 38]), ([36], [36]), ([40, 36], [36, 40]), ([39, 41, 36], [36, 39, 41]), ([36, 42], [36, 42]), ([43, 36], [43]), ([44], [44]), ([45, 44], [44, 45]), ([46, 44, 44], [44, 46]), ([47], [47]), ([48, 47], [47, 48]), ([47], [47]), ([50, 47], [47, 50]), ([49, 51, 47], [47, 49, 51]), ([52, 47], [47, 52]), ([53, 47], [47, 53]), ([47], [47]), ([55, 47], [47, 55]), ([54, 56, 47], [47, 54, 56]), ([47, 57, 44], [44, 47, 57]), ([44, 58], [44, 58])])
def aj.B24 : List Nat := [0, 1, 3, 7, 15, 31, 63, 127, 255, 511, 1023, 2047, 4095, 8191, 16383, 32767, 65535, 131071, 262143, 524287, 1048575, 2097151, 4194303, 8388607, 16777215, 33554431, 67108863, 134217727, 268435455, 536870911, 1073741823, 2147483647, 4294967295, 8589934591, 17179869183, 34359738367, 68719476735, 137438953471, 274877906943, 549755813887, 137438953471, 1236950581247, 4398046511103, 8796093022207, 17592186044415, 35184372088831, 70368744177663, 140737488355327, 281474976710655, 562949953421311, 281474976710655, 1407374883553279, 4503599627370495, 9007199254740991, 18014398509481983, 281474976710655, 36310271995674623, 144115188075855871, 288230376151711743, 576460752303423487]
theorem aj.axz : nL .any (opsOf Try.f23 24) = aj.T24 := by kernel_rfl
theorem aj.arG : jQ aj.T24.2 aj.B24 = true := by kernel_rfl
set_option maxHeartbeats 200000000 in
set_option maxRecDepth 100000 in
theorem aj.calls (k : Nat) (aU : Int) (dB : Option Addr) (dh : Nat) (ay : List (kG)) (eO : Option Addr) (dS : Nat) (aH : List (lQ)) (bq : Int) (eu : Option Addr) (dW : Nat) (aM : List (l7)) (eD : Option Addr) (ed : Nat) (aN : List (mE)) (r : Bool) (w : World) (jw : Kd.C ym w dB ay.length ay) (jy : ay.length ≤ dh) (kN : Kd.C BM w eO aH.length aH) (kV : aH.length ≤ dS) (kP : Kd.C BN w eu aM.length aM) (kW : aM.length ≤ dW) (kX : Kd.C Av w eD aN.length aN) (kY : aN.length ≤ ed) (h : aj.f k aU ay aH bq aM aN = some r) :
  Calls Try.prog 23 #[.agg #[.int .i64 aU, .slice dB ay.length dh, .slice eO aH.length dS, .int .i64 bq, .slice eu aM.length dW, .slice eD aN.length ed]] w fun e w' => e = .returned (.bool r) ∧ Below w.heap.size w w' := by
 have O1 := Try.underlying37; have Vp := Try.underlying70; have ag0 := Try.underlying85; have ag6 := Try.underlying92; have nC := ae jw; have iM := ae jy; clear jw jy; have oV := ae kN; have j5 := ae kV; clear kN kV; have nQ := ae kP; have kQ := ae kW; clear kP kW; have r_ := ae kX; have lH := ae kY; clear kX kY; have HB := ae (Below.refl w.heap.size w); rw [aj.f] at h; have H := h; clear h; have HC2 := ae H; clear H; go_enter Try.func23, Try.ntmps23; go_upto_region 1 with (first | ((with_reducible refine aD (N := 1) rfl ?_); (try (refine l9 (by rfl) ?_; dsimp only)); refine je 1 #[.int .i64 aU, .slice dB ay.length dh, .slice eO aH.length dS, .int .i64 bq, .slice eu aM.length dW, .slice eD aN.length ed] 37 (h := ?_); intro fP hg w3 hbox hb; have dz := ae (hbox); have axA := ae ((by rw [hg]; exact (af bG) : w.heap.size ≤ fP)); have aJn := axA; replace HB := eU hb; clear hb hbox hg))
 (try simp only [Act.put, List.setIfInBounds_toArray, List.set_cons_zero, List.set_cons_succ]); go_cut [49] (fun v49 wc => ∃ (kq : Nat) (G8 : Bool), v49 = .bool G8 ∧ ai (aj.j0 kq G8 aU ay aH bq aM aN = some r) ∧ ai (kq ≤ k) ∧ ai (wc.heap[fP]? = some (.cells #[.int .i64 aU, (.slice dB ay.length dh), (.slice eO aH.length dS), .int .i64 bq, (.slice eu aM.length dW), (.slice eD aN.length ed)] 37 (0, 0))) ∧ ai (Below w.heap.size w wc))
 case first => as_aux_lemma =>
  have H := HC2.o; clear HC2; replace H := ni H; obtain ⟨arF, A4, H⟩ := H; by_cases c5 : arF = true
  ·subst c5
   rw [if_pos rfl] at H; by_cases c6 : (ay.length : Int) > 20
   ·rw [if_pos c6] at H
    have o6 : decide (20 < (ay.length : Int)) = true := decide_eq_true c6; have Cx : decide (20 < ay.length) = true := decide_eq_true (by omega); clear c6; (first | rw [o6] | (simp only [nR, uV]; rw [o6]) | skip)
    as_aux_lemma =>
     have H' := ae H; clear H; have C7 := a_ dz.o trivial; have F7 := dA dz.o; go_wp2_with (first | ((with_reducible refine au (f := 47) rfl ?_); refine jG (some 12) Try.func47 #[.int .i64 aU] (h := ?_); (with_reducible refine (ko.calls aU true _ A4.o).mono ?_); rintro e w' ⟨rfl, ⟨nd, rfl⟩⟩; refine ⟨_, rfl, ?_⟩))
     go_meet
     case rel => exact ⟨_, (true), ky, H', ⟨by first | omega | exact Nat.le_refl _⟩, ⟨gu dz⟩, ⟨bG⟩⟩
   rw [if_neg c6] at H; have o6 : decide (20 < (ay.length : Int)) = false := decide_eq_false c6; have Cx : decide (20 < ay.length) = false := decide_eq_false (by omega); clear c6; (first | rw [o6] | (simp only [nR, uV]; rw [o6]) | skip); by_cases c8 : (aH.length : Int) > 10
   ·rw [if_pos c8] at H
    have uS : decide (10 < (aH.length : Int)) = true := decide_eq_true c8; have Cs : decide (10 < aH.length) = true := decide_eq_true (by omega); clear c8
    as_aux_lemma =>
     have H' := ae H; clear H; have C9 := a_ dz.o trivial; have F9 := dA dz.o; go_wp2_with (first | ((with_reducible refine au (f := 47) rfl ?_); refine jG (some 12) Try.func47 #[.int .i64 aU] (h := ?_); (with_reducible refine (ko.calls aU true _ A4.o).mono ?_); rintro e w' ⟨rfl, ⟨nd, rfl⟩⟩; refine ⟨_, rfl, ?_⟩))
     go_meet
     case rel => exact ⟨_, (true), ky, H', ⟨by first | omega | exact Nat.le_refl _⟩, ⟨gu dz⟩, ⟨bG⟩⟩
   rw [if_neg c8] at H; have uS : decide (10 < (aH.length : Int)) = false := decide_eq_false c8; have Cs : decide (10 < aH.length) = false := decide_eq_false (by omega); clear c8; by_cases c10 : bq < 0
   ·rw [if_pos c10] at H
    have vW : decide (bq < 0) = true := decide_eq_true c10; clear c10
    as_aux_lemma =>
     have H' := ae H; clear H; have C11 := a_ dz.o trivial; have F11 := dA dz.o; go_wp2_with (first | ((with_reducible refine au (f := 47) rfl ?_); refine jG (some 12) Try.func47 #[.int .i64 aU] (h := ?_); (with_reducible refine (ko.calls aU true _ A4.o).mono ?_); rintro e w' ⟨rfl, ⟨nd, rfl⟩⟩; refine ⟨_, rfl, ?_⟩))
     go_meet
     case rel => exact ⟨_, (true), ky, H', ⟨by first | omega | exact Nat.le_refl _⟩, ⟨gu dz⟩, ⟨bG⟩⟩
   rw [if_neg c10] at H; have vW : decide (bq < 0) = false := decide_eq_false c10; clear c10; by_cases c12 : bq > aU
   ·rw [if_pos c12] at H
    have wH : decide (aU < bq) = true := decide_eq_true c12; clear c12
    as_aux_lemma =>
     have H' := ae H; clear H; have Ya := a_ dz.o trivial; have Yb := dA dz.o; go_wp2_with (first | ((with_reducible refine au (f := 47) rfl ?_); refine jG (some 12) Try.func47 #[.int .i64 aU] (h := ?_); (with_reducible refine (ko.calls aU true _ A4.o).mono ?_); rintro e w' ⟨rfl, ⟨nd, rfl⟩⟩; refine ⟨_, rfl, ?_⟩))
     go_meet
     case rel => exact ⟨_, (true), ky, H', ⟨by first | omega | exact Nat.le_refl _⟩, ⟨gu dz⟩, ⟨bG⟩⟩
   rw [if_neg c12] at H; have wH : decide (aU < bq) = false := decide_eq_false c12; clear c12; by_cases c14 : (aM.length : Int) > 8
   ·rw [if_pos c14] at H
    have abV : decide (8 < (aM.length : Int)) = true := decide_eq_true c14; have ahq : decide (8 < aM.length) = true := decide_eq_true (by omega); clear c14
    as_aux_lemma =>
     have H' := ae H; clear H; have C15 := a_ dz.o trivial; have F15 := dA dz.o; go_wp2_with (first | ((with_reducible refine au (f := 47) rfl ?_); refine jG (some 12) Try.func47 #[.int .i64 aU] (h := ?_); (with_reducible refine (ko.calls aU true _ A4.o).mono ?_); rintro e w' ⟨rfl, ⟨nd, rfl⟩⟩; refine ⟨_, rfl, ?_⟩))
     go_meet
     case rel => exact ⟨_, (true), ky, H', ⟨by first | omega | exact Nat.le_refl _⟩, ⟨gu dz⟩, ⟨bG⟩⟩
   rw [if_neg c14] at H; have abV : decide (8 < (aM.length : Int)) = false := decide_eq_false c14; have ahq : decide (8 < aM.length) = false := decide_eq_false (by omega); clear c14
   as_aux_lemma =>
    have H' := ae H; clear H; have C16 := a_ dz.o trivial; have F16 := dA dz.o; go_wp2_with (first | ((with_reducible refine au (f := 47) rfl ?_); refine jG (some 12) Try.func47 #[.int .i64 aU] (h := ?_); (with_reducible refine (ko.calls aU true _ A4.o).mono ?_); rintro e w' ⟨rfl, ⟨nd, rfl⟩⟩; refine ⟨_, rfl, ?_⟩))
    go_meet
    case rel => exact ⟨_, (decide ((aN.length : Int) > 4)), ky, H', ⟨by first | omega | exact Nat.le_refl _⟩, ⟨gu dz⟩, ⟨bG⟩⟩
  replace c5 := Bool.eq_false_iff.mpr c5; subst c5; rw [if_neg (show ¬ (false = true) by decide)] at H
  as_aux_lemma =>
   have H' := ae H; clear H; have C17 := a_ dz.o trivial; have F17 := dA dz.o; go_wp2_with (first | ((with_reducible refine au (f := 47) rfl ?_); refine jG (some 12) Try.func47 #[.int .i64 aU] (h := ?_); (with_reducible refine (ko.calls aU false _ A4.o).mono ?_); rintro e w' ⟨rfl, ⟨nd, rfl⟩⟩; refine ⟨_, rfl, ?_⟩))
   go_meet
   case rel => exact ⟨_, (true), ky, H', ⟨by first | omega | exact Nat.le_refl _⟩, ⟨gu dz⟩, ⟨bG⟩⟩
 case rest => as_aux_lemma =>
  clear HC2; try clear c1; try clear c2; try clear p2; try clear c4; try clear c5; try clear c6; try clear o6; try clear Cx; try clear c8; try clear uS; try clear Cs; try clear c10; try clear vW; try clear c12; try clear wH; try clear c14; try clear abV; try clear ahq; try clear C11; try clear Ya; try clear C15; try clear C16; try clear C17; try clear C7; try clear C9; try clear F11; try clear Yb; try clear F15; try clear F16; try clear F17; try clear F7; try clear F9
  obtain ⟨kq, G8, rfl, HA, yS, dz, HB⟩ := hcut; cases kq with
  | zero => exact absurd HA.o (by simp [aj.j0])
  | succ kj1 =>
   have H := HA.o; clear HA; simp only [aj.j0] at H; by_cases c18 : G8 = true
   ·subst c18
    rw [if_pos rfl] at H
    as_aux_lemma =>
     obtain rfl := Option.some.inj H; go_wp2; go_ret; exact ⟨ku, bG⟩
   replace c18 := Bool.eq_false_iff.mpr c18; subst c18; rw [if_neg (show ¬ (false = true) by decide)] at H; have H' := ae H; clear H; go_wp2; go_loopg [3] kj1 (fun kq v3 w' => ∃ (fe : Int), v3 = .int .i64 fe ∧ ai (aj.l0 kq fe aU ay aH bq aM aN = some r) ∧ ai (kq ≤ kj1) ∧ ai (w'.heap[fP]? = some (.cells #[.int .i64 aU, (.slice dB ay.length dh), (.slice eO aH.length dS), .int .i64 bq, (.slice eu aM.length dW), (.slice eD aN.length ed)] 37 (0, 0))) ∧ ai (Below w.heap.size w w'))
   case atStart => exact ⟨(0), ky, H', ⟨Nat.le_refl _⟩, ⟨gu dz⟩, ⟨bG⟩⟩
   case round => as_aux_lemma =>
    clear H'; try clear c1; try clear c2; try clear p2; try clear c4; try clear c5; try clear c6; try clear o6; try clear Cx; try clear c8; try clear uS; try clear Cs; try clear c10; try clear vW; try clear c12; try clear wH; try clear c14; try clear abV; try clear ahq; try clear c18; try clear C11; try clear Ya; try clear C15; try clear C16; try clear C17; try clear C7; try clear C9; try clear F11; try clear Yb; try clear F15; try clear F16; try clear F17; try clear F7; try clear F9; try clear p2
    obtain ⟨fe, rfl, HA, uQ, dz, HB⟩ := hrel; cases gk with
    | zero => exact absurd HA.o (by simp [aj.l0])
    | succ k2 =>
     have H := HA.o; clear HA; simp only [aj.l0] at H; by_cases c19 : fe < (ay.length : Int)
     ·rw [if_pos c19] at H
      have Qk : decide (fe < (ay.length : Int)) = true := decide_eq_true c19; clear c19; by_cases c20 : 0 ≤ fe
      ·rw [if_pos c20] at H
       have axB : decide (0 ≤ fe) = true := decide_eq_true c20; clear c20; replace H := ni H; obtain ⟨aeT, E8, H⟩ := H; obtain ⟨RF, RG, RH, RI, RJ, RL, -⟩ := a_ dz.o trivial; obtain ⟨RN, RO, RP, RQ, RS, RU, -⟩ := dA dz.o; have akT : 0 ≤ (fe : Int) := od; have akU : fe < (ay.length : Int) := od; obtain ⟨tN, Cy, Cz, RV, RX, e245, RY, RZ, R3, R4, abW, abX, abY, abZ⟩ := qI nC.o fe akT akU; cases e245; replace RY := hxb HB RY; replace RZ := hxb HB RZ; replace R3 := hxb HB R3; replace R4 := hxb HB R4; have ab0 := ae abX; have akV := ae abW; clear abX abW; have aBg := ae abZ; have akW := ae abY; clear abZ abY; replace akT := eq_true akT; replace akU := eq_true akU; try go_wp2_with (first | ((with_reducible refine aD (N := 4) rfl ?_); (try (refine l9 (by rfl) ?_; dsimp only)); refine je 4 #[.slice none 0 0, .slice none 0 0, .int .i64 0, .int .i64 0] 70 (h := ?_); intro zg hg wv1 hbox hb; have yJ := ae (hbox); have axC := ae ((by rw [hg]; exact (af bG) : w.heap.size ≤ zg)); have axD := axC; have JN := ae ((by rw [hg]; exact Nat.ne_of_lt (blt dz) : fP ≠ zg)); have aeX := ae JN.o.symm; replace dz := ae (fo dz hb); replace HB := eU hb; clear hb hbox hg; have aof := aeX.o; have aog := JN.o; obtain ⟨ab1, ab2, akX, akY, -⟩ := aT yJ.o trivial; obtain ⟨ab3, ab4, akZ, ak0, -⟩ := dK yJ.o))
       refine aaL yJ.o ?_; intro wv2 Cn VU VV; replace dz := ae ((VU _ JN.o).trans dz.o); replace HB := ae (VV _ HB.o axD.o); replace yJ := ae Cn; clear Cn VU VV; replace dz := ae (aV dz.o); replace yJ := ae (aV yJ.o); replace HB := ae (di HB.o); refine ji (n := 52) (S := fun w' => w'.cell? ⟨zg, 0, none⟩ = some (.slice Cy ((ax ay fe).f0).length Cz) ∧ w'.cell? ⟨zg, 1, none⟩ = some (.slice RV ((ax ay fe).f1).length RX) ∧ w'.cell? ⟨zg, 2, none⟩ = some (.int .i64 ((ax ay fe).f2)) ∧ w'.cell? ⟨zg, 3, none⟩ = some (.int .i64 ((ax ay fe).f3)) ∧ w'.cell? ⟨fP, 0, none⟩ = some (.int .i64 aU) ∧ w'.cell? ⟨fP, 1, none⟩ = some (.slice (some tN) ay.length dh) ∧ w'.cell? ⟨fP, 2, none⟩ = some (.slice eO aH.length dS) ∧ w'.cell? ⟨fP, 3, none⟩ = some (.int .i64 bq) ∧ w'.cell? ⟨fP, 4, none⟩ = some (.slice eu aM.length dW) ∧ w'.cell? ⟨fP, 5, none⟩ = some (.slice eD aN.length ed)) (ds := []) (tf 0 52) (by kernel_rfl) rfl rfl (aT yJ.o (kH dz.o)) (fun hHeld => ?_); refine eZ aj.ahn aj.VO (fun aG fH => ?_); generalize wv2.drew = wv3 at dz yJ HB hHeld ⊢; refine bF aG (h := ?_); refine gI aG fH hHeld (h := ?_); refine ny (i := 2) (N := some 64) (tf 3 49) rfl rfl (fZ aG.o (by kernel_rfl)) (by decide) (fun K hK => ?_); refine EZ Try.func48 #[.slice Cy ((ax ay fe).f0).length Cz] (h := ?_); with_reducible refine (fD.calls k2 _ _ ((ax ay fe).f0) aeT _ ?aI ?aJ E8.o).mono ?_
       (case aI => exact fT); (case aJ => exact akV.o); rintro e w' ⟨rfl, ⟨nd, rfl⟩⟩; refine ⟨_, rfl, ?_⟩; refine hK.out _ _ (aT yJ.o (kH dz.o)) (fun hHeld => ?_); clear hK K; refine mo (some 64) (h := ?_); by_cases c22 : aeT = true
       ·subst c22
        rw [if_pos rfl] at H; replace H := ni H; obtain ⟨aeU, A23, H⟩ := H; iterate 3 (refine bF aG (h := ?_))
        refine gI aG fH hHeld (h := ?_); refine ny (i := 7) (N := some 69) (tf 8 44) rfl rfl (fZ aG.o (by kernel_rfl)) (by decide) (fun K hK => ?_); refine EZ Try.func49 #[.slice RV ((ax ay fe).f1).length RX] (h := ?_); with_reducible refine (vC.calls _ _ ((ax ay fe).f1) aeU _ ?aI ?aJ A23.o).mono ?_
        (case aI => exact fT); (case aJ => exact akW.o); rintro e w' ⟨rfl, ⟨nd, rfl⟩⟩; refine ⟨_, rfl, ?_⟩; refine hK.out _ _ (aT yJ.o (kH dz.o)) (fun hHeld => ?_); clear hK K; refine mo (some 69) (h := ?_); by_cases c24 : aeU = true
        ·subst c24
         rw [if_pos rfl] at H; by_cases c25 : ((ax ay fe).f2) < 1
         ·rw [if_pos c25] at H
          have axF : decide (((ax ay fe).f2) < 1) = true := decide_eq_true c25; clear c25; obtain rfl := Option.some.inj H; iterate 4 (refine bF aG (h := ?_))
          refine gI aG fH hHeld (h := ?_); iterate 3 (refine bF aG (h := ?_))
          refine dJ aG 5 [some _, some _, some _, some _, some _] (h := ?_); iterate 2 (refine bF aG (h := ?_))
          refine dJ aG 10 [some _, some _, some _, some _, some _, some _, some _, some _, some _, some _] (h := ?_); iterate 2 (refine bF aG (h := ?_))
          refine dJ aG 16 [some _, some _, some _, some _, some _, some _, some _, some _, some _, some _, some _, some _, some _, some _, some _, some _] (h := ?_); refine bF aG (h := ?_); refine fu (bV aG.o (by kernel_rfl)) ?_; try go_wp2
          go_ret; exact ⟨ku, bG⟩
         rw [if_neg c25] at H; have axF : decide (((ax ay fe).f2) < 1) = false := decide_eq_false c25; clear c25; by_cases c32 : ((ax ay fe).f2) > aU
         ·rw [if_pos c32] at H
          have aoh : decide (aU < ((ax ay fe).f2)) = true := decide_eq_true c32; clear c32; obtain rfl := Option.some.inj H; iterate 4 (refine bF aG (h := ?_))
          refine gI aG fH hHeld (h := ?_); iterate 4 (refine bF aG (h := ?_))
          refine gY aG 18 (some 80) (tb 52 393215) (h := ?_); refine mG aG fH hHeld 17 (some 79) (tf 19 33) (h := ?_); refine gI aG fH hHeld (h := ?_); iterate 3 (refine bF aG (h := ?_))
          refine dJ aG 10 [some _, some _, some _, some _, some _, some _, some _, some _, some _, some _] (h := ?_); iterate 2 (refine bF aG (h := ?_))
          refine dJ aG 16 [some _, some _, some _, some _, some _, some _, some _, some _, some _, some _, some _, some _, some _, some _, some _, some _] (h := ?_); refine bF aG (h := ?_); refine fu (bV aG.o (by kernel_rfl)) ?_; try go_wp2
          go_ret; exact ⟨ku, bG⟩
         rw [if_neg c32] at H; have aoh : decide (aU < ((ax ay fe).f2)) = false := decide_eq_false c32; clear c32; by_cases c39 : ((ax ay fe).f3) = 0
         ·rw [if_pos c39] at H
          have aoi : (((ax ay fe).f3) == 0) = true := beq_iff_eq.mpr c39; have axG : (((ax ay fe).f3) != 0) = false := bne_eq_false_iff_eq.mpr c39; clear c39; by_cases c40 : fe > 0
          ·rw [if_pos c40] at H
           have aoj : decide (0 < fe) = true := decide_eq_true c40; clear c40; obtain ⟨vF, Ql⟩ : ∃ j_ : Int, (wrap64 (fe - 1)) = j_ := ⟨_, rfl⟩; replace H : (if 0 ≤ (vF) then (if (vF) < (ay.length : Int) then (if ((Op.bytesLess ((strOfNums ((ax ay (vF)).f0)).toList) ((strOfNums ((ax ay fe).f0)).toList)) = true) then (aj.l0 k2 (wrap64 (fe + 1)) aU ay aH bq aM aN) else (some false)) else (none)) else (none)) = some r := by first | (rw [Ql] at H; exact H) | (simp only [Ql] at H ⊢; exact H)
           (try rw [Ql] at E8); (try rw [Ql] at A23); have aEp : (IntKind.i64.wrap (fe - 1)) = vF := (nR _).trans Ql; by_cases c42 : 0 ≤ (vF)
           ·rw [if_pos c42] at H
            have aok : decide (0 ≤ (vF)) = true := decide_eq_true c42; clear c42; by_cases c43 : (vF) < (ay.length : Int)
            ·rw [if_pos c43] at H
             have aJo : decide ((vF) < (ay.length : Int)) = true := decide_eq_true c43; clear c43; have arH : 0 ≤ ((vF) : Int) := od; have arI : (vF) < (ay.length : Int) := od; obtain ⟨axH, YY, YZ, arJ, arK, e249, R5, R6, R7, R8, ab6, ab7, ab8, ab9⟩ := qI nC.o (vF) arH arI; have ak1 := R8; have ak2 := R7; have ak3 := R6; have ak4 := R5; obtain rfl : tN = axH := (by injection e249); replace R5 := hxb HB R5; replace R6 := hxb HB R6; replace R7 := hxb HB R7; replace R8 := hxb HB R8; have ak5 := ae ab7; have aBi := ae ab6; clear ab7 ab6; have aBj := ae ab9; have aBk := ae ab8; clear ab9 ab8; replace arH := eq_true arH; replace arI := eq_true arI; refine Ce (S' := fun w' => w'.cell? ⟨zg, 0, none⟩ = some (.slice Cy ((ax ay fe).f0).length Cz) ∧ w'.cell? ⟨zg, 1, none⟩ = some (.slice RV ((ax ay fe).f1).length RX) ∧ w'.cell? ⟨zg, 2, none⟩ = some (.int .i64 ((ax ay fe).f2)) ∧ w'.cell? ⟨zg, 3, none⟩ = some (.int .i64 ((ax ay fe).f3)) ∧ w'.cell? ⟨fP, 0, none⟩ = some (.int .i64 aU) ∧ w'.cell? ⟨fP, 1, none⟩ = some (.slice (some tN) ay.length dh) ∧ w'.cell? ⟨fP, 2, none⟩ = some (.slice eO aH.length dS) ∧ w'.cell? ⟨fP, 3, none⟩ = some (.int .i64 bq) ∧ w'.cell? ⟨fP, 4, none⟩ = some (.slice eu aM.length dW) ∧ w'.cell? ⟨fP, 5, none⟩ = some (.slice eD aN.length ed) ∧ w'.cell? (tN.add (((vF)).toNat * 4)) = some (.slice YY ((ax ay (vF)).f0).length YZ) ∧ w'.cell? ⟨(tN.add (((vF)).toNat * 4)).block, (tN.add (((vF)).toNat * 4)).off + 1, none⟩ = some (.slice arJ ((ax ay (vF)).f1).length arK) ∧ w'.cell? ⟨(tN.add (((vF)).toNat * 4)).block, (tN.add (((vF)).toNat * 4)).off + 2, none⟩ = some (.int .i64 ((ax ay (vF)).f2)) ∧ w'.cell? ⟨(tN.add (((vF)).toNat * 4)).block, (tN.add (((vF)).toNat * 4)).off + 3, none⟩ = some (.int .i64 ((ax ay (vF)).f3)) ∧ (convert 29 9 (.slice YY ((ax ay (vF)).f0).length YZ)).run Try.prog w' = .ok (.string (strOfNums ((ax ay (vF)).f0))) w' ∧ (convert 29 9 (.slice Cy ((ax ay fe).f0).length Cz)).run Try.prog w' = .ok (.string (strOfNums ((ax ay fe).f0))) w') (fun _ h_ => ⟨h_.1, h_.2.1, h_.2.2.1, h_.2.2.2.1, h_.2.2.2.2.1, h_.2.2.2.2.2.1, h_.2.2.2.2.2.2.1, h_.2.2.2.2.2.2.2.1, h_.2.2.2.2.2.2.2.2.1, h_.2.2.2.2.2.2.2.2.2.1⟩) (aT yJ.o (a_ dz.o ⟨(hxb HB ak4 :), (hxb HB ak3 :), (hxb HB ak2 :), (hxb HB ak1 :), (Kd.jq (P := Try.prog) (A := YY) (c := YZ) Try.underlying29 Try.underlying5 Try.underlying9 (Kd.cz ak5.o bG)), (Kd.jq (P := Try.prog) (A := Cy) (c := Cz) Try.underlying29 Try.underlying5 Try.underlying9 (Kd.cz ab0.o bG))⟩)) (h := ?_); clear hHeld; intro hHeld; iterate 9 (refine gI aG fH hHeld (h := ?_))
             refine mG aG fH hHeld 18 (some 80) (tb 52 393215) (h := ?_); refine mG aG fH hHeld 17 (some 79) (tf 19 33) (h := ?_); iterate 8 (refine gI aG fH hHeld (h := ?_))
             refine dJ aG 5 [some _, some _, some _, some _, some _] (h := ?_); iterate 7 (refine gI aG fH hHeld (h := ?_))
             refine mG aG fH hHeld 40 (some 102) (tb 52 1649267441663) (h := ?_); refine mG aG fH hHeld 41 (some 103) (tb 52 3848290697215) (h := ?_); refine mG aG fH hHeld 46 (some 108) (tb 52 74217034874879) (h := ?_); refine mG aG fH hHeld 39 (some 101) (tb 52 74766790688767) (h := ?_); refine mG aG fH hHeld 42 (some 104) (tb 52 79164837199871) (h := ?_); refine mG aG fH hHeld 43 (some 105) (tb 52 87960930222079) (h := ?_); refine mG aG fH hHeld 44 (some 106) (tb 52 105553116266495) (h := ?_); refine mG aG fH hHeld 45 (some 107) (tf 47 5) (h := ?_); refine gI aG fH hHeld (h := ?_); by_cases c44 : ((Op.bytesLess ((strOfNums ((ax ay (vF)).f0)).toList) ((strOfNums ((ax ay fe).f0)).toList)) = true)
             ·rw [if_pos c44] at H
              have aol : (Op.bytesLess ((strOfNums ((ax ay (vF)).f0)).toList) ((strOfNums ((ax ay fe).f0)).toList)) = true := c44; clear c44; have H' := ae H; clear H; iterate 4 (refine gI aG fH hHeld (h := ?_))
              refine fu (bV aG.o (by kernel_rfl)) ?_; try go_wp2
              go_roundg k2
              case measure => have := yS.o; have := uQ.o; omega
              case rel => exact ⟨(wrap64 (fe + 1)), ky, H', ⟨by have := yS.o; have := uQ.o; omega⟩, ⟨gu dz⟩, ⟨bG⟩⟩
             rw [if_neg c44] at H; have aol : (Op.bytesLess ((strOfNums ((ax ay (vF)).f0)).toList) ((strOfNums ((ax ay fe).f0)).toList)) = false := by simpa using c44
             clear c44; obtain rfl := Option.some.inj H; iterate 4 (refine gI aG fH hHeld (h := ?_))
             refine fu (bV aG.o (by kernel_rfl)) ?_; try go_wp2
             go_ret; exact ⟨by first | rfl | (simp [bW, bX] <;> rfl) | (simp only [← Ql]; first | rfl | (simp [bW, bX] <;> rfl)) | (simp [*, bW, bX] <;> rfl), bG⟩
            rw [if_neg c43] at H; exact absurd H (by simp)
           rw [if_neg c42] at H; exact absurd H (by simp)
          rw [if_neg c40] at H; have aoj : decide (0 < fe) = false := decide_eq_false c40; clear c40; have H' := ae H; clear H; iterate 4 (refine bF aG (h := ?_))
          refine gI aG fH hHeld (h := ?_); iterate 4 (refine bF aG (h := ?_))
          refine gY aG 18 (some 80) (tb 52 393215) (h := ?_); refine mG aG fH hHeld 17 (some 79) (tf 19 33) (h := ?_); refine gI aG fH hHeld (h := ?_); iterate 4 (refine bF aG (h := ?_))
          refine gI aG fH hHeld (h := ?_); iterate 2 (refine bF aG (h := ?_))
          refine dJ aG 5 [some _, some _, some _, some _, some _] (h := ?_); iterate 6 (refine bF aG (h := ?_))
          refine dJ aG 12 [some _, some _, some _, some _, some _, some _, some _, some _, some _, some _, some _, some _] (h := ?_); iterate 2 (refine bF aG (h := ?_))
          refine fu (bV aG.o (by kernel_rfl)) ?_; try go_wp2
          go_roundg k2
          case measure => have := yS.o; have := uQ.o; omega
          case rel => exact ⟨(wrap64 (fe + 1)), ky, H', ⟨by have := yS.o; have := uQ.o; omega⟩, ⟨gu dz⟩, ⟨bG⟩⟩
         rw [if_neg c39] at H; have aoi : (((ax ay fe).f3) == 0) = false := beq_eq_false_iff_ne.mpr c39; have axG : (((ax ay fe).f3) != 0) = true := bne_iff_ne.mpr c39; replace H := ni H; obtain ⟨aeV, A69, H⟩ := H; iterate 4 (refine bF aG (h := ?_))
         refine gI aG fH hHeld (h := ?_); iterate 4 (refine bF aG (h := ?_))
         refine gY aG 18 (some 80) (tb 52 393215) (h := ?_); refine mG aG fH hHeld 17 (some 79) (tf 19 33) (h := ?_); refine gI aG fH hHeld (h := ?_); iterate 4 (refine bF aG (h := ?_))
         refine gI aG fH hHeld (h := ?_); iterate 2 (refine bF aG (h := ?_))
         refine gY aG 28 (some 90) (tb 52 402653183) (h := ?_); refine mG aG fH hHeld 27 (some 89) (tf 29 23) (h := ?_); refine gI aG fH hHeld (h := ?_); refine ny (i := 30) (N := some 92) (tf 31 21) rfl rfl (fZ aG.o (by kernel_rfl)) (by decide) (fun K hK => ?_); refine EZ Try.func50 #[.agg #[.int .i64 aU, .slice (some tN) ay.length dh, .slice eO aH.length dS, .int .i64 bq, .slice eu aM.length dW, .slice eD aN.length ed], .int .i64 ((ax ay fe).f3)] (h := ?_); with_reducible refine (iT.calls k2 aU _ _ ay _ _ aH bq _ _ aM _ _ aN ((ax ay fe).f3) aeV _ ?aI ?aJ ?bL ?bN ?iq ?iw ?jg ?jh A69.o).mono ?_
         (case aI => exact fT); (case aJ => exact iM.o); (case bL => exact fT); (case bN => exact j5.o); (case iq => exact fT); (case iw => exact kQ.o); (case jg => exact fT); (case jh => exact lH.o); rintro e wv4 ⟨rfl, hb⟩; refine ⟨_, rfl, ?_⟩; replace dz := ae (fo dz hb); replace yJ := ae (fo yJ hb); replace HB := eU hb; clear hb; refine hK.out _ _ (aT yJ.o (kH dz.o)) (fun hHeld => ?_); clear hK K; refine mo (some 92) (h := ?_); by_cases c70 : aeV < 0
         ·rw [if_pos c70] at H
          have aom : decide (aeV < 0) = true := decide_eq_true c70; clear c70; obtain rfl := Option.some.inj H; iterate 4 (refine bF aG (h := ?_))
          refine dJ aG 16 [some _, some _, some _, some _, some _, some _, some _, some _, some _, some _, some _, some _, some _, some _, some _, some _] (h := ?_); refine bF aG (h := ?_); refine fu (bV aG.o (by kernel_rfl)) ?_; try go_wp2
          go_ret; exact ⟨ku, bG⟩
         rw [if_neg c70] at H; have aom : decide (aeV < 0) = false := decide_eq_false c70; clear c70; by_cases c78 : fe > 0
         ·rw [if_pos c78] at H
          have axI : decide (0 < fe) = true := decide_eq_true c78; clear c78; obtain ⟨vG, NK⟩ : ∃ j_ : Int, (wrap64 (fe - 1)) = j_ := ⟨_, rfl⟩; replace H : (if 0 ≤ (vG) then (if (vG) < (ay.length : Int) then (if ((Op.bytesLess ((strOfNums ((ax ay (vG)).f0)).toList) ((strOfNums ((ax ay fe).f0)).toList)) = true) then (aj.l0 k2 (wrap64 (fe + 1)) aU ay aH bq aM aN) else (some false)) else (none)) else (none)) = some r := by first | (rw [NK] at H; exact H) | (simp only [NK] at H ⊢; exact H)
          (try rw [NK] at E8); (try rw [NK] at A23); (try rw [NK] at A69); have aEq : (IntKind.i64.wrap (fe - 1)) = vG := (nR _).trans NK; by_cases c80 : 0 ≤ (vG)
          ·rw [if_pos c80] at H
           have aJq : decide (0 ≤ (vG)) = true := decide_eq_true c80; clear c80; by_cases c81 : (vG) < (ay.length : Int)
           ·rw [if_pos c81] at H
            have aJr : decide ((vG) < (ay.length : Int)) = true := decide_eq_true c81; clear c81; have arL : 0 ≤ ((vG) : Int) := od; have arM : (vG) < (ay.length : Int) := od; obtain ⟨axJ, Y0, Y1, arN, arO, e251, R9, R_, Sa, Sb, ab_, ab', aca, acb⟩ := qI nC.o (vG) arL arM; have ak6 := Sb; have ak7 := Sa; have ak8 := R_; have ak9 := R9; obtain rfl : tN = axJ := (by injection e251); replace R9 := hxb HB R9; replace R_ := hxb HB R_; replace Sa := hxb HB Sa; replace Sb := hxb HB Sb; have ak_ := ae ab'; have aBm := ae ab_; clear ab' ab_; have aBn := ae acb; have aBo := ae aca; clear acb aca; replace arL := eq_true arL; replace arM := eq_true arM; refine Ce (S' := fun w' => w'.cell? ⟨zg, 0, none⟩ = some (.slice Cy ((ax ay fe).f0).length Cz) ∧ w'.cell? ⟨zg, 1, none⟩ = some (.slice RV ((ax ay fe).f1).length RX) ∧ w'.cell? ⟨zg, 2, none⟩ = some (.int .i64 ((ax ay fe).f2)) ∧ w'.cell? ⟨zg, 3, none⟩ = some (.int .i64 ((ax ay fe).f3)) ∧ w'.cell? ⟨fP, 0, none⟩ = some (.int .i64 aU) ∧ w'.cell? ⟨fP, 1, none⟩ = some (.slice (some tN) ay.length dh) ∧ w'.cell? ⟨fP, 2, none⟩ = some (.slice eO aH.length dS) ∧ w'.cell? ⟨fP, 3, none⟩ = some (.int .i64 bq) ∧ w'.cell? ⟨fP, 4, none⟩ = some (.slice eu aM.length dW) ∧ w'.cell? ⟨fP, 5, none⟩ = some (.slice eD aN.length ed) ∧ w'.cell? (tN.add (((vG)).toNat * 4)) = some (.slice Y0 ((ax ay (vG)).f0).length Y1) ∧ w'.cell? ⟨(tN.add (((vG)).toNat * 4)).block, (tN.add (((vG)).toNat * 4)).off + 1, none⟩ = some (.slice arN ((ax ay (vG)).f1).length arO) ∧ w'.cell? ⟨(tN.add (((vG)).toNat * 4)).block, (tN.add (((vG)).toNat * 4)).off + 2, none⟩ = some (.int .i64 ((ax ay (vG)).f2)) ∧ w'.cell? ⟨(tN.add (((vG)).toNat * 4)).block, (tN.add (((vG)).toNat * 4)).off + 3, none⟩ = some (.int .i64 ((ax ay (vG)).f3)) ∧ (convert 29 9 (.slice Y0 ((ax ay (vG)).f0).length Y1)).run Try.prog w' = .ok (.string (strOfNums ((ax ay (vG)).f0))) w' ∧ (convert 29 9 (.slice Cy ((ax ay fe).f0).length Cz)).run Try.prog w' = .ok (.string (strOfNums ((ax ay fe).f0))) w') (fun _ h_ => ⟨h_.1, h_.2.1, h_.2.2.1, h_.2.2.2.1, h_.2.2.2.2.1, h_.2.2.2.2.2.1, h_.2.2.2.2.2.2.1, h_.2.2.2.2.2.2.2.1, h_.2.2.2.2.2.2.2.2.1, h_.2.2.2.2.2.2.2.2.2.1⟩) (aT yJ.o (a_ dz.o ⟨(hxb HB ak9 :), (hxb HB ak8 :), (hxb HB ak7 :), (hxb HB ak6 :), (Kd.jq (P := Try.prog) (A := Y0) (c := Y1) Try.underlying29 Try.underlying5 Try.underlying9 (Kd.cz ak_.o bG)), (Kd.jq (P := Try.prog) (A := Cy) (c := Cz) Try.underlying29 Try.underlying5 Try.underlying9 (Kd.cz ab0.o bG))⟩)) (h := ?_); clear hHeld; intro hHeld; iterate 8 (refine gI aG fH hHeld (h := ?_))
            refine mG aG fH hHeld 40 (some 102) (tb 52 1649267441663) (h := ?_); refine mG aG fH hHeld 41 (some 103) (tb 52 3848290697215) (h := ?_); refine mG aG fH hHeld 46 (some 108) (tb 52 74217034874879) (h := ?_); refine mG aG fH hHeld 39 (some 101) (tb 52 74766790688767) (h := ?_); refine mG aG fH hHeld 42 (some 104) (tb 52 79164837199871) (h := ?_); refine mG aG fH hHeld 43 (some 105) (tb 52 87960930222079) (h := ?_); refine mG aG fH hHeld 44 (some 106) (tb 52 105553116266495) (h := ?_); refine mG aG fH hHeld 45 (some 107) (tf 47 5) (h := ?_); refine gI aG fH hHeld (h := ?_); by_cases c82 : ((Op.bytesLess ((strOfNums ((ax ay (vG)).f0)).toList) ((strOfNums ((ax ay fe).f0)).toList)) = true)
            ·rw [if_pos c82] at H
             have axK : (Op.bytesLess ((strOfNums ((ax ay (vG)).f0)).toList) ((strOfNums ((ax ay fe).f0)).toList)) = true := c82; clear c82; have H' := ae H; clear H; iterate 4 (refine gI aG fH hHeld (h := ?_))
             refine fu (bV aG.o (by kernel_rfl)) ?_; try go_wp2
             go_roundg k2
             case measure => have := yS.o; have := uQ.o; omega
             case rel => exact ⟨(wrap64 (fe + 1)), ky, H', ⟨by have := yS.o; have := uQ.o; omega⟩, ⟨gu dz⟩, ⟨bG⟩⟩
            rw [if_neg c82] at H; have axK : (Op.bytesLess ((strOfNums ((ax ay (vG)).f0)).toList) ((strOfNums ((ax ay fe).f0)).toList)) = false := by simpa using c82
            clear c82; obtain rfl := Option.some.inj H; iterate 4 (refine gI aG fH hHeld (h := ?_))
            refine fu (bV aG.o (by kernel_rfl)) ?_; try go_wp2
            go_ret; exact ⟨by first | rfl | (simp [bW, bX] <;> rfl) | (simp only [← NK]; first | rfl | (simp [bW, bX] <;> rfl)) | (simp [*, bW, bX] <;> rfl), bG⟩
           rw [if_neg c81] at H; exact absurd H (by simp)
          rw [if_neg c80] at H; exact absurd H (by simp)
         rw [if_neg c78] at H; have axI : decide (0 < fe) = false := decide_eq_false c78; clear c78; have H' := ae H; clear H; iterate 7 (refine bF aG (h := ?_))
         refine dJ aG 12 [some _, some _, some _, some _, some _, some _, some _, some _, some _, some _, some _, some _] (h := ?_); iterate 2 (refine bF aG (h := ?_))
         refine fu (bV aG.o (by kernel_rfl)) ?_; try go_wp2
         go_roundg k2
         case measure => have := yS.o; have := uQ.o; omega
         case rel => exact ⟨(wrap64 (fe + 1)), ky, H', ⟨by have := yS.o; have := uQ.o; omega⟩, ⟨gu dz⟩, ⟨bG⟩⟩
        replace c24 := Bool.eq_false_iff.mpr c24; subst c24; rw [if_neg (show ¬ (false = true) by decide)] at H; obtain rfl := Option.some.inj H; iterate 3 (refine bF aG (h := ?_))
        refine dJ aG 3 [some _, some _, some _] (h := ?_); iterate 2 (refine bF aG (h := ?_))
        refine dJ aG 5 [some _, some _, some _, some _, some _] (h := ?_); iterate 2 (refine bF aG (h := ?_))
        refine dJ aG 10 [some _, some _, some _, some _, some _, some _, some _, some _, some _, some _] (h := ?_); iterate 2 (refine bF aG (h := ?_))
        refine dJ aG 16 [some _, some _, some _, some _, some _, some _, some _, some _, some _, some _, some _, some _, some _, some _, some _, some _] (h := ?_); refine bF aG (h := ?_); refine fu (bV aG.o (by kernel_rfl)) ?_; try go_wp2
        go_ret; exact ⟨ku, bG⟩
       replace c22 := Bool.eq_false_iff.mpr c22; subst c22; rw [if_neg (show ¬ (false = true) by decide)] at H; obtain rfl := Option.some.inj H; iterate 2 (refine bF aG (h := ?_))
       refine dJ aG 4 [some _, some _, some _, some _] (h := ?_); iterate 2 (refine bF aG (h := ?_))
       refine dJ aG 3 [some _, some _, some _] (h := ?_); iterate 2 (refine bF aG (h := ?_))
       refine dJ aG 5 [some _, some _, some _, some _, some _] (h := ?_); iterate 2 (refine bF aG (h := ?_))
       refine dJ aG 10 [some _, some _, some _, some _, some _, some _, some _, some _, some _, some _] (h := ?_); iterate 2 (refine bF aG (h := ?_))
       refine dJ aG 16 [some _, some _, some _, some _, some _, some _, some _, some _, some _, some _, some _, some _, some _, some _, some _, some _] (h := ?_); refine bF aG (h := ?_); refine fu (bV aG.o (by kernel_rfl)) ?_; try go_wp2
       go_ret; exact ⟨ku, bG⟩
      rw [if_neg c20] at H; exact absurd H (by simp)
     rw [if_neg c19] at H; have Qk : decide (fe < (ay.length : Int)) = false := decide_eq_false c19; clear c19; have H' := ae H; clear H; have aEr := a_ dz.o trivial; have aEs := dA dz.o; go_wp2; go_loopg [5] k2 (fun kq v5 w' => ∃ (mr : Int), v5 = .int .i64 mr ∧ ai (aj.l1 kq mr aU ay aH bq aM aN = some r) ∧ ai (kq ≤ k2) ∧ ai (w'.heap[fP]? = some (.cells #[.int .i64 aU, (.slice dB ay.length dh), (.slice eO aH.length dS), .int .i64 bq, (.slice eu aM.length dW), (.slice eD aN.length ed)] 37 (0, 0))) ∧ ai (Below w.heap.size w w'))
     case atStart => exact ⟨(0), ky, H', ⟨Nat.le_refl _⟩, ⟨gu dz⟩, ⟨bG⟩⟩
     case round => as_aux_lemma =>
      clear H'; try clear c1; try clear c2; try clear p2; try clear q2; try clear hx2; try clear c4; try clear c11; try clear c19; try clear Qk; try clear c20; try clear c22; try clear c24; try clear p24; try clear q24; try clear hx24; try clear c48; try clear c49; try clear c118; try clear C116; try clear aDm; try clear aEr; try clear F116; try clear aDn; try clear aEs; try clear RY; try clear RZ; try clear R3; try clear R4; try clear akT; try clear akU
      obtain ⟨mr, rfl, HA, BP, dz, HB⟩ := hrel; cases gk with
      | zero => exact absurd HA.o (by simp [aj.l1])
      | succ k3 =>
       have H := HA.o; clear HA; simp only [aj.l1] at H; by_cases Y2 : mr < (aH.length : Int)
       ·rw [if_pos Y2] at H
        have ahs : decide (mr < (aH.length : Int)) = true := decide_eq_true Y2; clear Y2; by_cases c124 : 0 ≤ mr
        ·rw [if_pos c124] at H
         have aEt : decide (0 ≤ mr) = true := decide_eq_true c124; clear c124; replace H := ni H; obtain ⟨akS, axL, H⟩ := H; obtain ⟨RF, RG, RH, RI, RJ, RL, -⟩ := a_ dz.o trivial; obtain ⟨RN, RO, RP, RQ, RS, RU, -⟩ := dA dz.o; have ak' : 0 ≤ (mr : Int) := od; have ala : mr < (aH.length : Int) := od; obtain ⟨KI, NL, NM, e252, Sc, Sd, acd, ace⟩ := tV oV.o mr ak' ala; cases e252; replace Sc := hxb HB Sc; replace Sd := hxb HB Sd; have aBp := ae ace; have Sg := ae acd; clear ace acd; replace ak' := eq_true ak'; replace ala := eq_true ala; try go_wp2_with (first | ((with_reducible refine aD (N := 6) rfl ?_); (try (refine l9 (by rfl) ?_; dsimp only)); refine je 6 #[.slice none 0 0, .int .i64 0] 85 (h := ?_); intro Qm hg wv1 hbox hb; have wJ := ae (hbox); have axM := ae ((by rw [hg]; exact (af bG) : w.heap.size ≤ Qm)); have axN := axM; have JO := ae ((by rw [hg]; exact Nat.ne_of_lt (blt dz) : fP ≠ Qm)); have aeY := ae JO.o.symm; replace dz := ae (fo dz hb); replace HB := eU hb; clear hb hbox hg; have aof := aeY.o; have aog := JO.o; obtain ⟨ab1, ab2, -⟩ := fM wJ.o trivial; obtain ⟨ab3, ab4, -⟩ := j6 wJ.o))
         refine ano wJ.o ?_; intro wv2 Cn VU VV; replace dz := ae ((VU _ JO.o).trans dz.o); replace HB := ae (VV _ HB.o axN.o); replace wJ := ae Cn; clear Cn VU VV; replace dz := ae (aV dz.o); replace wJ := ae (aV wJ.o); replace HB := ae (di HB.o); refine ji (n := 54) (S := fun w' => w'.cell? ⟨Qm, 0, none⟩ = some (.slice NL ((bu aH mr).f0).length NM) ∧ w'.cell? ⟨Qm, 1, none⟩ = some (.int .i64 ((bu aH mr).f1)) ∧ w'.cell? ⟨fP, 0, none⟩ = some (.int .i64 aU) ∧ w'.cell? ⟨fP, 1, none⟩ = some (.slice dB ay.length dh) ∧ w'.cell? ⟨fP, 2, none⟩ = some (.slice (some KI) aH.length dS) ∧ w'.cell? ⟨fP, 3, none⟩ = some (.int .i64 bq) ∧ w'.cell? ⟨fP, 4, none⟩ = some (.slice eu aM.length dW) ∧ w'.cell? ⟨fP, 5, none⟩ = some (.slice eD aN.length ed)) (ds := []) (tf 0 54) (by kernel_rfl) rfl rfl (fM wJ.o (kH dz.o)) (fun hHeld => ?_); refine eZ aj.abU aj.RD (fun aG fH => ?_); generalize wv2.drew = wv3 at dz wJ HB hHeld ⊢; refine bF aG (h := ?_); refine gI aG fH hHeld (h := ?_); refine ny (i := 2) (N := some 128) (tf 3 51) rfl rfl (fZ aG.o (by kernel_rfl)) (by decide) (fun K hK => ?_); refine EZ Try.func48 #[.slice NL ((bu aH mr).f0).length NM] (h := ?_); with_reducible refine (fD.calls k3 _ _ ((bu aH mr).f0) akS _ ?aI ?aJ axL.o).mono ?_
         (case aI => exact fT); (case aJ => exact Sg.o); rintro e w' ⟨rfl, ⟨nd, rfl⟩⟩; refine ⟨_, rfl, ?_⟩; refine hK.out _ _ (fM wJ.o (kH dz.o)) (fun hHeld => ?_); clear hK K; refine mo (some 128) (h := ?_); by_cases aeZ : akS = true
         ·subst aeZ
          rw [if_pos rfl] at H; replace H := ni H; obtain ⟨aeW, axO, H⟩ := H; iterate 2 (refine bF aG (h := ?_))
          refine gY aG 6 (some 132) (tb 54 95) (h := ?_); refine mG aG fH hHeld 5 (some 131) (tf 7 47) (h := ?_); refine gI aG fH hHeld (h := ?_); refine ny (i := 8) (N := some 134) (tf 9 45) rfl rfl (fZ aG.o (by kernel_rfl)) (by decide) (fun K hK => ?_); refine EZ Try.func51 #[.agg #[.int .i64 aU, .slice dB ay.length dh, .slice (some KI) aH.length dS, .int .i64 bq, .slice eu aM.length dW, .slice eD aN.length ed], .slice NL ((bu aH mr).f0).length NM] (h := ?_); with_reducible refine (jD.calls k3 aU _ _ ay _ _ aH bq _ _ aM _ _ aN _ _ ((bu aH mr).f0) aeW _ ?aI ?aJ ?bL ?bN ?iq ?iw ?jg ?jh ?um ?p_ axO.o).mono ?_
          (case aI => exact fT); (case aJ => exact iM.o); (case bL => exact fT); (case bN => exact j5.o); (case iq => exact fT); (case iw => exact kQ.o); (case jg => exact fT); (case jh => exact lH.o); (case um => exact fT); (case p_ => exact Sg.o); rintro e wv4 ⟨rfl, hb⟩; refine ⟨_, rfl, ?_⟩; replace dz := ae (fo dz hb); replace wJ := ae (fo wJ hb); replace HB := eU hb; clear hb; refine hK.out _ _ (fM wJ.o (kH dz.o)) (fun hHeld => ?_); clear hK K; refine mo (some 134) (h := ?_); by_cases ae0 : aeW ≥ 0
          ·rw [if_pos ae0] at H
           have arP : decide (0 ≤ aeW) = true := decide_eq_true ae0; clear ae0; obtain rfl := Option.some.inj H; iterate 3 (refine bF aG (h := ?_))
           refine dJ aG 6 [some _, some _, some _, some _, some _, some _] (h := ?_); iterate 2 (refine bF aG (h := ?_))
           refine dJ aG 3 [some _, some _, some _] (h := ?_); iterate 2 (refine bF aG (h := ?_))
           refine dJ aG 5 [some _, some _, some _, some _, some _] (h := ?_); iterate 2 (refine bF aG (h := ?_))
           refine dJ aG 5 [some _, some _, some _, some _, some _] (h := ?_); iterate 2 (refine bF aG (h := ?_))
           refine dJ aG 14 [some _, some _, some _, some _, some _, some _, some _, some _, some _, some _, some _, some _, some _, some _] (h := ?_); refine bF aG (h := ?_); refine fu (bV aG.o (by kernel_rfl)) ?_; try go_wp2
           go_ret; exact ⟨ku, bG⟩
          rw [if_neg ae0] at H; have arP : decide (0 ≤ aeW) = false := decide_eq_false ae0; clear ae0; replace H := ni H; obtain ⟨VT, axP, H⟩ := H; iterate 3 (refine bF aG (h := ?_))
          refine gY aG 13 (some 139) (tb 54 12287) (h := ?_); refine gY aG 16 (some 142) (tb 54 77823) (h := ?_); refine mG aG fH hHeld 12 (some 138) (tb 54 81919) (h := ?_); refine mG aG fH hHeld 14 (some 140) (tb 54 98303) (h := ?_); refine ny (i := 15) (N := some 141) (tf 17 37) rfl rfl (fZ aG.o (by kernel_rfl)) (by decide) (fun K hK => ?_); refine EZ Try.func52 #[.agg #[.int .i64 aU, .slice dB ay.length dh, .slice (some KI) aH.length dS, .int .i64 bq, .slice eu aM.length dW, .slice eD aN.length ed], .slice NL ((bu aH mr).f0).length NM] (h := ?_); with_reducible refine (iU.calls k3 aU _ _ ay _ _ aH bq _ _ aM _ _ aN _ _ ((bu aH mr).f0) VT _ ?aI ?aJ ?bL ?bN ?iq ?iw ?jg ?jh ?um ?p_ axP.o).mono ?_
          (case aI => exact fT); (case aJ => exact iM.o); (case bL => exact fT); (case bN => exact j5.o); (case iq => exact fT); (case iw => exact kQ.o); (case jg => exact fT); (case jh => exact lH.o); (case um => exact fT); (case p_ => exact Sg.o); rintro e wv5 ⟨rfl, hb⟩; refine ⟨_, rfl, ?_⟩; replace dz := ae (fo dz hb); replace wJ := ae (fo wJ hb); replace HB := eU hb; clear hb; refine hK.out _ _ (fM wJ.o (kH dz.o)) (fun hHeld => ?_); clear hK K; refine mo (some 141) (h := ?_); by_cases Y3 : VT = mr
          ·rw [if_pos Y3] at H
           have arQ : (VT == mr) = true := beq_iff_eq.mpr Y3; have arR : (VT != mr) = false := bne_eq_false_iff_eq.mpr Y3; clear Y3; iterate 2 (refine bF aG (h := ?_))
           by_cases c138 : ((bu aH mr).f1) < 1
           ·rw [if_pos c138] at H
            have arS : decide (((bu aH mr).f1) < 1) = true := decide_eq_true c138; clear c138; obtain rfl := Option.some.inj H; iterate 2 (refine bF aG (h := ?_))
            refine gI aG fH hHeld (h := ?_); iterate 3 (refine bF aG (h := ?_))
            refine dJ aG 5 [some _, some _, some _, some _, some _] (h := ?_); iterate 2 (refine bF aG (h := ?_))
            refine dJ aG 5 [some _, some _, some _, some _, some _] (h := ?_); iterate 2 (refine bF aG (h := ?_))
            refine dJ aG 14 [some _, some _, some _, some _, some _, some _, some _, some _, some _, some _, some _, some _, some _, some _] (h := ?_); refine bF aG (h := ?_); refine fu (bV aG.o (by kernel_rfl)) ?_; try go_wp2
            go_ret; exact ⟨ku, bG⟩
           rw [if_neg c138] at H; have arS : decide (((bu aH mr).f1) < 1) = false := decide_eq_false c138; clear c138; iterate 2 (refine bF aG (h := ?_))
           refine gI aG fH hHeld (h := ?_); iterate 4 (refine bF aG (h := ?_))
           by_cases ae1 : ((bu aH mr).f1) > aU
           ·rw [if_pos ae1] at H
            have arT : decide (aU < ((bu aH mr).f1)) = true := decide_eq_true ae1; clear ae1; obtain rfl := Option.some.inj H; refine gY aG 27 (some 153) (tb 54 201326591) (h := ?_); refine mG aG fH hHeld 26 (some 152) (tf 28 26) (h := ?_); refine gI aG fH hHeld (h := ?_); iterate 3 (refine bF aG (h := ?_))
            refine dJ aG 5 [some _, some _, some _, some _, some _] (h := ?_); iterate 2 (refine bF aG (h := ?_))
            refine dJ aG 14 [some _, some _, some _, some _, some _, some _, some _, some _, some _, some _, some _, some _, some _, some _] (h := ?_); refine bF aG (h := ?_); refine fu (bV aG.o (by kernel_rfl)) ?_; try go_wp2
            go_ret; exact ⟨ku, bG⟩
           rw [if_neg ae1] at H; have arT : decide (aU < ((bu aH mr).f1)) = false := decide_eq_false ae1; clear ae1; refine gY aG 27 (some 153) (tb 54 201326591) (h := ?_); refine mG aG fH hHeld 26 (some 152) (tf 28 26) (h := ?_); refine gI aG fH hHeld (h := ?_); iterate 4 (refine bF aG (h := ?_))
           by_cases c156 : ((bu aH mr).f1) < bq
           ·rw [if_pos c156] at H
            have arU : decide (((bu aH mr).f1) < bq) = true := decide_eq_true c156; clear c156; obtain rfl := Option.some.inj H; refine gY aG 34 (some 160) (tb 54 25769803775) (h := ?_); refine mG aG fH hHeld 33 (some 159) (tf 35 19) (h := ?_); refine gI aG fH hHeld (h := ?_); iterate 3 (refine bF aG (h := ?_))
            refine dJ aG 14 [some _, some _, some _, some _, some _, some _, some _, some _, some _, some _, some _, some _, some _, some _] (h := ?_); refine bF aG (h := ?_); refine fu (bV aG.o (by kernel_rfl)) ?_; try go_wp2
            go_ret; exact ⟨ku, bG⟩
           rw [if_neg c156] at H; have arU : decide (((bu aH mr).f1) < bq) = false := decide_eq_false c156; clear c156; refine gY aG 34 (some 160) (tb 54 25769803775) (h := ?_); refine mG aG fH hHeld 33 (some 159) (tf 35 19) (h := ?_); refine gI aG fH hHeld (h := ?_); by_cases ae2 : mr > 0
           ·rw [if_pos ae2] at H
            have arV : decide (0 < mr) = true := decide_eq_true ae2; clear ae2; obtain ⟨uo, EJ⟩ : ∃ j_ : Int, (wrap64 (mr - 1)) = j_ := ⟨_, rfl⟩; replace H : (if 0 ≤ (uo) then (if (uo) < (aH.length : Int) then (if ((bu aH (uo)).f1) > ((bu aH mr).f1) then (some false) else (aj.l1 k3 (wrap64 (mr + 1)) aU ay aH bq aM aN)) else (none)) else (none)) = some r := by first | (rw [EJ] at H; exact H) | (simp only [EJ] at H ⊢; exact H)
            (try rw [EJ] at axL); (try rw [EJ] at axO); (try rw [EJ] at axP); have aBq : (IntKind.i64.wrap (mr - 1)) = uo := (nR _).trans EJ; by_cases c167 : 0 ≤ (uo)
            ·rw [if_pos c167] at H
             have aEu : decide (0 ≤ (uo)) = true := decide_eq_true c167; clear c167; by_cases c168 : (uo) < (aH.length : Int)
             ·rw [if_pos c168] at H
              have aEv : decide ((uo) < (aH.length : Int)) = true := decide_eq_true c168; clear c168; have arW : 0 ≤ ((uo) : Int) := od; have arX : (uo) < (aH.length : Int) := od; obtain ⟨axQ, arY, arZ, e257, Si, Sj, acf, acg⟩ := tV oV.o (uo) arW arX; have alb := Sj; have alc := Si; obtain rfl : KI = axQ := (by injection e257); replace Si := hxb HB Si; replace Sj := hxb HB Sj; have aBr := ae acg; have aBs := ae acf; clear acg acf; replace arW := eq_true arW; replace arX := eq_true arX; refine Ce (S' := fun w' => w'.cell? ⟨Qm, 0, none⟩ = some (.slice NL ((bu aH mr).f0).length NM) ∧ w'.cell? ⟨Qm, 1, none⟩ = some (.int .i64 ((bu aH mr).f1)) ∧ w'.cell? ⟨fP, 0, none⟩ = some (.int .i64 aU) ∧ w'.cell? ⟨fP, 1, none⟩ = some (.slice dB ay.length dh) ∧ w'.cell? ⟨fP, 2, none⟩ = some (.slice (some KI) aH.length dS) ∧ w'.cell? ⟨fP, 3, none⟩ = some (.int .i64 bq) ∧ w'.cell? ⟨fP, 4, none⟩ = some (.slice eu aM.length dW) ∧ w'.cell? ⟨fP, 5, none⟩ = some (.slice eD aN.length ed) ∧ w'.cell? (KI.add (((uo)).toNat * 2)) = some (.slice arY ((bu aH (uo)).f0).length arZ) ∧ w'.cell? ⟨(KI.add (((uo)).toNat * 2)).block, (KI.add (((uo)).toNat * 2)).off + 1, none⟩ = some (.int .i64 ((bu aH (uo)).f1))) (fun _ h_ => ⟨h_.1, h_.2.1, h_.2.2.1, h_.2.2.2.1, h_.2.2.2.2.1, h_.2.2.2.2.2.1, h_.2.2.2.2.2.2.1, h_.2.2.2.2.2.2.2.1⟩) (fM wJ.o (a_ dz.o ⟨(hxb HB alc :), (hxb HB alb :)⟩)) (h := ?_); clear hHeld; intro hHeld; iterate 7 (refine bF aG (h := ?_))
              refine gY aG 44 (some 170) (tb 54 26388279066623) (h := ?_); refine gY aG 45 (some 171) (tb 54 61572651155455) (h := ?_); refine gY aG 49 (some 175) (tb 54 624522604576767) (h := ?_); refine mG aG fH hHeld 43 (some 169) (tb 54 633318697598975) (h := ?_); refine gY aG 46 (some 172) (tb 54 703687441776639) (h := ?_); refine gY aG 47 (some 173) (tb 54 844424930131967) (h := ?_); refine mG aG fH hHeld 48 (some 174) (tf 50 4) (h := ?_); by_cases ae3 : ((bu aH (uo)).f1) > ((bu aH mr).f1)
              ·rw [if_pos ae3] at H
               have ar0 : decide (((bu aH mr).f1) < ((bu aH (uo)).f1)) = true := decide_eq_true ae3; clear ae3; obtain rfl := Option.some.inj H; refine gI aG fH hHeld (h := ?_); iterate 3 (refine bF aG (h := ?_))
               refine fu (bV aG.o (by kernel_rfl)) ?_; try go_wp2
               go_ret; exact ⟨by first | rfl | (simp [bW, bX] <;> rfl) | (simp only [← EJ]; first | rfl | (simp [bW, bX] <;> rfl)) | (simp [*, bW, bX] <;> rfl), bG⟩
              rw [if_neg ae3] at H; have ar0 : decide (((bu aH mr).f1) < ((bu aH (uo)).f1)) = false := decide_eq_false ae3; clear ae3; have H' := ae H; clear H; refine gI aG fH hHeld (h := ?_); iterate 3 (refine bF aG (h := ?_))
              refine fu (bV aG.o (by kernel_rfl)) ?_; try go_wp2
              go_roundg k3
              case measure => have := yS.o; have := uQ.o; have := BP.o; omega
              case rel => exact ⟨(wrap64 (mr + 1)), ky, H', ⟨by have := yS.o; have := uQ.o; have := BP.o; omega⟩, ⟨gu dz⟩, ⟨bG⟩⟩
             rw [if_neg c168] at H; exact absurd H (by simp)
            rw [if_neg c167] at H; exact absurd H (by simp)
           rw [if_neg ae2] at H; have arV : decide (0 < mr) = false := decide_eq_false ae2; clear ae2; have H' := ae H; clear H; iterate 6 (refine bF aG (h := ?_))
           refine dJ aG 10 [some _, some _, some _, some _, some _, some _, some _, some _, some _, some _] (h := ?_); iterate 2 (refine bF aG (h := ?_))
           refine fu (bV aG.o (by kernel_rfl)) ?_; try go_wp2
           go_roundg k3
           case measure => have := yS.o; have := uQ.o; have := BP.o; omega
           case rel => exact ⟨(wrap64 (mr + 1)), ky, H', ⟨by have := yS.o; have := uQ.o; have := BP.o; omega⟩, ⟨gu dz⟩, ⟨bG⟩⟩
          rw [if_neg Y3] at H; have arQ : (VT == mr) = false := beq_eq_false_iff_ne.mpr Y3; have arR : (VT != mr) = true := bne_iff_ne.mpr Y3; obtain rfl := Option.some.inj H; iterate 3 (refine bF aG (h := ?_))
          refine dJ aG 3 [some _, some _, some _] (h := ?_); iterate 2 (refine bF aG (h := ?_))
          refine dJ aG 5 [some _, some _, some _, some _, some _] (h := ?_); iterate 2 (refine bF aG (h := ?_))
          refine dJ aG 5 [some _, some _, some _, some _, some _] (h := ?_); iterate 2 (refine bF aG (h := ?_))
          refine dJ aG 14 [some _, some _, some _, some _, some _, some _, some _, some _, some _, some _, some _, some _, some _, some _] (h := ?_); refine bF aG (h := ?_); refine fu (bV aG.o (by kernel_rfl)) ?_; try go_wp2
          go_ret; exact ⟨ku, bG⟩
         replace aeZ := Bool.eq_false_iff.mpr aeZ; subst aeZ; rw [if_neg (show ¬ (false = true) by decide)] at H; obtain rfl := Option.some.inj H; iterate 2 (refine bF aG (h := ?_))
         refine dJ aG 5 [some _, some _, some _, some _, some _] (h := ?_); iterate 2 (refine bF aG (h := ?_))
         refine dJ aG 6 [some _, some _, some _, some _, some _, some _] (h := ?_); iterate 2 (refine bF aG (h := ?_))
         refine dJ aG 3 [some _, some _, some _] (h := ?_); iterate 2 (refine bF aG (h := ?_))
         refine dJ aG 5 [some _, some _, some _, some _, some _] (h := ?_); iterate 2 (refine bF aG (h := ?_))
         refine dJ aG 5 [some _, some _, some _, some _, some _] (h := ?_); iterate 2 (refine bF aG (h := ?_))
         refine dJ aG 14 [some _, some _, some _, some _, some _, some _, some _, some _, some _, some _, some _, some _, some _, some _] (h := ?_); refine bF aG (h := ?_); refine fu (bV aG.o (by kernel_rfl)) ?_; try go_wp2
         go_ret; exact ⟨ku, bG⟩
        rw [if_neg c124] at H; exact absurd H (by simp)
       rw [if_neg Y2] at H; have ahs : decide (mr < (aH.length : Int)) = false := decide_eq_false Y2; clear Y2; have H' := ae H; clear H; have aEw := a_ dz.o trivial; have aEx := dA dz.o; go_wp2; go_loopg [7] k3 (fun kq v7 w' => ∃ (gZ : Int), v7 = .int .i64 gZ ∧ ai (aj.l2 kq gZ aU ay aH bq aM aN = some r) ∧ ai (kq ≤ k3) ∧ ai (w'.heap[fP]? = some (.cells #[.int .i64 aU, (.slice dB ay.length dh), (.slice eO aH.length dS), .int .i64 bq, (.slice eu aM.length dW), (.slice eD aN.length ed)] 37 (0, 0))) ∧ ai (Below w.heap.size w w'))
       case atStart => exact ⟨(0), ky, H', ⟨Nat.le_refl _⟩, ⟨gu dz⟩, ⟨bG⟩⟩
       case round => as_aux_lemma =>
        clear H'; try clear c1; try clear c2; try clear p2; try clear q2; try clear hx2; try clear c4; try clear c5; try clear c12; try clear c20; try clear c25; try clear p25; try clear q25; try clear hx25; try clear c48; try clear c52; try clear Y2; try clear ahs; try clear c124; try clear aeZ; try clear c204; try clear C202; try clear C205; try clear aEw; try clear F202; try clear F205; try clear aEx; try clear Sc; try clear Sd; try clear ak'; try clear ala
        obtain ⟨gZ, rfl, HA, VW, dz, HB⟩ := hrel; cases gk with
        | zero => exact absurd HA.o (by simp [aj.l2])
        | succ k4 =>
         have H := HA.o; clear HA; simp only [aj.l2] at H; by_cases Y4 : gZ < (aM.length : Int)
         ·rw [if_pos Y4] at H
          have aht : decide (gZ < (aM.length : Int)) = true := decide_eq_true Y4; clear Y4; by_cases c210 : 0 ≤ gZ
          ·rw [if_pos c210] at H
           have aEy : decide (0 ≤ gZ) = true := decide_eq_true c210; clear c210; by_cases ae4 : ((bS aM gZ).f0) < 1
           ·rw [if_pos ae4] at H
            have ar2 : decide (((bS aM gZ).f0) < 1) = true := decide_eq_true ae4; clear ae4
            as_aux_lemma =>
             obtain rfl := Option.some.inj H; have C212 := a_ dz.o trivial; have F212 := dA dz.o; try go_wp2
             replace dz := ae (aV dz.o); replace HB := ae (di HB.o); have DV : 0 ≤ (gZ : Int) := od; have DW : gZ < (aM.length : Int) := od; obtain ⟨lC, e258, mJ, mK⟩ := qJ nQ.o gZ DV DW; have AX := mK; have AY := mJ; cases e258; replace mJ := hxb HB mJ; replace mK := hxb HB mK; replace DV := eq_true DV; replace DW := eq_true DW; refine ji (n := 38) (S := fun w' => w'.cell? ⟨fP, 0, none⟩ = some (.int .i64 aU) ∧ w'.cell? ⟨fP, 1, none⟩ = some (.slice dB ay.length dh) ∧ w'.cell? ⟨fP, 2, none⟩ = some (.slice eO aH.length dS) ∧ w'.cell? ⟨fP, 3, none⟩ = some (.int .i64 bq) ∧ w'.cell? ⟨fP, 4, none⟩ = some (.slice (some lC) aM.length dW) ∧ w'.cell? ⟨fP, 5, none⟩ = some (.slice eD aN.length ed) ∧ w'.cell? (lC.add ((gZ).toNat * 2)) = some (.int .i64 ((bS aM gZ).f0)) ∧ w'.cell? ⟨(lC.add ((gZ).toNat * 2)).block, (lC.add ((gZ).toNat * 2)).off + 1, none⟩ = some (.bool ((bS aM gZ).f1))) (ds := []) (tf 0 38) (by kernel_rfl) rfl rfl (a_ dz.o ⟨(hxb HB AY :), (hxb HB AX :)⟩) (fun hHeld => ?_); refine eZ aj.G7 aj.AV (fun aG fH => ?_); generalize wr.drew = w213 at dz HB mJ mK hHeld ⊢; refine bF aG (h := ?_); refine gY aG 2 (some 189) (tb 38 5) (h := ?_); refine mG aG fH hHeld 1 (some 188) (tf 3 35) (h := ?_); iterate 2 (refine bF aG (h := ?_))
             refine gI aG fH hHeld (h := ?_); iterate 2 (refine bF aG (h := ?_))
             refine dJ aG 9 [some _, some _, some _, some _, some _, some _, some _, some _, some _] (h := ?_); iterate 2 (refine bF aG (h := ?_))
             refine dJ aG 18 [some _, some _, some _, some _, some _, some _, some _, some _, some _, some _, some _, some _, some _, some _, some _, some _, some _, some _] (h := ?_); refine bF aG (h := ?_); refine fu (bV aG.o (by kernel_rfl)) ?_; try go_wp2
             go_ret; exact ⟨ku, bG⟩
           rw [if_neg ae4] at H; have ar2 : decide (((bS aM gZ).f0) < 1) = false := decide_eq_false ae4; clear ae4; by_cases ae5 : ((bS aM gZ).f0) > aU
           ·rw [if_pos ae5] at H
            have ar3 : decide (aU < ((bS aM gZ).f0)) = true := decide_eq_true ae5; clear ae5
            as_aux_lemma =>
             obtain rfl := Option.some.inj H; have C215 := a_ dz.o trivial; have F215 := dA dz.o; try go_wp2
             replace dz := ae (aV dz.o); replace HB := ae (di HB.o); have DV : 0 ≤ (gZ : Int) := od; have DW : gZ < (aM.length : Int) := od; obtain ⟨lC, e258, mJ, mK⟩ := qJ nQ.o gZ DV DW; have AX := mK; have AY := mJ; cases e258; replace mJ := hxb HB mJ; replace mK := hxb HB mK; replace DV := eq_true DV; replace DW := eq_true DW; have K6 : 0 ≤ (gZ : Int) := od; have K7 : gZ < (aM.length : Int) := od; obtain ⟨VX, e259, qa, qb⟩ := qJ nQ.o gZ K6 K7; have G9 := qb; have G_ := qa; obtain rfl : lC = VX := (by injection e259); replace qa := hxb HB qa; replace qb := hxb HB qb; replace K6 := eq_true K6; replace K7 := eq_true K7; refine ji (n := 38) (S := fun w' => w'.cell? ⟨fP, 0, none⟩ = some (.int .i64 aU) ∧ w'.cell? ⟨fP, 1, none⟩ = some (.slice dB ay.length dh) ∧ w'.cell? ⟨fP, 2, none⟩ = some (.slice eO aH.length dS) ∧ w'.cell? ⟨fP, 3, none⟩ = some (.int .i64 bq) ∧ w'.cell? ⟨fP, 4, none⟩ = some (.slice (some lC) aM.length dW) ∧ w'.cell? ⟨fP, 5, none⟩ = some (.slice eD aN.length ed) ∧ w'.cell? (lC.add ((gZ).toNat * 2)) = some (.int .i64 ((bS aM gZ).f0)) ∧ w'.cell? ⟨(lC.add ((gZ).toNat * 2)).block, (lC.add ((gZ).toNat * 2)).off + 1, none⟩ = some (.bool ((bS aM gZ).f1)) ∧ w'.cell? (lC.add ((gZ).toNat * 2)) = some (.int .i64 ((bS aM gZ).f0)) ∧ w'.cell? ⟨(lC.add ((gZ).toNat * 2)).block, (lC.add ((gZ).toNat * 2)).off + 1, none⟩ = some (.bool ((bS aM gZ).f1))) (ds := []) (tf 0 38) (by kernel_rfl) rfl rfl (a_ dz.o ⟨(hxb HB AY :), (hxb HB AX :), (hxb HB G_ :), (hxb HB G9 :)⟩) (fun hHeld => ?_); refine eZ aj.G7 aj.AV (fun aG fH => ?_); generalize wr.drew = w216 at dz HB mJ mK qa qb hHeld ⊢; refine bF aG (h := ?_); refine gY aG 2 (some 189) (tb 38 5) (h := ?_); refine mG aG fH hHeld 1 (some 188) (tf 3 35) (h := ?_); iterate 2 (refine bF aG (h := ?_))
             refine gI aG fH hHeld (h := ?_); iterate 3 (refine bF aG (h := ?_))
             refine gY aG 10 (some 197) (tb 38 1535) (h := ?_); refine gY aG 14 (some 201) (tb 38 17919) (h := ?_); refine mG aG fH hHeld 9 (some 196) (tb 38 18431) (h := ?_); refine gY aG 11 (some 198) (tb 38 20479) (h := ?_); refine gY aG 12 (some 199) (tb 38 24575) (h := ?_); refine mG aG fH hHeld 13 (some 200) (tf 15 23) (h := ?_); refine gI aG fH hHeld (h := ?_); iterate 3 (refine bF aG (h := ?_))
             refine dJ aG 18 [some _, some _, some _, some _, some _, some _, some _, some _, some _, some _, some _, some _, some _, some _, some _, some _, some _, some _] (h := ?_); refine bF aG (h := ?_); refine fu (bV aG.o (by kernel_rfl)) ?_; try go_wp2
             go_ret; exact ⟨ku, bG⟩
           rw [if_neg ae5] at H; have ar3 : decide (aU < ((bS aM gZ).f0)) = false := decide_eq_false ae5; clear ae5; by_cases Y5 : gZ > 0
           ·rw [if_pos Y5] at H
            have ahu : decide (0 < gZ) = true := decide_eq_true Y5; clear Y5; obtain ⟨uq, Sk⟩ : ∃ j_ : Int, (wrap64 (gZ - 1)) = j_ := ⟨_, rfl⟩; replace H : (if 0 ≤ (uq) then (if (uq) < (aM.length : Int) then (if ((bS aM (uq)).f0) ≥ ((bS aM gZ).f0) then (some false) else (aj.l2 k4 (wrap64 (gZ + 1)) aU ay aH bq aM aN)) else (none)) else (none)) = some r := by first | (rw [Sk] at H; exact H) | (simp only [Sk] at H ⊢; exact H)
            have aBt : (IntKind.i64.wrap (gZ - 1)) = uq := (nR _).trans Sk; by_cases ahv : 0 ≤ (uq)
            ·rw [if_pos ahv] at H
             have aEz : decide (0 ≤ (uq)) = true := decide_eq_true ahv; clear ahv; by_cases ahw : (uq) < (aM.length : Int)
             ·rw [if_pos ahw] at H
              have aEA : decide ((uq) < (aM.length : Int)) = true := decide_eq_true ahw; clear ahw; obtain ⟨RF, RG, RH, RI, RJ, RL, -⟩ := a_ dz.o trivial; obtain ⟨RN, RO, RP, RQ, RS, RU, -⟩ := dA dz.o; try go_wp2
              replace dz := ae (aV dz.o); replace HB := ae (di HB.o); have DV : 0 ≤ (gZ : Int) := od; have DW : gZ < (aM.length : Int) := od; obtain ⟨lC, e258, mJ, mK⟩ := qJ nQ.o gZ DV DW; have AX := mK; have AY := mJ; cases e258; replace mJ := hxb HB mJ; replace mK := hxb HB mK; replace DV := eq_true DV; replace DW := eq_true DW; have K6 : 0 ≤ (gZ : Int) := od; have K7 : gZ < (aM.length : Int) := od; obtain ⟨VX, e259, qa, qb⟩ := qJ nQ.o gZ K6 K7; have G9 := qb; have G_ := qa; obtain rfl : lC = VX := (by injection e259); replace qa := hxb HB qa; replace qb := hxb HB qb; replace K6 := eq_true K6; replace K7 := eq_true K7; have ar4 : 0 ≤ (gZ : Int) := od; have ar5 : gZ < (aM.length : Int) := od; obtain ⟨axR, e261, Lp, Lr⟩ := qJ nQ.o gZ ar4 ar5; have ald := Lr; have ale := Lp; obtain rfl : lC = axR := (by injection e261); replace Lp := hxb HB Lp; replace Lr := hxb HB Lr; replace ar4 := eq_true ar4; replace ar5 := eq_true ar5; have ar6 : 0 ≤ ((uq) : Int) := od; have ar7 : (uq) < (aM.length : Int) := od; obtain ⟨axS, e260, Ls, Lt⟩ := qJ nQ.o (uq) ar6 ar7; have alf := Lt; have alg := Ls; obtain rfl : lC = axS := (by injection e260); replace Ls := hxb HB Ls; replace Lt := hxb HB Lt; replace ar6 := eq_true ar6; replace ar7 := eq_true ar7; refine ji (n := 38) (S := fun w' => w'.cell? ⟨fP, 0, none⟩ = some (.int .i64 aU) ∧ w'.cell? ⟨fP, 1, none⟩ = some (.slice dB ay.length dh) ∧ w'.cell? ⟨fP, 2, none⟩ = some (.slice eO aH.length dS) ∧ w'.cell? ⟨fP, 3, none⟩ = some (.int .i64 bq) ∧ w'.cell? ⟨fP, 4, none⟩ = some (.slice (some lC) aM.length dW) ∧ w'.cell? ⟨fP, 5, none⟩ = some (.slice eD aN.length ed) ∧ w'.cell? (lC.add ((gZ).toNat * 2)) = some (.int .i64 ((bS aM gZ).f0)) ∧ w'.cell? ⟨(lC.add ((gZ).toNat * 2)).block, (lC.add ((gZ).toNat * 2)).off + 1, none⟩ = some (.bool ((bS aM gZ).f1)) ∧ w'.cell? (lC.add ((gZ).toNat * 2)) = some (.int .i64 ((bS aM gZ).f0)) ∧ w'.cell? ⟨(lC.add ((gZ).toNat * 2)).block, (lC.add ((gZ).toNat * 2)).off + 1, none⟩ = some (.bool ((bS aM gZ).f1)) ∧ w'.cell? (lC.add (((uq)).toNat * 2)) = some (.int .i64 ((bS aM (uq)).f0)) ∧ w'.cell? ⟨(lC.add (((uq)).toNat * 2)).block, (lC.add (((uq)).toNat * 2)).off + 1, none⟩ = some (.bool ((bS aM (uq)).f1)) ∧ w'.cell? (lC.add ((gZ).toNat * 2)) = some (.int .i64 ((bS aM gZ).f0)) ∧ w'.cell? ⟨(lC.add ((gZ).toNat * 2)).block, (lC.add ((gZ).toNat * 2)).off + 1, none⟩ = some (.bool ((bS aM gZ).f1))) (ds := []) (tf 0 38) (by kernel_rfl) rfl rfl (a_ dz.o ⟨(hxb HB AY :), (hxb HB AX :), (hxb HB G_ :), (hxb HB G9 :), (hxb HB alg :), (hxb HB alf :), (hxb HB ale :), (hxb HB ald :)⟩) (fun hHeld => ?_); refine eZ aj.G7 aj.AV (fun aG fH => ?_); generalize wr.drew = wv1 at dz HB mJ mK qa qb Ls Lt Lp Lr hHeld ⊢; refine bF aG (h := ?_); refine gY aG 2 (some 189) (tb 38 5) (h := ?_); refine mG aG fH hHeld 1 (some 188) (tf 3 35) (h := ?_); iterate 2 (refine bF aG (h := ?_))
              refine gI aG fH hHeld (h := ?_); iterate 3 (refine bF aG (h := ?_))
              refine gY aG 10 (some 197) (tb 38 1535) (h := ?_); refine gY aG 14 (some 201) (tb 38 17919) (h := ?_); refine mG aG fH hHeld 9 (some 196) (tb 38 18431) (h := ?_); refine gY aG 11 (some 198) (tb 38 20479) (h := ?_); refine gY aG 12 (some 199) (tb 38 24575) (h := ?_); refine mG aG fH hHeld 13 (some 200) (tf 15 23) (h := ?_); refine gI aG fH hHeld (h := ?_); iterate 7 (refine bF aG (h := ?_))
              refine gY aG 24 (some 211) (tb 38 25165823) (h := ?_); refine gY aG 25 (some 212) (tb 38 58720255) (h := ?_); refine gY aG 29 (some 216) (tb 38 595591167) (h := ?_); refine gY aG 31 (some 218) (tb 38 2743074815) (h := ?_); refine mG aG fH hHeld 23 (some 210) (tb 38 2751463423) (h := ?_); refine gY aG 26 (some 213) (tb 38 2818572287) (h := ?_); refine gY aG 27 (some 214) (tb 38 2952790015) (h := ?_); refine mG aG fH hHeld 28 (some 215) (tb 38 3221225471) (h := ?_); refine mG aG fH hHeld 30 (some 217) (tf 32 6) (h := ?_); iterate 2 (refine bF aG (h := ?_))
              by_cases ae6 : ((bS aM (uq)).f0) ≥ ((bS aM gZ).f0)
              ·rw [if_pos ae6] at H
               have ar8 : decide (((bS aM gZ).f0) ≤ ((bS aM (uq)).f0)) = true := decide_eq_true ae6; clear ae6; obtain rfl := Option.some.inj H; refine gI aG fH hHeld (h := ?_); iterate 3 (refine bF aG (h := ?_))
               refine fu (bV aG.o (by kernel_rfl)) ?_; try go_wp2
               go_ret; exact ⟨by first | rfl | (simp [bW, bX] <;> rfl) | (simp only [← Sk]; first | rfl | (simp [bW, bX] <;> rfl)) | (simp [*, bW, bX] <;> rfl), bG⟩
              rw [if_neg ae6] at H; have ar8 : decide (((bS aM gZ).f0) ≤ ((bS aM (uq)).f0)) = false := decide_eq_false ae6; clear ae6; have H' := ae H; clear H; refine gI aG fH hHeld (h := ?_); iterate 3 (refine bF aG (h := ?_))
              refine fu (bV aG.o (by kernel_rfl)) ?_; try go_wp2
              go_roundg k4
              case measure => have := yS.o; have := uQ.o; have := BP.o; have := VW.o; omega
              case rel => exact ⟨(wrap64 (gZ + 1)), ky, H', ⟨by have := yS.o; have := uQ.o; have := BP.o; have := VW.o; omega⟩, ⟨gu dz⟩, ⟨bG⟩⟩
             rw [if_neg ahw] at H; exact absurd H (by simp)
            rw [if_neg ahv] at H; exact absurd H (by simp)
           rw [if_neg Y5] at H; have ahu : decide (0 < gZ) = false := decide_eq_false Y5; clear Y5
           as_aux_lemma =>
            have H' := ae H; clear H; have aEB := a_ dz.o trivial; have aEC := dA dz.o; try go_wp2
            replace dz := ae (aV dz.o); replace HB := ae (di HB.o); have DV : 0 ≤ (gZ : Int) := od; have DW : gZ < (aM.length : Int) := od; obtain ⟨lC, e258, mJ, mK⟩ := qJ nQ.o gZ DV DW; have AX := mK; have AY := mJ; cases e258; replace mJ := hxb HB mJ; replace mK := hxb HB mK; replace DV := eq_true DV; replace DW := eq_true DW; have K6 : 0 ≤ (gZ : Int) := od; have K7 : gZ < (aM.length : Int) := od; obtain ⟨VX, e259, qa, qb⟩ := qJ nQ.o gZ K6 K7; have G9 := qb; have G_ := qa; obtain rfl : lC = VX := (by injection e259); replace qa := hxb HB qa; replace qb := hxb HB qb; replace K6 := eq_true K6; replace K7 := eq_true K7; refine ji (n := 38) (S := fun w' => w'.cell? ⟨fP, 0, none⟩ = some (.int .i64 aU) ∧ w'.cell? ⟨fP, 1, none⟩ = some (.slice dB ay.length dh) ∧ w'.cell? ⟨fP, 2, none⟩ = some (.slice eO aH.length dS) ∧ w'.cell? ⟨fP, 3, none⟩ = some (.int .i64 bq) ∧ w'.cell? ⟨fP, 4, none⟩ = some (.slice (some lC) aM.length dW) ∧ w'.cell? ⟨fP, 5, none⟩ = some (.slice eD aN.length ed) ∧ w'.cell? (lC.add ((gZ).toNat * 2)) = some (.int .i64 ((bS aM gZ).f0)) ∧ w'.cell? ⟨(lC.add ((gZ).toNat * 2)).block, (lC.add ((gZ).toNat * 2)).off + 1, none⟩ = some (.bool ((bS aM gZ).f1)) ∧ w'.cell? (lC.add ((gZ).toNat * 2)) = some (.int .i64 ((bS aM gZ).f0)) ∧ w'.cell? ⟨(lC.add ((gZ).toNat * 2)).block, (lC.add ((gZ).toNat * 2)).off + 1, none⟩ = some (.bool ((bS aM gZ).f1))) (ds := []) (tf 0 38) (by kernel_rfl) rfl rfl (a_ dz.o ⟨(hxb HB AY :), (hxb HB AX :), (hxb HB G_ :), (hxb HB G9 :)⟩) (fun hHeld => ?_); refine eZ aj.G7 aj.AV (fun aG fH => ?_); generalize wr.drew = w227 at dz HB mJ mK qa qb hHeld ⊢; refine bF aG (h := ?_); refine gY aG 2 (some 189) (tb 38 5) (h := ?_); refine mG aG fH hHeld 1 (some 188) (tf 3 35) (h := ?_); iterate 2 (refine bF aG (h := ?_))
            refine gI aG fH hHeld (h := ?_); iterate 3 (refine bF aG (h := ?_))
            refine gY aG 10 (some 197) (tb 38 1535) (h := ?_); refine gY aG 14 (some 201) (tb 38 17919) (h := ?_); refine mG aG fH hHeld 9 (some 196) (tb 38 18431) (h := ?_); refine gY aG 11 (some 198) (tb 38 20479) (h := ?_); refine gY aG 12 (some 199) (tb 38 24575) (h := ?_); refine mG aG fH hHeld 13 (some 200) (tf 15 23) (h := ?_); refine gI aG fH hHeld (h := ?_); iterate 6 (refine bF aG (h := ?_))
            refine dJ aG 14 [some _, some _, some _, some _, some _, some _, some _, some _, some _, some _, some _, some _, some _, some _] (h := ?_); iterate 2 (refine bF aG (h := ?_))
            refine fu (bV aG.o (by kernel_rfl)) ?_; try go_wp2
            go_roundg k4
            case measure => have := yS.o; have := uQ.o; have := BP.o; have := VW.o; omega
            case rel => exact ⟨(wrap64 (gZ + 1)), ky, H', ⟨by have := yS.o; have := uQ.o; have := BP.o; have := VW.o; omega⟩, ⟨gu dz⟩, ⟨bG⟩⟩
          rw [if_neg c210] at H; exact absurd H (by simp)
         rw [if_neg Y4] at H; have aht : decide (gZ < (aM.length : Int)) = false := decide_eq_false Y4; clear Y4; have H' := ae H; clear H; have aED := a_ dz.o trivial; have aEE := dA dz.o; go_wp2; go_loopg [8] k4 (fun kq v8 w' => ∃ (ma : Int), v8 = .int .i64 ma ∧ ai (aj.l3 kq ma aU ay aH bq aM aN = some r) ∧ ai (kq ≤ k4) ∧ ai (w'.heap[fP]? = some (.cells #[.int .i64 aU, (.slice dB ay.length dh), (.slice eO aH.length dS), .int .i64 bq, (.slice eu aM.length dW), (.slice eD aN.length ed)] 37 (0, 0))) ∧ ai (Below w.heap.size w w'))
         case atStart => exact ⟨(0), ky, H', ⟨Nat.le_refl _⟩, ⟨gu dz⟩, ⟨bG⟩⟩
         case round => as_aux_lemma =>
          clear H'; try clear c2; try clear p2; try clear q2; try clear hx2; try clear p6; try clear c20; try clear c21; try clear c22; try clear p25; try clear q25; try clear hx25; try clear p64; try clear Y4; try clear aht; try clear c210; try clear Y5; try clear ahu; try clear ahv; try clear ahw; try clear aEB; try clear aED; try clear aEC; try clear aEE; try clear mJ; try clear mK; try clear qa; try clear qb; try clear DV; try clear K6; try clear DW; try clear K7
          obtain ⟨ma, rfl, HA, HK5, dz, HB⟩ := hrel; cases gk with
          | zero => exact absurd HA.o (by simp [aj.l3])
          | succ k5 =>
           have H := HA.o; clear HA; simp only [aj.l3] at H; by_cases c229 : ma < (aN.length : Int)
           ·rw [if_pos c229] at H
            have ar9 : decide (ma < (aN.length : Int)) = true := decide_eq_true c229; clear c229; by_cases ali : 0 ≤ ma
            ·rw [if_pos ali] at H
             have aEF : decide (0 ≤ ma) = true := decide_eq_true ali; clear ali; obtain ⟨RF, RG, RH, RI, RJ, RL, -⟩ := a_ dz.o trivial; obtain ⟨RN, RO, RP, RQ, RS, RU, -⟩ := dA dz.o; have ar_ : 0 ≤ (ma : Int) := od; have ar' : ma < (aN.length : Int) := od; obtain ⟨El, e262, ach, aci, acj, ack⟩ := Cb r_.o ma ar_ ar'; cases e262; replace ach := hxb HB ach; replace aci := hxb HB aci; replace acj := hxb HB acj; replace ack := hxb HB ack; replace ar_ := eq_true ar_; replace ar' := eq_true ar'; try go_wp2_with (first | ((with_reducible refine aD (N := 9) rfl ?_); (try (refine l9 (by rfl) ?_; dsimp only)); refine je 9 #[.int .i64 0, .int .i64 0, .int .i64 0, .int .i64 0] 92 (h := ?_); intro Em hg wv1 hbox hb; have Ha := ae (hbox); have axT := ae ((by rw [hg]; exact (af bG) : w.heap.size ≤ Em)); have axU := axT; have JP := ae ((by rw [hg]; exact Nat.ne_of_lt (blt dz) : fP ≠ Em)); have ae7 := ae JP.o.symm; replace dz := ae (fo dz hb); replace HB := eU hb; clear hb hbox hg; have aof := ae7.o; have aog := JP.o; obtain ⟨ab1, ab2, akX, akY, -⟩ := aT Ha.o trivial; obtain ⟨ab3, ab4, akZ, ak0, -⟩ := dK Ha.o))
             refine aaL Ha.o ?_; intro wv2 Cn VU VV; replace dz := ae ((VU _ JP.o).trans dz.o); replace HB := ae (VV _ HB.o axU.o); replace Ha := ae Cn; clear Cn VU VV; replace dz := ae (aV dz.o); replace Ha := ae (aV Ha.o); replace HB := ae (di HB.o); refine ji (n := 60) (S := fun w' => w'.cell? ⟨Em, 0, none⟩ = some (.int .i64 ((bn aN ma).f0)) ∧ w'.cell? ⟨Em, 1, none⟩ = some (.int .i64 ((bn aN ma).f1)) ∧ w'.cell? ⟨Em, 2, none⟩ = some (.int .i64 ((bn aN ma).f2.f0)) ∧ w'.cell? ⟨Em, 3, none⟩ = some (.int .i64 ((bn aN ma).f2.f1)) ∧ w'.cell? ⟨fP, 0, none⟩ = some (.int .i64 aU) ∧ w'.cell? ⟨fP, 1, none⟩ = some (.slice dB ay.length dh) ∧ w'.cell? ⟨fP, 2, none⟩ = some (.slice eO aH.length dS) ∧ w'.cell? ⟨fP, 3, none⟩ = some (.int .i64 bq) ∧ w'.cell? ⟨fP, 4, none⟩ = some (.slice eu aM.length dW) ∧ w'.cell? ⟨fP, 5, none⟩ = some (.slice (some El) aN.length ed)) (ds := []) (tf 0 60) (by kernel_rfl) rfl rfl (aT Ha.o (kH dz.o)) (fun hHeld => ?_); refine eZ aj.axz aj.arG (fun aG fH => ?_); generalize wv2.drew = wv3 at dz Ha HB hHeld ⊢; by_cases ae8 : ((bn aN ma).f0) < 0
             ·rw [if_pos ae8] at H
              have asa : decide (((bn aN ma).f0) < 0) = true := decide_eq_true ae8; clear ae8; obtain rfl := Option.some.inj H; refine bF aG (h := ?_); refine gI aG fH hHeld (h := ?_); iterate 2 (refine bF aG (h := ?_))
              refine dJ aG 3 [some _, some _, some _] (h := ?_); iterate 2 (refine bF aG (h := ?_))
              refine dJ aG 3 [some _, some _, some _] (h := ?_); iterate 2 (refine bF aG (h := ?_))
              refine dJ aG 3 [some _, some _, some _] (h := ?_); iterate 2 (refine bF aG (h := ?_))
              refine dJ aG 4 [some _, some _, some _, some _] (h := ?_); iterate 2 (refine bF aG (h := ?_))
              refine dJ aG 4 [some _, some _, some _, some _] (h := ?_); iterate 2 (refine bF aG (h := ?_))
              refine dJ aG 4 [some _, some _, some _, some _] (h := ?_); iterate 2 (refine bF aG (h := ?_))
              refine dJ aG 6 [some _, some _, some _, some _, some _, some _] (h := ?_); iterate 2 (refine bF aG (h := ?_))
              refine dJ aG 14 [some _, some _, some _, some _, some _, some _, some _, some _, some _, some _, some _, some _, some _, some _] (h := ?_); refine bF aG (h := ?_); refine fu (bV aG.o (by kernel_rfl)) ?_; try go_wp2
              go_ret; exact ⟨ku, bG⟩
             rw [if_neg ae8] at H; have asa : decide (((bn aN ma).f0) < 0) = false := decide_eq_false ae8; clear ae8; refine bF aG (h := ?_); refine gI aG fH hHeld (h := ?_); refine bF aG (h := ?_); by_cases ae9 : ((bn aN ma).f0) ≥ 4
             ·rw [if_pos ae9] at H
              have asb : decide (4 ≤ ((bn aN ma).f0)) = true := decide_eq_true ae9; clear ae9; obtain rfl := Option.some.inj H; iterate 2 (refine bF aG (h := ?_))
              refine gI aG fH hHeld (h := ?_); iterate 3 (refine bF aG (h := ?_))
              refine dJ aG 3 [some _, some _, some _] (h := ?_); iterate 2 (refine bF aG (h := ?_))
              refine dJ aG 3 [some _, some _, some _] (h := ?_); iterate 2 (refine bF aG (h := ?_))
              refine dJ aG 4 [some _, some _, some _, some _] (h := ?_); iterate 2 (refine bF aG (h := ?_))
              refine dJ aG 4 [some _, some _, some _, some _] (h := ?_); iterate 2 (refine bF aG (h := ?_))
              refine dJ aG 4 [some _, some _, some _, some _] (h := ?_); iterate 2 (refine bF aG (h := ?_))
              refine dJ aG 6 [some _, some _, some _, some _, some _, some _] (h := ?_); iterate 2 (refine bF aG (h := ?_))
              refine dJ aG 14 [some _, some _, some _, some _, some _, some _, some _, some _, some _, some _, some _, some _, some _, some _] (h := ?_); refine bF aG (h := ?_); refine fu (bV aG.o (by kernel_rfl)) ?_; try go_wp2
              go_ret; exact ⟨ku, bG⟩
             rw [if_neg ae9] at H; have asb : decide (4 ≤ ((bn aN ma).f0)) = false := decide_eq_false ae9; clear ae9; iterate 2 (refine bF aG (h := ?_))
             refine gI aG fH hHeld (h := ?_); iterate 2 (refine bF aG (h := ?_))
             by_cases ae_ : ((bn aN ma).f1) < 1
             ·rw [if_pos ae_] at H
              have asc : decide (((bn aN ma).f1) < 1) = true := decide_eq_true ae_; clear ae_; obtain rfl := Option.some.inj H; iterate 2 (refine bF aG (h := ?_))
              refine gI aG fH hHeld (h := ?_); iterate 3 (refine bF aG (h := ?_))
              refine dJ aG 3 [some _, some _, some _] (h := ?_); iterate 2 (refine bF aG (h := ?_))
              refine dJ aG 4 [some _, some _, some _, some _] (h := ?_); iterate 2 (refine bF aG (h := ?_))
              refine dJ aG 4 [some _, some _, some _, some _] (h := ?_); iterate 2 (refine bF aG (h := ?_))
              refine dJ aG 4 [some _, some _, some _, some _] (h := ?_); iterate 2 (refine bF aG (h := ?_))
              refine dJ aG 6 [some _, some _, some _, some _, some _, some _] (h := ?_); iterate 2 (refine bF aG (h := ?_))
              refine dJ aG 14 [some _, some _, some _, some _, some _, some _, some _, some _, some _, some _, some _, some _, some _, some _] (h := ?_); refine bF aG (h := ?_); refine fu (bV aG.o (by kernel_rfl)) ?_; try go_wp2
              go_ret; exact ⟨ku, bG⟩
             rw [if_neg ae_] at H; have asc : decide (((bn aN ma).f1) < 1) = false := decide_eq_false ae_; clear ae_; iterate 2 (refine bF aG (h := ?_))
             refine gI aG fH hHeld (h := ?_); iterate 2 (refine bF aG (h := ?_))
             by_cases ae' : ((bn aN ma).f1) > 1000000
             ·rw [if_pos ae'] at H
              have ase : decide (1000000 < ((bn aN ma).f1)) = true := decide_eq_true ae'; clear ae'; obtain rfl := Option.some.inj H; iterate 2 (refine bF aG (h := ?_))
              refine gI aG fH hHeld (h := ?_); iterate 3 (refine bF aG (h := ?_))
              refine dJ aG 4 [some _, some _, some _, some _] (h := ?_); iterate 2 (refine bF aG (h := ?_))
              refine dJ aG 4 [some _, some _, some _, some _] (h := ?_); iterate 2 (refine bF aG (h := ?_))
              refine dJ aG 4 [some _, some _, some _, some _] (h := ?_); iterate 2 (refine bF aG (h := ?_))
              refine dJ aG 6 [some _, some _, some _, some _, some _, some _] (h := ?_); iterate 2 (refine bF aG (h := ?_))
              refine dJ aG 14 [some _, some _, some _, some _, some _, some _, some _, some _, some _, some _, some _, some _, some _, some _] (h := ?_); refine bF aG (h := ?_); refine fu (bV aG.o (by kernel_rfl)) ?_; try go_wp2
              go_ret; exact ⟨ku, bG⟩
             rw [if_neg ae'] at H; have ase : decide (1000000 < ((bn aN ma).f1)) = false := decide_eq_false ae'; clear ae'; iterate 2 (refine bF aG (h := ?_))
             refine gI aG fH hHeld (h := ?_); iterate 3 (refine bF aG (h := ?_))
             by_cases afa : ((bn aN ma).f2.f0) < 0
             ·rw [if_pos afa] at H
              have asf : decide (((bn aN ma).f2.f0) < 0) = true := decide_eq_true afa; clear afa; obtain rfl := Option.some.inj H; iterate 2 (refine bF aG (h := ?_))
              refine gI aG fH hHeld (h := ?_); iterate 3 (refine bF aG (h := ?_))
              refine dJ aG 4 [some _, some _, some _, some _] (h := ?_); iterate 2 (refine bF aG (h := ?_))
              refine dJ aG 4 [some _, some _, some _, some _] (h := ?_); iterate 2 (refine bF aG (h := ?_))
              refine dJ aG 6 [some _, some _, some _, some _, some _, some _] (h := ?_); iterate 2 (refine bF aG (h := ?_))
              refine dJ aG 14 [some _, some _, some _, some _, some _, some _, some _, some _, some _, some _, some _, some _, some _, some _] (h := ?_); refine bF aG (h := ?_); refine fu (bV aG.o (by kernel_rfl)) ?_; try go_wp2
              go_ret; exact ⟨ku, bG⟩
             rw [if_neg afa] at H; have asf : decide (((bn aN ma).f2.f0) < 0) = false := decide_eq_false afa; clear afa; iterate 2 (refine bF aG (h := ?_))
             refine gI aG fH hHeld (h := ?_); iterate 3 (refine bF aG (h := ?_))
             by_cases afb : ((bn aN ma).f2.f0) > 5
             ·rw [if_pos afb] at H
              have asg : decide (5 < ((bn aN ma).f2.f0)) = true := decide_eq_true afb; clear afb; obtain rfl := Option.some.inj H; iterate 2 (refine bF aG (h := ?_))
              refine gI aG fH hHeld (h := ?_); iterate 3 (refine bF aG (h := ?_))
              refine dJ aG 4 [some _, some _, some _, some _] (h := ?_); iterate 2 (refine bF aG (h := ?_))
              refine dJ aG 6 [some _, some _, some _, some _, some _, some _] (h := ?_); iterate 2 (refine bF aG (h := ?_))
              refine dJ aG 14 [some _, some _, some _, some _, some _, some _, some _, some _, some _, some _, some _, some _, some _, some _] (h := ?_); refine bF aG (h := ?_); refine fu (bV aG.o (by kernel_rfl)) ?_; try go_wp2
              go_ret; exact ⟨ku, bG⟩
             rw [if_neg afb] at H; have asg : decide (5 < ((bn aN ma).f2.f0)) = false := decide_eq_false afb; clear afb; iterate 2 (refine bF aG (h := ?_))
             refine gI aG fH hHeld (h := ?_); iterate 3 (refine bF aG (h := ?_))
             by_cases afc : ((bn aN ma).f2.f1) < 1
             ·rw [if_pos afc] at H
              have ash : decide (((bn aN ma).f2.f1) < 1) = true := decide_eq_true afc; clear afc; obtain rfl := Option.some.inj H; iterate 2 (refine bF aG (h := ?_))
              refine gI aG fH hHeld (h := ?_); iterate 3 (refine bF aG (h := ?_))
              refine dJ aG 6 [some _, some _, some _, some _, some _, some _] (h := ?_); iterate 2 (refine bF aG (h := ?_))
              refine dJ aG 14 [some _, some _, some _, some _, some _, some _, some _, some _, some _, some _, some _, some _, some _, some _] (h := ?_); refine bF aG (h := ?_); refine fu (bV aG.o (by kernel_rfl)) ?_; try go_wp2
              go_ret; exact ⟨ku, bG⟩
             rw [if_neg afc] at H; have ash : decide (((bn aN ma).f2.f1) < 1) = false := decide_eq_false afc; clear afc; iterate 2 (refine bF aG (h := ?_))
             refine gI aG fH hHeld (h := ?_); iterate 5 (refine bF aG (h := ?_))
             by_cases afd : ((bn aN ma).f2.f1) > aU
             ·rw [if_pos afd] at H
              have asi : decide (aU < ((bn aN ma).f2.f1)) = true := decide_eq_true afd; clear afd; obtain rfl := Option.some.inj H; refine gY aG 40 (some 277) (tb 60 1649267441663) (h := ?_); refine mG aG fH hHeld 39 (some 276) (tf 41 19) (h := ?_); refine gI aG fH hHeld (h := ?_); iterate 3 (refine bF aG (h := ?_))
              refine dJ aG 14 [some _, some _, some _, some _, some _, some _, some _, some _, some _, some _, some _, some _, some _, some _] (h := ?_); refine bF aG (h := ?_); refine fu (bV aG.o (by kernel_rfl)) ?_; try go_wp2
              go_ret; exact ⟨ku, bG⟩
             rw [if_neg afd] at H; have asi : decide (aU < ((bn aN ma).f2.f1)) = false := decide_eq_false afd; clear afd; refine gY aG 40 (some 277) (tb 60 1649267441663) (h := ?_); refine mG aG fH hHeld 39 (some 276) (tf 41 19) (h := ?_); refine gI aG fH hHeld (h := ?_); by_cases afe : ma > 0
             ·rw [if_pos afe] at H
              have asj : decide (0 < ma) = true := decide_eq_true afe; clear afe; obtain ⟨qy, Sl⟩ : ∃ j_ : Int, (wrap64 (ma - 1)) = j_ := ⟨_, rfl⟩; replace H : (if 0 ≤ (qy) then (if (qy) < (aN.length : Int) then (if ((bn aN (qy)).f0) ≥ ((bn aN ma).f0) then (some false) else (aj.l3 k5 (wrap64 (ma + 1)) aU ay aH bq aM aN)) else (none)) else (none)) = some r := by first | (rw [Sl] at H; exact H) | (simp only [Sl] at H ⊢; exact H)
              have aBu : (IntKind.i64.wrap (ma - 1)) = qy := (nR _).trans Sl; by_cases alj : 0 ≤ (qy)
              ·rw [if_pos alj] at H
               have aEG : decide (0 ≤ (qy)) = true := decide_eq_true alj; clear alj; by_cases alk : (qy) < (aN.length : Int)
               ·rw [if_pos alk] at H
                have aEH : decide ((qy) < (aN.length : Int)) = true := decide_eq_true alk; clear alk; have asl : 0 ≤ ((qy) : Int) := od; have asn : (qy) < (aN.length : Int) := od; obtain ⟨axV, e264, Sn, Sq, Sr, Su⟩ := Cb r_.o (qy) asl asn; have alm := Su; have aln := Sr; have alo := Sq; have alp := Sn; obtain rfl : El = axV := (by injection e264); replace Sn := hxb HB Sn; replace Sq := hxb HB Sq; replace Sr := hxb HB Sr; replace Su := hxb HB Su; replace asl := eq_true asl; replace asn := eq_true asn; refine Ce (S' := fun w' => w'.cell? ⟨Em, 0, none⟩ = some (.int .i64 ((bn aN ma).f0)) ∧ w'.cell? ⟨Em, 1, none⟩ = some (.int .i64 ((bn aN ma).f1)) ∧ w'.cell? ⟨Em, 2, none⟩ = some (.int .i64 ((bn aN ma).f2.f0)) ∧ w'.cell? ⟨Em, 3, none⟩ = some (.int .i64 ((bn aN ma).f2.f1)) ∧ w'.cell? ⟨fP, 0, none⟩ = some (.int .i64 aU) ∧ w'.cell? ⟨fP, 1, none⟩ = some (.slice dB ay.length dh) ∧ w'.cell? ⟨fP, 2, none⟩ = some (.slice eO aH.length dS) ∧ w'.cell? ⟨fP, 3, none⟩ = some (.int .i64 bq) ∧ w'.cell? ⟨fP, 4, none⟩ = some (.slice eu aM.length dW) ∧ w'.cell? ⟨fP, 5, none⟩ = some (.slice (some El) aN.length ed) ∧ w'.cell? (El.add (((qy)).toNat * 4)) = some (.int .i64 ((bn aN (qy)).f0)) ∧ w'.cell? ⟨(El.add (((qy)).toNat * 4)).block, (El.add (((qy)).toNat * 4)).off + 1, none⟩ = some (.int .i64 ((bn aN (qy)).f1)) ∧ w'.cell? ⟨(El.add (((qy)).toNat * 4)).block, (El.add (((qy)).toNat * 4)).off + 2, none⟩ = some (.int .i64 ((bn aN (qy)).f2.f0)) ∧ w'.cell? ⟨(El.add (((qy)).toNat * 4)).block, (El.add (((qy)).toNat * 4)).off + 3, none⟩ = some (.int .i64 ((bn aN (qy)).f2.f1))) (fun _ h_ => ⟨h_.1, h_.2.1, h_.2.2.1, h_.2.2.2.1, h_.2.2.2.2.1, h_.2.2.2.2.2.1, h_.2.2.2.2.2.2.1, h_.2.2.2.2.2.2.2.1, h_.2.2.2.2.2.2.2.2.1, h_.2.2.2.2.2.2.2.2.2.1⟩) (aT Ha.o (a_ dz.o ⟨(hxb HB alp :), (hxb HB alo :), (hxb HB aln :), (hxb HB alm :)⟩)) (h := ?_); clear hHeld; intro hHeld; iterate 7 (refine bF aG (h := ?_))
                refine gY aG 50 (some 287) (tb 60 1688849860263935) (h := ?_); refine gY aG 51 (some 288) (tb 60 3940649673949183) (h := ?_); refine gY aG 55 (some 292) (tb 60 39969446692913151) (h := ?_); refine mG aG fH hHeld 49 (some 286) (tb 60 40532396646334463) (h := ?_); refine gY aG 52 (some 289) (tb 60 45035996273704959) (h := ?_); refine gY aG 53 (some 290) (tb 60 54043195528445951) (h := ?_); refine mG aG fH hHeld 54 (some 291) (tf 56 4) (h := ?_); by_cases aff : ((bn aN (qy)).f0) ≥ ((bn aN ma).f0)
                ·rw [if_pos aff] at H
                 have aso : decide (((bn aN ma).f0) ≤ ((bn aN (qy)).f0)) = true := decide_eq_true aff; clear aff; obtain rfl := Option.some.inj H; refine gI aG fH hHeld (h := ?_); iterate 3 (refine bF aG (h := ?_))
                 refine fu (bV aG.o (by kernel_rfl)) ?_; try go_wp2
                 go_ret; exact ⟨by first | rfl | (simp [bW, bX] <;> rfl) | (simp only [← Sl]; first | rfl | (simp [bW, bX] <;> rfl)) | (simp [*, bW, bX] <;> rfl), bG⟩
                rw [if_neg aff] at H; have aso : decide (((bn aN ma).f0) ≤ ((bn aN (qy)).f0)) = false := decide_eq_false aff; clear aff; have H' := ae H; clear H; refine gI aG fH hHeld (h := ?_); iterate 3 (refine bF aG (h := ?_))
                refine fu (bV aG.o (by kernel_rfl)) ?_; try go_wp2
                go_roundg k5
                case measure => have := yS.o; have := uQ.o; have := BP.o; have := VW.o; have := HK5.o; omega
                case rel => exact ⟨(wrap64 (ma + 1)), ky, H', ⟨by have := yS.o; have := uQ.o; have := BP.o; have := VW.o; have := HK5.o; omega⟩, ⟨gu dz⟩, ⟨bG⟩⟩
               rw [if_neg alk] at H; exact absurd H (by simp)
              rw [if_neg alj] at H; exact absurd H (by simp)
             rw [if_neg afe] at H; have asj : decide (0 < ma) = false := decide_eq_false afe; clear afe; have H' := ae H; clear H; iterate 6 (refine bF aG (h := ?_))
             refine dJ aG 10 [some _, some _, some _, some _, some _, some _, some _, some _, some _, some _] (h := ?_); iterate 2 (refine bF aG (h := ?_))
             refine fu (bV aG.o (by kernel_rfl)) ?_; try go_wp2
             go_roundg k5
             case measure => have := yS.o; have := uQ.o; have := BP.o; have := VW.o; have := HK5.o; omega
             case rel => exact ⟨(wrap64 (ma + 1)), ky, H', ⟨by have := yS.o; have := uQ.o; have := BP.o; have := VW.o; have := HK5.o; omega⟩, ⟨gu dz⟩, ⟨bG⟩⟩
            rw [if_neg ali] at H; exact absurd H (by simp)
           rw [if_neg c229] at H; have ar9 : decide (ma < (aN.length : Int)) = false := decide_eq_false c229; clear c229
           as_aux_lemma =>
            obtain rfl := Option.some.inj H; have C310 := a_ dz.o trivial; have F310 := dA dz.o; go_wp2; go_ret; exact ⟨ku, bG⟩
end Go.Proofs.Ytmfedjoofnlncaa.PT
