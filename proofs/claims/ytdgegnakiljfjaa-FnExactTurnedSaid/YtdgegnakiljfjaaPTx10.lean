-- Written for this claim by the session's program pp.py, out of the kit's print and the seat's translation.
import Derived.Test.YtdgegnakiljfjaaPTx0
import Derived.Test.YtdgegnakiljfjaaPTx9
namespace Go.Proofs.Ytdgegnakiljfjaa.PT
open Go.RowKit Go.Proofs.YtdgegnakiljfjaaW.PrintWords Go.Proofs.YtdgegnakiljfjaaW.PrintLast Go.Proofs.YtdgegnakiljfjaaW.PrintMore
attribute [local go_sem] max2_int min2_int max_two min_two max_three min_three max_four min_four   -- for this text's walks alone
set_option linter.unusedVariables false
set_option linter.unusedSimpArgs false

/-! ### spec_StateOk: function 16 -/
mutual
def spec_StateOk.j0 : Nat → Bool → Int → List (S92) → List (S94) → Int → List (S109) → List (S75) → Option (Bool)
 | 0, _, _, _, _, _, _, _ => none
 | k + 1, x49, x317000, x317001, x317002, x317003, x317004, x317005 => if x49 = true then (some false) else (spec_StateOk.l0 k 0 x317000 x317001 x317002 x317003 x317004 x317005)
def spec_StateOk.l0 : Nat → Int → Int → List (S92) → List (S94) → Int → List (S109) → List (S75) → Option (Bool)
 | 0, _, _, _, _, _, _, _ => none
 | k + 1, x3, x317000, x317001, x317002, x317003, x317004, x317005 => if x3 < (x317001.length : Int) then (if 0 ≤ x3 then ((spec_l2key.f k ((rd_T92 x317001 x3).f0)).bind fun t320 => (if t320 = true then ((spec_l2val.f ((rd_T92 x317001 x3).f1)).bind fun t321 => (if t321 = true then (if ((rd_T92 x317001 x3).f2) < 1 then (some false) else (if ((rd_T92 x317001 x3).f2) > x317000 then (some false) else (if ((rd_T92 x317001 x3).f3) = 0 then (if x3 > 0 then (if 0 ≤ (wrap64 (x3 - 1)) then (if (wrap64 (x3 - 1)) < (x317001.length : Int) then (if ((Op.bytesLess ((strOfNums ((rd_T92 x317001 (wrap64 (x3 - 1))).f0)).toList) ((strOfNums ((rd_T92 x317001 x3).f0)).toList)) = true) then (spec_StateOk.l0 k (wrap64 (x3 + 1)) x317000 x317001 x317002 x317003 x317004 x317005) else (some false)) else (none)) else (none)) else (spec_StateOk.l0 k (wrap64 (x3 + 1)) x317000 x317001 x317002 x317003 x317004 x317005)) else ((spec_l2sess.f k x317000 x317001 x317002 x317003 x317004 x317005 ((rd_T92 x317001 x3).f3)).bind fun t323 => (if t323 < 0 then (some false) else (if x3 > 0 then (if 0 ≤ (wrap64 (x3 - 1)) then (if (wrap64 (x3 - 1)) < (x317001.length : Int) then (if ((Op.bytesLess ((strOfNums ((rd_T92 x317001 (wrap64 (x3 - 1))).f0)).toList) ((strOfNums ((rd_T92 x317001 x3).f0)).toList)) = true) then (spec_StateOk.l0 k (wrap64 (x3 + 1)) x317000 x317001 x317002 x317003 x317004 x317005) else (some false)) else (none)) else (none)) else (spec_StateOk.l0 k (wrap64 (x3 + 1)) x317000 x317001 x317002 x317003 x317004 x317005))))))) else (some false))) else (some false))) else (none)) else (spec_StateOk.l1 k 0 x317000 x317001 x317002 x317003 x317004 x317005)
def spec_StateOk.l1 : Nat → Int → Int → List (S92) → List (S94) → Int → List (S109) → List (S75) → Option (Bool)
 | 0, _, _, _, _, _, _, _ => none
 | k + 1, x5, x317000, x317001, x317002, x317003, x317004, x317005 => if x5 < (x317002.length : Int) then (if 0 ≤ x5 then ((spec_l2key.f k ((rd_T94 x317002 x5).f0)).bind fun t327 => (if t327 = true then ((spec_l2row.f k x317000 x317001 x317002 x317003 x317004 x317005 ((rd_T94 x317002 x5).f0)).bind fun t328 => (if t328 ≥ 0 then (some false) else ((spec_l2tomb.f k x317000 x317001 x317002 x317003 x317004 x317005 ((rd_T94 x317002 x5).f0)).bind fun t329 => (if t329 = x5 then (if ((rd_T94 x317002 x5).f1) < 1 then (some false) else (if ((rd_T94 x317002 x5).f1) > x317000 then (some false) else (if ((rd_T94 x317002 x5).f1) < x317003 then (some false) else (if x5 > 0 then (if 0 ≤ (wrap64 (x5 - 1)) then (if (wrap64 (x5 - 1)) < (x317002.length : Int) then (if ((rd_T94 x317002 (wrap64 (x5 - 1))).f1) > ((rd_T94 x317002 x5).f1) then (some false) else (spec_StateOk.l1 k (wrap64 (x5 + 1)) x317000 x317001 x317002 x317003 x317004 x317005)) else (none)) else (none)) else (spec_StateOk.l1 k (wrap64 (x5 + 1)) x317000 x317001 x317002 x317003 x317004 x317005))))) else (some false))))) else (some false))) else (none)) else (spec_StateOk.l2 k 0 x317000 x317001 x317002 x317003 x317004 x317005)
def spec_StateOk.l2 : Nat → Int → Int → List (S92) → List (S94) → Int → List (S109) → List (S75) → Option (Bool)
 | 0, _, _, _, _, _, _, _ => none
 | k + 1, x7, x317000, x317001, x317002, x317003, x317004, x317005 => if x7 < (x317004.length : Int) then (if 0 ≤ x7 then (if ((rd_T109 x317004 x7).f0) < 1 then (some false) else (if ((rd_T109 x317004 x7).f0) > x317000 then (some false) else (if x7 > 0 then (if 0 ≤ (wrap64 (x7 - 1)) then (if (wrap64 (x7 - 1)) < (x317004.length : Int) then (if ((rd_T109 x317004 (wrap64 (x7 - 1))).f0) ≥ ((rd_T109 x317004 x7).f0) then (some false) else (spec_StateOk.l2 k (wrap64 (x7 + 1)) x317000 x317001 x317002 x317003 x317004 x317005)) else (none)) else (none)) else (spec_StateOk.l2 k (wrap64 (x7 + 1)) x317000 x317001 x317002 x317003 x317004 x317005)))) else (none)) else (spec_StateOk.l3 k 0 x317000 x317001 x317002 x317003 x317004 x317005)
def spec_StateOk.l3 : Nat → Int → Int → List (S92) → List (S94) → Int → List (S109) → List (S75) → Option (Bool)
 | 0, _, _, _, _, _, _, _ => none
 | k + 1, x8, x317000, x317001, x317002, x317003, x317004, x317005 => if x8 < (x317005.length : Int) then (if 0 ≤ x8 then (if ((rd_T75 x317005 x8).f0) < 0 then (some false) else (if ((rd_T75 x317005 x8).f0) ≥ 4 then (some false) else (if ((rd_T75 x317005 x8).f1) < 1 then (some false) else (if ((rd_T75 x317005 x8).f1) > 1000000 then (some false) else (if ((rd_T75 x317005 x8).f2.f0) < 0 then (some false) else (if ((rd_T75 x317005 x8).f2.f0) > 5 then (some false) else (if ((rd_T75 x317005 x8).f2.f1) < 1 then (some false) else (if ((rd_T75 x317005 x8).f2.f1) > x317000 then (some false) else (if x8 > 0 then (if 0 ≤ (wrap64 (x8 - 1)) then (if (wrap64 (x8 - 1)) < (x317005.length : Int) then (if ((rd_T75 x317005 (wrap64 (x8 - 1))).f0) ≥ ((rd_T75 x317005 x8).f0) then (some false) else (spec_StateOk.l3 k (wrap64 (x8 + 1)) x317000 x317001 x317002 x317003 x317004 x317005)) else (none)) else (none)) else (spec_StateOk.l3 k (wrap64 (x8 + 1)) x317000 x317001 x317002 x317003 x317004 x317005)))))))))) else (none)) else (some true)
end
def spec_StateOk.f (k : Nat) (a0_0 : Int) (l0_1 : List (S92)) (l0_2 : List (S94)) (a0_3 : Int) (l0_4 : List (S109)) (l0_5 : List (S75)) : Option (Bool) := (spec_l2index.f a0_0).bind fun t317 => (if t317 = true then (if (l0_1.length : Int) > 20 then (spec_StateOk.j0 k true a0_0 l0_1 l0_2 a0_3 l0_4 l0_5) else (if (l0_2.length : Int) > 10 then (spec_StateOk.j0 k true a0_0 l0_1 l0_2 a0_3 l0_4 l0_5) else (if a0_3 < 0 then (spec_StateOk.j0 k true a0_0 l0_1 l0_2 a0_3 l0_4 l0_5) else (if a0_3 > a0_0 then (spec_StateOk.j0 k true a0_0 l0_1 l0_2 a0_3 l0_4 l0_5) else (if (l0_4.length : Int) > 8 then (spec_StateOk.j0 k true a0_0 l0_1 l0_2 a0_3 l0_4 l0_5) else (spec_StateOk.j0 k (decide ((l0_5.length : Int) > 4)) a0_0 l0_1 l0_2 a0_3 l0_4 l0_5)))))) else (spec_StateOk.j0 k true a0_0 l0_1 l0_2 a0_3 l0_4 l0_5))
def spec_StateOk.T7 : Bool × List (List Nat × List Nat) := (true, [([], []), ([0], [0]), ([1], [1]), ([2], [2]), ([3, 2], [3]), ([4], [4]), ([5, 4], [4, 5]), ([6, 4, 4], [4, 6]), ([7, 4], [4, 7]), ([4, 8], [4, 8]), ([9, 7], [9]), ([10], [10]), ([11, 10], [10, 11]), ([12, 10], [10, 12]), ([10, 13], [10, 13]), ([14, 10], [14]), ([15], [15]), ([16, 15], [15, 16]), ([15], [15]), ([18, 15], [15, 18]), ([17, 19, 15], [15, 17, 19]), ([15, 20], [15, 20]), ([21, 15], [21]), ([22], [22]), ([23, 22], [22, 23]), ([24, 22], [22, 24]), ([25, 22, 22], [22, 25]), ([26], [26]), ([26], [26]), ([28, 26], [26, 28]), ([27, 29, 26, 26], [26, 27, 29]), ([30, 26], [26, 30]), ([26, 31, 22], [22, 26, 31]), ([22, 32], [22, 32]), ([33, 30], [33]), ([34], [34]), ([35, 34], [34, 35]), ([36, 34, 34], [34, 36]), ([37], [37]), ([38, 37], [37, 38]), ([37], [37]), ([40, 37], [37, 40]), ([39, 41, 37], [37, 39, 41]), ([42, 37], [37, 42]), ([43, 37], [37, 43]), ([44, 37], [37, 44]), ([37], [37]), ([46, 37], [37, 46]), ([47, 37], [37, 47]), ([45, 48, 37], [37, 45, 48]), ([37, 49, 34], [34, 37, 49]), ([34, 50], [34, 50])])
def spec_StateOk.B7 : List Nat := [0, 1, 3, 7, 15, 31, 63, 127, 255, 511, 1023, 2047, 4095, 8191, 16383, 32767, 65535, 131071, 65535, 327679, 1048575, 2097151, 4194303, 8388607, 16777215, 33554431, 67108863, 134217727, 134217727, 402653183, 1073741823, 2147483647, 4294967295, 8589934591, 17179869183, 34359738367, 68719476735, 137438953471, 274877906943, 549755813887, 274877906943, 1374389534719, 4398046511103, 8796093022207, 17592186044415, 35184372088831, 274877906943, 70643622084607, 211381110439935, 562949953421311, 1125899906842623, 2251799813685247]
theorem spec_StateOk.tab7 : rtab .any (opsOf Try.f16 7) = spec_StateOk.T7 := by kernel_rfl
theorem spec_StateOk.bits7 : waitsOk spec_StateOk.T7.2 spec_StateOk.B7 = true := by kernel_rfl
def spec_StateOk.T13 : Bool × List (List Nat × List Nat) := (true, [([], []), ([0], [0]), ([1], [1]), ([2], [2]), ([3, 2], [3]), ([4], [4]), ([4], [4]), ([6, 4], [4, 6]), ([5, 7, 4, 4], [4, 5, 7]), ([8, 4], [4, 8]), ([4, 9], [4, 9]), ([10, 8], [10]), ([11], [11]), ([11], [11]), ([13, 11], [11, 13]), ([12, 14, 11, 11], [11, 12, 14]), ([11], [11]), ([15, 16, 11], [11, 15, 16]), ([11, 17], [11, 17]), ([18, 15], [18]), ([19], [19]), ([20, 19], [19, 20]), ([21, 19], [19, 21]), ([19, 22], [19, 22]), ([23, 19], [23]), ([24], [24]), ([25, 24], [24, 25]), ([24], [24]), ([27, 24], [24, 27]), ([26, 28, 24], [24, 26, 28]), ([24, 29], [24, 29]), ([30, 24], [30]), ([31], [31]), ([32, 31], [31, 32]), ([31], [31]), ([34, 31], [31, 34]), ([33, 35, 31], [31, 33, 35]), ([31, 36], [31, 36]), ([37, 31], [37]), ([38], [38]), ([39, 38], [38, 39]), ([40, 38, 38], [38, 40]), ([41], [41]), ([42, 41], [41, 42]), ([41], [41]), ([44, 41], [41, 44]), ([43, 45, 41], [41, 43, 45]), ([46, 41], [41, 46]), ([47, 41], [41, 47]), ([41], [41]), ([49, 41], [41, 49]), ([48, 50, 41], [41, 48, 50]), ([41, 51, 38], [38, 41, 51]), ([38, 52], [38, 52])])
def spec_StateOk.B13 : List Nat := [0, 1, 3, 7, 15, 31, 31, 95, 255, 511, 1023, 2047, 4095, 4095, 12287, 32767, 4095, 131071, 262143, 524287, 1048575, 2097151, 4194303, 8388607, 16777215, 33554431, 67108863, 33554431, 167772159, 536870911, 1073741823, 2147483647, 4294967295, 8589934591, 4294967295, 21474836479, 68719476735, 137438953471, 274877906943, 549755813887, 1099511627775, 2199023255551, 4398046511103, 8796093022207, 4398046511103, 21990232555519, 70368744177663, 140737488355327, 281474976710655, 4398046511103, 567347999932415, 2251799813685247, 4503599627370495, 9007199254740991]
theorem spec_StateOk.tab13 : rtab .any (opsOf Try.f16 13) = spec_StateOk.T13 := by kernel_rfl
theorem spec_StateOk.bits13 : waitsOk spec_StateOk.T13.2 spec_StateOk.B13 = true := by kernel_rfl
def spec_StateOk.T18 : Bool × List (List Nat × List Nat) := (true, [([], []), ([0], [0]), ([], []), ([1, 2], [1, 2]), ([3], [3]), ([4], [4]), ([5], [5]), ([6], [6]), ([7], [7]), ([8, 7], [7, 8]), ([7], [7]), ([9, 10, 7], [7, 9, 10]), ([11, 7], [7, 11]), ([12, 7], [7, 12]), ([7], [7]), ([14, 7], [7, 14]), ([13, 15, 7], [7, 13, 15]), ([7, 16], [7, 16]), ([17, 7], [17]), ([18], [18]), ([19, 18], [18, 19]), ([20, 18, 18], [18, 20]), ([21], [21]), ([22, 21], [21, 22]), ([21], [21]), ([24, 21], [21, 24]), ([23, 25, 21], [21, 23, 25]), ([26, 21], [21, 26]), ([27, 21], [21, 27]), ([21], [21]), ([29, 21], [21, 29]), ([21], [21]), ([30, 31, 21], [21, 30, 31]), ([32, 21], [21, 32]), ([33, 21], [21, 33]), ([28, 34, 21], [21, 28, 34]), ([21, 35, 18], [18, 21, 35]), ([18, 36], [18, 36])])
def spec_StateOk.B18 : List Nat := [0, 1, 0, 7, 15, 31, 63, 127, 255, 511, 255, 2047, 4095, 8191, 255, 16639, 65535, 131071, 262143, 524287, 1048575, 2097151, 4194303, 8388607, 4194303, 20971519, 67108863, 134217727, 268435455, 4194303, 541065215, 4194303, 3762290687, 8057257983, 16647192575, 34359738367, 68719476735, 137438953471]
theorem spec_StateOk.tab18 : rtab .any (opsOf Try.f16 18) = spec_StateOk.T18 := by kernel_rfl
theorem spec_StateOk.bits18 : waitsOk spec_StateOk.T18.2 spec_StateOk.B18 = true := by kernel_rfl
def spec_StateOk.T24 : Bool × List (List Nat × List Nat) := (true, [([], []), ([0], [0]), ([1], [1]), ([2], [2]), ([3], [3]), ([4, 3], [3, 4]), ([5, 3], [3, 5]), ([3, 6], [3, 6]), ([7, 3], [7]), ([8], [8]), ([9, 8], [8, 9]), ([10, 8], [8, 10]), ([8, 11], [8, 11]), ([12, 8], [12]), ([13], [13]), ([14, 13], [13, 14]), ([15, 13], [13, 15]), ([13, 16], [13, 16]), ([17, 13], [17]), ([18], [18]), ([19, 18], [18, 19]), ([20, 18], [18, 20]), ([21, 18], [18, 21]), ([18, 22], [18, 22]), ([23, 18], [23]), ([24], [24]), ([25, 24], [24, 25]), ([26, 24], [24, 26]), ([27, 24], [24, 27]), ([24, 28], [24, 28]), ([29, 24], [29]), ([30], [30]), ([31, 30], [30, 31]), ([32, 30], [30, 32]), ([33, 30], [30, 33]), ([30, 34], [30, 34]), ([35, 30], [35]), ([36], [36]), ([37, 36], [36, 37]), ([38, 36], [36, 38]), ([36], [36]), ([40, 36], [36, 40]), ([39, 41, 36], [36, 39, 41]), ([36, 42], [36, 42]), ([43, 36], [43]), ([44], [44]), ([45, 44], [44, 45]), ([46, 44, 44], [44, 46]), ([47], [47]), ([48, 47], [47, 48]), ([47], [47]), ([50, 47], [47, 50]), ([49, 51, 47], [47, 49, 51]), ([52, 47], [47, 52]), ([53, 47], [47, 53]), ([47], [47]), ([55, 47], [47, 55]), ([54, 56, 47], [47, 54, 56]), ([47, 57, 44], [44, 47, 57]), ([44, 58], [44, 58])])
def spec_StateOk.B24 : List Nat := [0, 1, 3, 7, 15, 31, 63, 127, 255, 511, 1023, 2047, 4095, 8191, 16383, 32767, 65535, 131071, 262143, 524287, 1048575, 2097151, 4194303, 8388607, 16777215, 33554431, 67108863, 134217727, 268435455, 536870911, 1073741823, 2147483647, 4294967295, 8589934591, 17179869183, 34359738367, 68719476735, 137438953471, 274877906943, 549755813887, 137438953471, 1236950581247, 4398046511103, 8796093022207, 17592186044415, 35184372088831, 70368744177663, 140737488355327, 281474976710655, 562949953421311, 281474976710655, 1407374883553279, 4503599627370495, 9007199254740991, 18014398509481983, 281474976710655, 36310271995674623, 144115188075855871, 288230376151711743, 576460752303423487]
theorem spec_StateOk.tab24 : rtab .any (opsOf Try.f16 24) = spec_StateOk.T24 := by kernel_rfl
theorem spec_StateOk.bits24 : waitsOk spec_StateOk.T24.2 spec_StateOk.B24 = true := by kernel_rfl
set_option maxHeartbeats 200000000 in
set_option maxRecDepth 100000 in
theorem spec_StateOk.calls (k : Nat) (a0_0 : Int) (A0_1 : Option Addr) (c0_1 : Nat) (l0_1 : List (S92)) (A0_2 : Option Addr) (c0_2 : Nat) (l0_2 : List (S94)) (a0_3 : Int) (A0_4 : Option Addr) (c0_4 : Nat) (l0_4 : List (S109)) (A0_5 : Option Addr) (c0_5 : Nat) (l0_5 : List (S75)) (r : Bool) (w : World) (hr0_1 : Kd.C k92 w A0_1 l0_1.length l0_1) (hc0_1 : l0_1.length ≤ c0_1) (hr0_2 : Kd.C k94 w A0_2 l0_2.length l0_2) (hc0_2 : l0_2.length ≤ c0_2) (hr0_4 : Kd.C k109 w A0_4 l0_4.length l0_4) (hc0_4 : l0_4.length ≤ c0_4) (hr0_5 : Kd.C k75 w A0_5 l0_5.length l0_5) (hc0_5 : l0_5.length ≤ c0_5) (h : spec_StateOk.f k a0_0 l0_1 l0_2 a0_3 l0_4 l0_5 = some r) :
  Calls Try.prog 16 #[.agg #[.int .i64 a0_0, .slice A0_1 l0_1.length c0_1, .slice A0_2 l0_2.length c0_2, .int .i64 a0_3, .slice A0_4 l0_4.length c0_4, .slice A0_5 l0_5.length c0_5]] w fun e w' => e = .returned (.bool r) ∧ Below w.heap.size w w' := by
 have hu35 := Try.underlying35
 have hu92 := Try.underlying92
 have hu94 := Try.underlying94
 have hu75 := Try.underlying75
 have HR0_1 := Aside0.mk hr0_1
 have HC0_1 := Aside0.mk hc0_1
 clear hr0_1 hc0_1
 have HR0_2 := Aside0.mk hr0_2
 have HC0_2 := Aside0.mk hc0_2
 clear hr0_2 hc0_2
 have HR0_4 := Aside0.mk hr0_4
 have HC0_4 := Aside0.mk hc0_4
 clear hr0_4 hc0_4
 have HR0_5 := Aside0.mk hr0_5
 have HC0_5 := Aside0.mk hc0_5
 clear hr0_5 hc0_5
 have HB := Aside0.mk (Below.refl w.heap.size w)
 have H : ((spec_l2index.f a0_0).bind fun t317 => (if t317 = true then (if (l0_1.length : Int) > 20 then (spec_StateOk.j0 k true a0_0 l0_1 l0_2 a0_3 l0_4 l0_5) else (if (l0_2.length : Int) > 10 then (spec_StateOk.j0 k true a0_0 l0_1 l0_2 a0_3 l0_4 l0_5) else (if a0_3 < 0 then (spec_StateOk.j0 k true a0_0 l0_1 l0_2 a0_3 l0_4 l0_5) else (if a0_3 > a0_0 then (spec_StateOk.j0 k true a0_0 l0_1 l0_2 a0_3 l0_4 l0_5) else (if (l0_4.length : Int) > 8 then (spec_StateOk.j0 k true a0_0 l0_1 l0_2 a0_3 l0_4 l0_5) else (spec_StateOk.j0 k (decide ((l0_5.length : Int) > 4)) a0_0 l0_1 l0_2 a0_3 l0_4 l0_5)))))) else (spec_StateOk.j0 k true a0_0 l0_1 l0_2 a0_3 l0_4 l0_5))) = some r := h
 clear h
 have HC2 := Aside0.mk H
 clear H
 go_enter Try.func16, Try.ntmps16
 go_upto_region 1 with (first | ((with_reducible refine gate_dst (N := 1) rfl ?_); (try (refine gate_guard (by rfl) ?_; dsimp only)); refine bx_ 1 #[.int .i64 a0_0, .slice A0_1 l0_1.length c0_1, .slice A0_2 l0_2.length c0_2, .int .i64 a0_3, .slice A0_4 l0_4.length c0_4, .slice A0_5 l0_5.length c0_5] 35 (h := ?_); intro gb316 hg w3 hbox hb; have BK316 := Aside0.mk (hbox); have GW316 := Aside0.mk ((by rw [hg]; exact (below_size bel) : w.heap.size ≤ gb316)); have GE316 := GW316; replace HB := bst hb; clear hb hbox hg))
 (try simp only [Act.put, List.setIfInBounds_toArray, List.set_cons_zero, List.set_cons_succ])
 go_cut [49] (fun v49 wc => ∃ (kq : Nat) (x49_1 : Bool), v49 = .bool x49_1 ∧ Aside0 (spec_StateOk.j0 kq x49_1 a0_0 l0_1 l0_2 a0_3 l0_4 l0_5 = some r) ∧ Aside0 (kq ≤ k) ∧ Aside0 (wc.heap[gb316]? = some (.cells #[.int .i64 a0_0, (.slice A0_1 l0_1.length c0_1), (.slice A0_2 l0_2.length c0_2), .int .i64 a0_3, (.slice A0_4 l0_4.length c0_4), (.slice A0_5 l0_5.length c0_5)] 35 (0, 0))) ∧ Aside0 (Below w.heap.size w wc))
 case first => as_aux_lemma =>
  have H := HC2.out
  clear HC2
  replace H := Option.bind_eq_some_iff.mp H
  obtain ⟨t317, A40, H⟩ := H
  replace H : (if t317 = true then (if (l0_1.length : Int) > 20 then (spec_StateOk.j0 k true a0_0 l0_1 l0_2 a0_3 l0_4 l0_5) else (if (l0_2.length : Int) > 10 then (spec_StateOk.j0 k true a0_0 l0_1 l0_2 a0_3 l0_4 l0_5) else (if a0_3 < 0 then (spec_StateOk.j0 k true a0_0 l0_1 l0_2 a0_3 l0_4 l0_5) else (if a0_3 > a0_0 then (spec_StateOk.j0 k true a0_0 l0_1 l0_2 a0_3 l0_4 l0_5) else (if (l0_4.length : Int) > 8 then (spec_StateOk.j0 k true a0_0 l0_1 l0_2 a0_3 l0_4 l0_5) else (spec_StateOk.j0 k (decide ((l0_5.length : Int) > 4)) a0_0 l0_1 l0_2 a0_3 l0_4 l0_5)))))) else (spec_StateOk.j0 k true a0_0 l0_1 l0_2 a0_3 l0_4 l0_5)) = some r := H
  have A4 := Aside0.mk A40
  clear A40
  by_cases c5 : t317 = true
  ·subst c5
   have H1 : (if (l0_1.length : Int) > 20 then (spec_StateOk.j0 k true a0_0 l0_1 l0_2 a0_3 l0_4 l0_5) else (if (l0_2.length : Int) > 10 then (spec_StateOk.j0 k true a0_0 l0_1 l0_2 a0_3 l0_4 l0_5) else (if a0_3 < 0 then (spec_StateOk.j0 k true a0_0 l0_1 l0_2 a0_3 l0_4 l0_5) else (if a0_3 > a0_0 then (spec_StateOk.j0 k true a0_0 l0_1 l0_2 a0_3 l0_4 l0_5) else (if (l0_4.length : Int) > 8 then (spec_StateOk.j0 k true a0_0 l0_1 l0_2 a0_3 l0_4 l0_5) else (spec_StateOk.j0 k (decide ((l0_5.length : Int) > 4)) a0_0 l0_1 l0_2 a0_3 l0_4 l0_5)))))) = some r := by rw [if_pos rfl] at H; exact H
   clear H
   have H := H1
   clear H1
   by_cases c6 : (l0_1.length : Int) > 20
   ·rw [if_pos c6] at H
    have c6b0 : decide (20 < (l0_1.length : Int)) = true := decide_eq_true c6
    have c6b1 : decide (20 < l0_1.length) = true := decide_eq_true (by omega)
    clear c6
    (first | rw [c6b0] | (simp only [i64_w, i32_w]; rw [c6b0]) | skip)
    as_aux_lemma =>
     have H' := Aside0.mk H
     clear H
     obtain ⟨C7_0, C7_1, C7_2, C7_3, C7_4, C7_5, -⟩ := cells_6 BK316.out trivial
     obtain ⟨F7_0, F7_1, F7_2, F7_3, F7_4, F7_5, -⟩ := frz_6 BK316.out
     go_wp2_with (first | ((with_reducible refine gate_callee (f := 71) rfl ?_); refine gl_ (some 12) Try.func71 #[.int .i64 a0_0] (h := ?_); (with_reducible refine (spec_l2index.calls a0_0 true _ A4.out).mono ?_); rintro e w' ⟨rfl, ⟨nd, rfl⟩⟩; refine ⟨_, rfl, ?_⟩))
     go_meet
     case rel => exact ⟨_, (true), rs_, H', ⟨by first | omega | exact Nat.le_refl _⟩, ⟨bkp BK316⟩, ⟨bel⟩⟩
   rw [if_neg c6] at H
   have c6b0 : decide (20 < (l0_1.length : Int)) = false := decide_eq_false c6
   have c6b1 : decide (20 < l0_1.length) = false := decide_eq_false (by omega)
   clear c6
   (first | rw [c6b0] | (simp only [i64_w, i32_w]; rw [c6b0]) | skip)
   by_cases c8 : (l0_2.length : Int) > 10
   ·rw [if_pos c8] at H
    have c8b0 : decide (10 < (l0_2.length : Int)) = true := decide_eq_true c8
    have c8b1 : decide (10 < l0_2.length) = true := decide_eq_true (by omega)
    clear c8
    as_aux_lemma =>
     have H' := Aside0.mk H
     clear H
     obtain ⟨C9_0, C9_1, C9_2, C9_3, C9_4, C9_5, -⟩ := cells_6 BK316.out trivial
     obtain ⟨F9_0, F9_1, F9_2, F9_3, F9_4, F9_5, -⟩ := frz_6 BK316.out
     go_wp2_with (first | ((with_reducible refine gate_callee (f := 71) rfl ?_); refine gl_ (some 12) Try.func71 #[.int .i64 a0_0] (h := ?_); (with_reducible refine (spec_l2index.calls a0_0 true _ A4.out).mono ?_); rintro e w' ⟨rfl, ⟨nd, rfl⟩⟩; refine ⟨_, rfl, ?_⟩))
     go_meet
     case rel => exact ⟨_, (true), rs_, H', ⟨by first | omega | exact Nat.le_refl _⟩, ⟨bkp BK316⟩, ⟨bel⟩⟩
   rw [if_neg c8] at H
   have c8b0 : decide (10 < (l0_2.length : Int)) = false := decide_eq_false c8
   have c8b1 : decide (10 < l0_2.length) = false := decide_eq_false (by omega)
   clear c8
   by_cases c10 : a0_3 < 0
   ·rw [if_pos c10] at H
    have c10b0 : decide (a0_3 < 0) = true := decide_eq_true c10
    clear c10
    as_aux_lemma =>
     have H' := Aside0.mk H
     clear H
     obtain ⟨C11_0, C11_1, C11_2, C11_3, C11_4, C11_5, -⟩ := cells_6 BK316.out trivial
     obtain ⟨F11_0, F11_1, F11_2, F11_3, F11_4, F11_5, -⟩ := frz_6 BK316.out
     go_wp2_with (first | ((with_reducible refine gate_callee (f := 71) rfl ?_); refine gl_ (some 12) Try.func71 #[.int .i64 a0_0] (h := ?_); (with_reducible refine (spec_l2index.calls a0_0 true _ A4.out).mono ?_); rintro e w' ⟨rfl, ⟨nd, rfl⟩⟩; refine ⟨_, rfl, ?_⟩))
     go_meet
     case rel => exact ⟨_, (true), rs_, H', ⟨by first | omega | exact Nat.le_refl _⟩, ⟨bkp BK316⟩, ⟨bel⟩⟩
   rw [if_neg c10] at H
   have c10b0 : decide (a0_3 < 0) = false := decide_eq_false c10
   clear c10
   by_cases c12 : a0_3 > a0_0
   ·rw [if_pos c12] at H
    have c12b0 : decide (a0_0 < a0_3) = true := decide_eq_true c12
    clear c12
    as_aux_lemma =>
     have H' := Aside0.mk H
     clear H
     obtain ⟨C13_0, C13_1, C13_2, C13_3, C13_4, C13_5, -⟩ := cells_6 BK316.out trivial
     obtain ⟨F13_0, F13_1, F13_2, F13_3, F13_4, F13_5, -⟩ := frz_6 BK316.out
     go_wp2_with (first | ((with_reducible refine gate_callee (f := 71) rfl ?_); refine gl_ (some 12) Try.func71 #[.int .i64 a0_0] (h := ?_); (with_reducible refine (spec_l2index.calls a0_0 true _ A4.out).mono ?_); rintro e w' ⟨rfl, ⟨nd, rfl⟩⟩; refine ⟨_, rfl, ?_⟩))
     go_meet
     case rel => exact ⟨_, (true), rs_, H', ⟨by first | omega | exact Nat.le_refl _⟩, ⟨bkp BK316⟩, ⟨bel⟩⟩
   rw [if_neg c12] at H
   have c12b0 : decide (a0_0 < a0_3) = false := decide_eq_false c12
   clear c12
   by_cases c14 : (l0_4.length : Int) > 8
   ·rw [if_pos c14] at H
    have c14b0 : decide (8 < (l0_4.length : Int)) = true := decide_eq_true c14
    have c14b1 : decide (8 < l0_4.length) = true := decide_eq_true (by omega)
    clear c14
    as_aux_lemma =>
     have H' := Aside0.mk H
     clear H
     obtain ⟨C15_0, C15_1, C15_2, C15_3, C15_4, C15_5, -⟩ := cells_6 BK316.out trivial
     obtain ⟨F15_0, F15_1, F15_2, F15_3, F15_4, F15_5, -⟩ := frz_6 BK316.out
     go_wp2_with (first | ((with_reducible refine gate_callee (f := 71) rfl ?_); refine gl_ (some 12) Try.func71 #[.int .i64 a0_0] (h := ?_); (with_reducible refine (spec_l2index.calls a0_0 true _ A4.out).mono ?_); rintro e w' ⟨rfl, ⟨nd, rfl⟩⟩; refine ⟨_, rfl, ?_⟩))
     go_meet
     case rel => exact ⟨_, (true), rs_, H', ⟨by first | omega | exact Nat.le_refl _⟩, ⟨bkp BK316⟩, ⟨bel⟩⟩
   rw [if_neg c14] at H
   have c14b0 : decide (8 < (l0_4.length : Int)) = false := decide_eq_false c14
   have c14b1 : decide (8 < l0_4.length) = false := decide_eq_false (by omega)
   clear c14
   as_aux_lemma =>
    have H' := Aside0.mk H
    clear H
    obtain ⟨C16_0, C16_1, C16_2, C16_3, C16_4, C16_5, -⟩ := cells_6 BK316.out trivial
    obtain ⟨F16_0, F16_1, F16_2, F16_3, F16_4, F16_5, -⟩ := frz_6 BK316.out
    go_wp2_with (first | ((with_reducible refine gate_callee (f := 71) rfl ?_); refine gl_ (some 12) Try.func71 #[.int .i64 a0_0] (h := ?_); (with_reducible refine (spec_l2index.calls a0_0 true _ A4.out).mono ?_); rintro e w' ⟨rfl, ⟨nd, rfl⟩⟩; refine ⟨_, rfl, ?_⟩))
    go_meet
    case rel => exact ⟨_, (decide ((l0_5.length : Int) > 4)), rs_, H', ⟨by first | omega | exact Nat.le_refl _⟩, ⟨bkp BK316⟩, ⟨bel⟩⟩
  replace c5 := Bool.eq_false_iff.mpr c5
  subst c5
  have H1 : (spec_StateOk.j0 k true a0_0 l0_1 l0_2 a0_3 l0_4 l0_5) = some r := by rw [if_neg (show ¬ (false = true) by decide)] at H; exact H
  clear H
  have H := H1
  clear H1
  as_aux_lemma =>
   have H' := Aside0.mk H
   clear H
   obtain ⟨C17_0, C17_1, C17_2, C17_3, C17_4, C17_5, -⟩ := cells_6 BK316.out trivial
   obtain ⟨F17_0, F17_1, F17_2, F17_3, F17_4, F17_5, -⟩ := frz_6 BK316.out
   go_wp2_with (first | ((with_reducible refine gate_callee (f := 71) rfl ?_); refine gl_ (some 12) Try.func71 #[.int .i64 a0_0] (h := ?_); (with_reducible refine (spec_l2index.calls a0_0 false _ A4.out).mono ?_); rintro e w' ⟨rfl, ⟨nd, rfl⟩⟩; refine ⟨_, rfl, ?_⟩))
   go_meet
   case rel => exact ⟨_, (true), rs_, H', ⟨by first | omega | exact Nat.le_refl _⟩, ⟨bkp BK316⟩, ⟨bel⟩⟩
 case rest => as_aux_lemma =>
  clear HC2
  try clear c1; try clear p2; try clear c5; try clear c6; try clear c6b0; try clear c6b1; try clear c7; try clear c8; try clear c8b0; try clear c8b1; try clear c10; try clear c10b0; try clear c12; try clear c12b0; try clear c14; try clear c14b0; try clear c14b1; try clear c16; try clear C11_0 C11_1 C11_2 C11_3 C11_4 C11_5; try clear C13_0 C13_1 C13_2 C13_3 C13_4 C13_5; try clear C15_0 C15_1 C15_2 C15_3 C15_4 C15_5; try clear C16_0 C16_1 C16_2 C16_3 C16_4 C16_5; try clear C17_0 C17_1 C17_2 C17_3 C17_4 C17_5; try clear C7_0 C7_1 C7_2 C7_3 C7_4 C7_5; try clear C9_0 C9_1 C9_2 C9_3 C9_4 C9_5; try clear F11_0 F11_1 F11_2 F11_3 F11_4 F11_5; try clear F13_0 F13_1 F13_2 F13_3 F13_4 F13_5; try clear F15_0 F15_1 F15_2 F15_3 F15_4 F15_5; try clear F16_0 F16_1 F16_2 F16_3 F16_4 F16_5; try clear F17_0 F17_1 F17_2 F17_3 F17_4 F17_5; try clear F7_0 F7_1 F7_2 F7_3 F7_4 F7_5; try clear F9_0 F9_1 F9_2 F9_3 F9_4 F9_5
  obtain ⟨kq, x49_1, rfl, HA, HJ1, BK316, HB⟩ := hcut
  cases kq with
  | zero => exact absurd HA.out (by simp [spec_StateOk.j0])
  | succ kj1 =>
   have H := HA.out
   clear HA
   simp only [spec_StateOk.j0] at H
   by_cases c18 : x49_1 = true
   ·subst c18
    have H1 : (some false) = some r := by rw [if_pos rfl] at H; exact H
    clear H
    have H := H1
    clear H1
    as_aux_lemma =>
     obtain rfl := Option.some.inj H
     go_wp2
     go_ret
     exact ⟨rz_, bel⟩
   replace c18 := Bool.eq_false_iff.mpr c18
   subst c18
   have H1 : (spec_StateOk.l0 kj1 0 a0_0 l0_1 l0_2 a0_3 l0_4 l0_5) = some r := by rw [if_neg (show ¬ (false = true) by decide)] at H; exact H
   clear H
   have H := H1
   clear H1
   have H' := Aside0.mk H
   clear H
   go_wp2
   go_loopg [3] kj1 (fun kq v3 w' => ∃ (x3_2 : Int), v3 = .int .i64 x3_2 ∧ Aside0 (spec_StateOk.l0 kq x3_2 a0_0 l0_1 l0_2 a0_3 l0_4 l0_5 = some r) ∧ Aside0 (kq ≤ kj1) ∧ Aside0 (w'.heap[gb316]? = some (.cells #[.int .i64 a0_0, (.slice A0_1 l0_1.length c0_1), (.slice A0_2 l0_2.length c0_2), .int .i64 a0_3, (.slice A0_4 l0_4.length c0_4), (.slice A0_5 l0_5.length c0_5)] 35 (0, 0))) ∧ Aside0 (Below w.heap.size w w'))
   case atStart => exact ⟨(0), rs_, H', ⟨Nat.le_refl _⟩, ⟨bkp BK316⟩, ⟨bel⟩⟩
   case round => as_aux_lemma =>
    clear H'
    try clear c1; try clear p2; try clear c5; try clear c6; try clear c6b0; try clear c6b1; try clear c7; try clear c8; try clear c8b0; try clear c8b1; try clear c10; try clear c10b0; try clear c12; try clear c12b0; try clear c14; try clear c14b0; try clear c14b1; try clear c16; try clear c18; try clear C11_0 C11_1 C11_2 C11_3 C11_4 C11_5; try clear C13_0 C13_1 C13_2 C13_3 C13_4 C13_5; try clear C15_0 C15_1 C15_2 C15_3 C15_4 C15_5; try clear C16_0 C16_1 C16_2 C16_3 C16_4 C16_5; try clear C17_0 C17_1 C17_2 C17_3 C17_4 C17_5; try clear C7_0 C7_1 C7_2 C7_3 C7_4 C7_5; try clear C9_0 C9_1 C9_2 C9_3 C9_4 C9_5; try clear F11_0 F11_1 F11_2 F11_3 F11_4 F11_5; try clear F13_0 F13_1 F13_2 F13_3 F13_4 F13_5; try clear F15_0 F15_1 F15_2 F15_3 F15_4 F15_5; try clear F16_0 F16_1 F16_2 F16_3 F16_4 F16_5; try clear F17_0 F17_1 F17_2 F17_3 F17_4 F17_5; try clear F7_0 F7_1 F7_2 F7_3 F7_4 F7_5; try clear F9_0 F9_1 F9_2 F9_3 F9_4 F9_5; try clear p2
    obtain ⟨x3_2, rfl, HA, HK2, BK316, HB⟩ := hrel
    cases gk with
    | zero => exact absurd HA.out (by simp [spec_StateOk.l0])
    | succ k2 =>
     have H := HA.out
     clear HA
     simp only [spec_StateOk.l0] at H
     by_cases c19 : x3_2 < (l0_1.length : Int)
     ·rw [if_pos c19] at H
      have c19b0 : decide (x3_2 < (l0_1.length : Int)) = true := decide_eq_true c19
      clear c19
      by_cases c20 : 0 ≤ x3_2
      ·rw [if_pos c20] at H
       have c20b0 : decide (0 ≤ x3_2) = true := decide_eq_true c20
       clear c20
       replace H := Option.bind_eq_some_iff.mp H
       obtain ⟨t320, A210, H⟩ := H
       replace H : (if t320 = true then ((spec_l2val.f ((rd_T92 l0_1 x3_2).f1)).bind fun t321 => (if t321 = true then (if ((rd_T92 l0_1 x3_2).f2) < 1 then (some false) else (if ((rd_T92 l0_1 x3_2).f2) > a0_0 then (some false) else (if ((rd_T92 l0_1 x3_2).f3) = 0 then (if x3_2 > 0 then (if 0 ≤ (wrap64 (x3_2 - 1)) then (if (wrap64 (x3_2 - 1)) < (l0_1.length : Int) then (if ((Op.bytesLess ((strOfNums ((rd_T92 l0_1 (wrap64 (x3_2 - 1))).f0)).toList) ((strOfNums ((rd_T92 l0_1 x3_2).f0)).toList)) = true) then (spec_StateOk.l0 k2 (wrap64 (x3_2 + 1)) a0_0 l0_1 l0_2 a0_3 l0_4 l0_5) else (some false)) else (none)) else (none)) else (spec_StateOk.l0 k2 (wrap64 (x3_2 + 1)) a0_0 l0_1 l0_2 a0_3 l0_4 l0_5)) else ((spec_l2sess.f k2 a0_0 l0_1 l0_2 a0_3 l0_4 l0_5 ((rd_T92 l0_1 x3_2).f3)).bind fun t323 => (if t323 < 0 then (some false) else (if x3_2 > 0 then (if 0 ≤ (wrap64 (x3_2 - 1)) then (if (wrap64 (x3_2 - 1)) < (l0_1.length : Int) then (if ((Op.bytesLess ((strOfNums ((rd_T92 l0_1 (wrap64 (x3_2 - 1))).f0)).toList) ((strOfNums ((rd_T92 l0_1 x3_2).f0)).toList)) = true) then (spec_StateOk.l0 k2 (wrap64 (x3_2 + 1)) a0_0 l0_1 l0_2 a0_3 l0_4 l0_5) else (some false)) else (none)) else (none)) else (spec_StateOk.l0 k2 (wrap64 (x3_2 + 1)) a0_0 l0_1 l0_2 a0_3 l0_4 l0_5))))))) else (some false))) else (some false)) = some r := H
       have A21 := Aside0.mk A210
       clear A210
       obtain ⟨hczv1_0, hczv1_1, hczv1_2, hczv1_3, hczv1_4, hczv1_5, -⟩ := cells_6 BK316.out trivial
       obtain ⟨hfzv2_0, hfzv2_1, hfzv2_2, hfzv2_3, hfzv2_4, hfzv2_5, -⟩ := frz_6 BK316.out
       have p318 : 0 ≤ (x3_2 : Int) := od
       have q318 : x3_2 < (l0_1.length : Int) := od
       obtain ⟨ad318, A318_0, c318_0, A318_1, c318_1, e318, hx318_0, hx318_1, hx318_2, hx318_3, hl318_0, hi318_0, hl318_1, hi318_1⟩ := at_T92 HR0_1.out x3_2 p318 q318
       cases e318
       replace hx318_0 := hxb HB hx318_0
       replace hx318_1 := hxb HB hx318_1
       replace hx318_2 := hxb HB hx318_2
       replace hx318_3 := hxb HB hx318_3
       have HR318_0 := Aside0.mk hi318_0
       have HC318_0 := Aside0.mk hl318_0
       clear hi318_0 hl318_0
       have HR318_1 := Aside0.mk hi318_1
       have HC318_1 := Aside0.mk hl318_1
       clear hi318_1 hl318_1
       replace p318 := eq_true p318
       replace q318 := eq_true q318
       try go_wp2_with (first | ((with_reducible refine gate_dst (N := 4) rfl ?_); (try (refine gate_guard (by rfl) ?_; dsimp only)); refine bx_ 4 #[.slice none 0 0, .slice none 0 0, .int .i64 0, .int .i64 0] 92 (h := ?_); intro gb319 hg wv1 hbox hb; have BK319 := Aside0.mk (hbox); have GW319 := Aside0.mk ((by rw [hg]; exact (below_size bel) : w.heap.size ≤ gb319)); have GE319 := GW319; have NB316_319 := Aside0.mk ((by rw [hg]; exact Nat.ne_of_lt (blt BK316) : gb316 ≠ gb319)); have NB319_316 := Aside0.mk NB316_319.out.symm; replace BK316 := Aside0.mk (blb BK316 hb); replace HB := bst hb; clear hb hbox hg; have hnbv3 := NB319_316.out; have hncv4 := NB316_319.out; obtain ⟨hczv5_0, hczv5_1, hczv5_2, hczv5_3, -⟩ := cells_4 BK319.out trivial; obtain ⟨hfzv6_0, hfzv6_1, hfzv6_2, hfzv6_3, -⟩ := frz_4 BK319.out))
       refine put4_ BK319.out ?_
       intro wv2 hp_ hf_ hb_
       replace BK316 := Aside0.mk ((hf_ _ NB316_319.out).trans BK316.out)
       replace HB := Aside0.mk (hb_ _ HB.out GE319.out)
       replace BK319 := Aside0.mk hp_
       clear hp_ hf_ hb_
       replace BK316 := Aside0.mk (blk_drew BK316.out)
       replace BK319 := Aside0.mk (blk_drew BK319.out)
       replace HB := Aside0.mk (below_drew1 HB.out)
       refine start_ (n := 52) (S := fun w' => w'.cell? ⟨gb319, 0, none⟩ = some (.slice A318_0 ((rd_T92 l0_1 x3_2).f0).length c318_0) ∧ w'.cell? ⟨gb319, 1, none⟩ = some (.slice A318_1 ((rd_T92 l0_1 x3_2).f1).length c318_1) ∧ w'.cell? ⟨gb319, 2, none⟩ = some (.int .i64 ((rd_T92 l0_1 x3_2).f2)) ∧ w'.cell? ⟨gb319, 3, none⟩ = some (.int .i64 ((rd_T92 l0_1 x3_2).f3)) ∧ w'.cell? ⟨gb316, 0, none⟩ = some (.int .i64 a0_0) ∧ w'.cell? ⟨gb316, 1, none⟩ = some (.slice (some ad318) l0_1.length c0_1) ∧ w'.cell? ⟨gb316, 2, none⟩ = some (.slice A0_2 l0_2.length c0_2) ∧ w'.cell? ⟨gb316, 3, none⟩ = some (.int .i64 a0_3) ∧ w'.cell? ⟨gb316, 4, none⟩ = some (.slice A0_4 l0_4.length c0_4) ∧ w'.cell? ⟨gb316, 5, none⟩ = some (.slice A0_5 l0_5.length c0_5)) (ds := []) (tf 0 52) (by kernel_rfl) rfl rfl (cells_4 BK319.out (cellz_6 BK316.out)) (fun hHeld => ?_); refine with_tabW spec_StateOk.tab7 spec_StateOk.bits7 (fun HT_ HW_ => ?_)
       generalize wv2.drew = wv3 at BK316 BK319 HB hHeld ⊢
       refine pvn_ HT_ (h := ?_)
       refine tvn_ HT_ HW_ hHeld (h := ?_)
       refine one_ (i := 2) (N := some 64) (tf 3 49) rfl rfl (one_of HT_.out (by kernel_rfl)) (by decide) (fun K hK => ?_)
       refine gs_ Try.func72 #[.slice A318_0 ((rd_T92 l0_1 x3_2).f0).length c318_0] (h := ?_)
       with_reducible refine (spec_l2key.calls k2 _ _ ((rd_T92 l0_1 x3_2).f0) t320 _ ?side1 ?side2 A21.out).mono ?_
       (case side1 => exact kcb)
       (case side2 => exact HC318_0.out)
       rintro e w' ⟨rfl, ⟨nd, rfl⟩⟩
       refine ⟨_, rfl, ?_⟩
       refine hK.out _ _ (cells_4 BK319.out (cellz_6 BK316.out)) (fun hHeld => ?_)
       clear hK K
       refine nrm_ (some 64) (h := ?_)
       by_cases c22 : t320 = true
       ·subst c22
        have H1 : ((spec_l2val.f ((rd_T92 l0_1 x3_2).f1)).bind fun t321 => (if t321 = true then (if ((rd_T92 l0_1 x3_2).f2) < 1 then (some false) else (if ((rd_T92 l0_1 x3_2).f2) > a0_0 then (some false) else (if ((rd_T92 l0_1 x3_2).f3) = 0 then (if x3_2 > 0 then (if 0 ≤ (wrap64 (x3_2 - 1)) then (if (wrap64 (x3_2 - 1)) < (l0_1.length : Int) then (if ((Op.bytesLess ((strOfNums ((rd_T92 l0_1 (wrap64 (x3_2 - 1))).f0)).toList) ((strOfNums ((rd_T92 l0_1 x3_2).f0)).toList)) = true) then (spec_StateOk.l0 k2 (wrap64 (x3_2 + 1)) a0_0 l0_1 l0_2 a0_3 l0_4 l0_5) else (some false)) else (none)) else (none)) else (spec_StateOk.l0 k2 (wrap64 (x3_2 + 1)) a0_0 l0_1 l0_2 a0_3 l0_4 l0_5)) else ((spec_l2sess.f k2 a0_0 l0_1 l0_2 a0_3 l0_4 l0_5 ((rd_T92 l0_1 x3_2).f3)).bind fun t323 => (if t323 < 0 then (some false) else (if x3_2 > 0 then (if 0 ≤ (wrap64 (x3_2 - 1)) then (if (wrap64 (x3_2 - 1)) < (l0_1.length : Int) then (if ((Op.bytesLess ((strOfNums ((rd_T92 l0_1 (wrap64 (x3_2 - 1))).f0)).toList) ((strOfNums ((rd_T92 l0_1 x3_2).f0)).toList)) = true) then (spec_StateOk.l0 k2 (wrap64 (x3_2 + 1)) a0_0 l0_1 l0_2 a0_3 l0_4 l0_5) else (some false)) else (none)) else (none)) else (spec_StateOk.l0 k2 (wrap64 (x3_2 + 1)) a0_0 l0_1 l0_2 a0_3 l0_4 l0_5))))))) else (some false))) = some r := by rw [if_pos rfl] at H; exact H
        clear H
        have H := H1
        clear H1
        replace H := Option.bind_eq_some_iff.mp H
        obtain ⟨t321, A230, H⟩ := H
        replace H : (if t321 = true then (if ((rd_T92 l0_1 x3_2).f2) < 1 then (some false) else (if ((rd_T92 l0_1 x3_2).f2) > a0_0 then (some false) else (if ((rd_T92 l0_1 x3_2).f3) = 0 then (if x3_2 > 0 then (if 0 ≤ (wrap64 (x3_2 - 1)) then (if (wrap64 (x3_2 - 1)) < (l0_1.length : Int) then (if ((Op.bytesLess ((strOfNums ((rd_T92 l0_1 (wrap64 (x3_2 - 1))).f0)).toList) ((strOfNums ((rd_T92 l0_1 x3_2).f0)).toList)) = true) then (spec_StateOk.l0 k2 (wrap64 (x3_2 + 1)) a0_0 l0_1 l0_2 a0_3 l0_4 l0_5) else (some false)) else (none)) else (none)) else (spec_StateOk.l0 k2 (wrap64 (x3_2 + 1)) a0_0 l0_1 l0_2 a0_3 l0_4 l0_5)) else ((spec_l2sess.f k2 a0_0 l0_1 l0_2 a0_3 l0_4 l0_5 ((rd_T92 l0_1 x3_2).f3)).bind fun t323 => (if t323 < 0 then (some false) else (if x3_2 > 0 then (if 0 ≤ (wrap64 (x3_2 - 1)) then (if (wrap64 (x3_2 - 1)) < (l0_1.length : Int) then (if ((Op.bytesLess ((strOfNums ((rd_T92 l0_1 (wrap64 (x3_2 - 1))).f0)).toList) ((strOfNums ((rd_T92 l0_1 x3_2).f0)).toList)) = true) then (spec_StateOk.l0 k2 (wrap64 (x3_2 + 1)) a0_0 l0_1 l0_2 a0_3 l0_4 l0_5) else (some false)) else (none)) else (none)) else (spec_StateOk.l0 k2 (wrap64 (x3_2 + 1)) a0_0 l0_1 l0_2 a0_3 l0_4 l0_5))))))) else (some false)) = some r := H
        have A23 := Aside0.mk A230
        clear A230
        iterate 3 (refine pvn_ HT_ (h := ?_))
        refine tvn_ HT_ HW_ hHeld (h := ?_)
        refine one_ (i := 7) (N := some 69) (tf 8 44) rfl rfl (one_of HT_.out (by kernel_rfl)) (by decide) (fun K hK => ?_)
        refine gs_ Try.func73 #[.slice A318_1 ((rd_T92 l0_1 x3_2).f1).length c318_1] (h := ?_)
        with_reducible refine (spec_l2val.calls _ _ ((rd_T92 l0_1 x3_2).f1) t321 _ ?side1 ?side2 A23.out).mono ?_
        (case side1 => exact kcb)
        (case side2 => exact HC318_1.out)
        rintro e w' ⟨rfl, ⟨nd, rfl⟩⟩
        refine ⟨_, rfl, ?_⟩
        refine hK.out _ _ (cells_4 BK319.out (cellz_6 BK316.out)) (fun hHeld => ?_)
        clear hK K
        refine nrm_ (some 69) (h := ?_)
        by_cases c24 : t321 = true
        ·subst c24
         have H1 : (if ((rd_T92 l0_1 x3_2).f2) < 1 then (some false) else (if ((rd_T92 l0_1 x3_2).f2) > a0_0 then (some false) else (if ((rd_T92 l0_1 x3_2).f3) = 0 then (if x3_2 > 0 then (if 0 ≤ (wrap64 (x3_2 - 1)) then (if (wrap64 (x3_2 - 1)) < (l0_1.length : Int) then (if ((Op.bytesLess ((strOfNums ((rd_T92 l0_1 (wrap64 (x3_2 - 1))).f0)).toList) ((strOfNums ((rd_T92 l0_1 x3_2).f0)).toList)) = true) then (spec_StateOk.l0 k2 (wrap64 (x3_2 + 1)) a0_0 l0_1 l0_2 a0_3 l0_4 l0_5) else (some false)) else (none)) else (none)) else (spec_StateOk.l0 k2 (wrap64 (x3_2 + 1)) a0_0 l0_1 l0_2 a0_3 l0_4 l0_5)) else ((spec_l2sess.f k2 a0_0 l0_1 l0_2 a0_3 l0_4 l0_5 ((rd_T92 l0_1 x3_2).f3)).bind fun t323 => (if t323 < 0 then (some false) else (if x3_2 > 0 then (if 0 ≤ (wrap64 (x3_2 - 1)) then (if (wrap64 (x3_2 - 1)) < (l0_1.length : Int) then (if ((Op.bytesLess ((strOfNums ((rd_T92 l0_1 (wrap64 (x3_2 - 1))).f0)).toList) ((strOfNums ((rd_T92 l0_1 x3_2).f0)).toList)) = true) then (spec_StateOk.l0 k2 (wrap64 (x3_2 + 1)) a0_0 l0_1 l0_2 a0_3 l0_4 l0_5) else (some false)) else (none)) else (none)) else (spec_StateOk.l0 k2 (wrap64 (x3_2 + 1)) a0_0 l0_1 l0_2 a0_3 l0_4 l0_5))))))) = some r := by rw [if_pos rfl] at H; exact H
         clear H
         have H := H1
         clear H1
         by_cases c25 : ((rd_T92 l0_1 x3_2).f2) < 1
         ·rw [if_pos c25] at H
          have c25b0 : decide (((rd_T92 l0_1 x3_2).f2) < 1) = true := decide_eq_true c25
          clear c25
          obtain rfl := Option.some.inj H
          iterate 4 (refine pvn_ HT_ (h := ?_))
          refine tvn_ HT_ HW_ hHeld (h := ?_)
          iterate 3 (refine pvn_ HT_ (h := ?_))
          refine puns_ HT_ 5 [some _, some _, some _, some _, some _] (h := ?_)
          iterate 2 (refine pvn_ HT_ (h := ?_))
          refine puns_ HT_ 10 [some _, some _, some _, some _, some _, some _, some _, some _, some _, some _] (h := ?_)
          iterate 2 (refine pvn_ HT_ (h := ?_))
          refine puns_ HT_ 16 [some _, some _, some _, some _, some _, some _, some _, some _, some _, some _, some _, some _, some _, some _, some _, some _] (h := ?_)
          refine pvn_ HT_ (h := ?_)
          refine done_ (done_of HT_.out (by kernel_rfl)) ?_
          try go_wp2
          go_ret
          exact ⟨rz_, bel⟩
         rw [if_neg c25] at H
         have c25b0 : decide (((rd_T92 l0_1 x3_2).f2) < 1) = false := decide_eq_false c25
         clear c25
         by_cases c32 : ((rd_T92 l0_1 x3_2).f2) > a0_0
         ·rw [if_pos c32] at H
          have c32b0 : decide (a0_0 < ((rd_T92 l0_1 x3_2).f2)) = true := decide_eq_true c32
          clear c32
          obtain rfl := Option.some.inj H
          iterate 4 (refine pvn_ HT_ (h := ?_))
          refine tvn_ HT_ HW_ hHeld (h := ?_)
          iterate 4 (refine pvn_ HT_ (h := ?_))
          refine pv_ HT_ 18 (some 80) (tb 52 393215) (h := ?_)
          refine tv_ HT_ HW_ hHeld 17 (some 79) (tf 19 33) (h := ?_)
          refine tvn_ HT_ HW_ hHeld (h := ?_)
          iterate 3 (refine pvn_ HT_ (h := ?_))
          refine puns_ HT_ 10 [some _, some _, some _, some _, some _, some _, some _, some _, some _, some _] (h := ?_)
          iterate 2 (refine pvn_ HT_ (h := ?_))
          refine puns_ HT_ 16 [some _, some _, some _, some _, some _, some _, some _, some _, some _, some _, some _, some _, some _, some _, some _, some _] (h := ?_)
          refine pvn_ HT_ (h := ?_)
          refine done_ (done_of HT_.out (by kernel_rfl)) ?_
          try go_wp2
          go_ret
          exact ⟨rz_, bel⟩
         rw [if_neg c32] at H
         have c32b0 : decide (a0_0 < ((rd_T92 l0_1 x3_2).f2)) = false := decide_eq_false c32
         clear c32
         by_cases c39 : ((rd_T92 l0_1 x3_2).f3) = 0
         ·rw [if_pos c39] at H
          have c39b0 : (((rd_T92 l0_1 x3_2).f3) == 0) = true := beq_iff_eq.mpr c39
          have c39b1 : (((rd_T92 l0_1 x3_2).f3) != 0) = false := bne_eq_false_iff_eq.mpr c39
          clear c39
          by_cases c40 : x3_2 > 0
          ·rw [if_pos c40] at H
           have c40b0 : decide (0 < x3_2) = true := decide_eq_true c40
           clear c40
           obtain ⟨ji41, hji41⟩ : ∃ j_ : Int, (wrap64 (x3_2 - 1)) = j_ := ⟨_, rfl⟩
           replace H : (if 0 ≤ (ji41) then (if (ji41) < (l0_1.length : Int) then (if ((Op.bytesLess ((strOfNums ((rd_T92 l0_1 (ji41)).f0)).toList) ((strOfNums ((rd_T92 l0_1 x3_2).f0)).toList)) = true) then (spec_StateOk.l0 k2 (wrap64 (x3_2 + 1)) a0_0 l0_1 l0_2 a0_3 l0_4 l0_5) else (some false)) else (none)) else (none)) = some r := by first | (rw [hji41] at H; exact H) | (simp only [hji41] at H ⊢; exact H)
           (try rw [hji41] at A21)
           (try rw [hji41] at A23)
           have hji41w : (IntKind.i64.wrap (x3_2 - 1)) = ji41 := (i64_w _).trans hji41
           by_cases c42 : 0 ≤ (ji41)
           ·rw [if_pos c42] at H
            have c42b0 : decide (0 ≤ (ji41)) = true := decide_eq_true c42
            clear c42
            by_cases c43 : (ji41) < (l0_1.length : Int)
            ·rw [if_pos c43] at H
             have c43b0 : decide ((ji41) < (l0_1.length : Int)) = true := decide_eq_true c43
             clear c43
             have p322 : 0 ≤ ((ji41) : Int) := od
             have q322 : (ji41) < (l0_1.length : Int) := od
             obtain ⟨ad322, A322_0, c322_0, A322_1, c322_1, e322, hx322_0, hx322_1, hx322_2, hx322_3, hl322_0, hi322_0, hl322_1, hi322_1⟩ := at_T92 HR0_1.out (ji41) p322 q322
             have hw322_3 := hx322_3
             have hw322_2 := hx322_2
             have hw322_1 := hx322_1
             have hw322_0 := hx322_0
             obtain rfl : ad318 = ad322 := (by injection e322)
             replace hx322_0 := hxb HB hx322_0
             replace hx322_1 := hxb HB hx322_1
             replace hx322_2 := hxb HB hx322_2
             replace hx322_3 := hxb HB hx322_3
             have HR322_0 := Aside0.mk hi322_0
             have HC322_0 := Aside0.mk hl322_0
             clear hi322_0 hl322_0
             have HR322_1 := Aside0.mk hi322_1
             have HC322_1 := Aside0.mk hl322_1
             clear hi322_1 hl322_1
             replace p322 := eq_true p322
             replace q322 := eq_true q322
             refine widen_ (S' := fun w' => w'.cell? ⟨gb319, 0, none⟩ = some (.slice A318_0 ((rd_T92 l0_1 x3_2).f0).length c318_0) ∧ w'.cell? ⟨gb319, 1, none⟩ = some (.slice A318_1 ((rd_T92 l0_1 x3_2).f1).length c318_1) ∧ w'.cell? ⟨gb319, 2, none⟩ = some (.int .i64 ((rd_T92 l0_1 x3_2).f2)) ∧ w'.cell? ⟨gb319, 3, none⟩ = some (.int .i64 ((rd_T92 l0_1 x3_2).f3)) ∧ w'.cell? ⟨gb316, 0, none⟩ = some (.int .i64 a0_0) ∧ w'.cell? ⟨gb316, 1, none⟩ = some (.slice (some ad318) l0_1.length c0_1) ∧ w'.cell? ⟨gb316, 2, none⟩ = some (.slice A0_2 l0_2.length c0_2) ∧ w'.cell? ⟨gb316, 3, none⟩ = some (.int .i64 a0_3) ∧ w'.cell? ⟨gb316, 4, none⟩ = some (.slice A0_4 l0_4.length c0_4) ∧ w'.cell? ⟨gb316, 5, none⟩ = some (.slice A0_5 l0_5.length c0_5) ∧ w'.cell? (ad318.add (((ji41)).toNat * 4)) = some (.slice A322_0 ((rd_T92 l0_1 (ji41)).f0).length c322_0) ∧ w'.cell? ⟨(ad318.add (((ji41)).toNat * 4)).block, (ad318.add (((ji41)).toNat * 4)).off + 1, none⟩ = some (.slice A322_1 ((rd_T92 l0_1 (ji41)).f1).length c322_1) ∧ w'.cell? ⟨(ad318.add (((ji41)).toNat * 4)).block, (ad318.add (((ji41)).toNat * 4)).off + 2, none⟩ = some (.int .i64 ((rd_T92 l0_1 (ji41)).f2)) ∧ w'.cell? ⟨(ad318.add (((ji41)).toNat * 4)).block, (ad318.add (((ji41)).toNat * 4)).off + 3, none⟩ = some (.int .i64 ((rd_T92 l0_1 (ji41)).f3)) ∧ (convert 52 9 (.slice A322_0 ((rd_T92 l0_1 (ji41)).f0).length c322_0)).run Try.prog w' = .ok (.string (strOfNums ((rd_T92 l0_1 (ji41)).f0))) w' ∧ (convert 52 9 (.slice A318_0 ((rd_T92 l0_1 x3_2).f0).length c318_0)).run Try.prog w' = .ok (.string (strOfNums ((rd_T92 l0_1 x3_2).f0))) w') (fun _ h_ => ⟨h_.1, h_.2.1, h_.2.2.1, h_.2.2.2.1, h_.2.2.2.2.1, h_.2.2.2.2.2.1, h_.2.2.2.2.2.2.1, h_.2.2.2.2.2.2.2.1, h_.2.2.2.2.2.2.2.2.1, h_.2.2.2.2.2.2.2.2.2.1⟩) (cells_4 BK319.out (cells_6 BK316.out ⟨(hxb HB hw322_0 :), (hxb HB hw322_1 :), (hxb HB hw322_2 :), (hxb HB hw322_3 :), (Kd.C_string (P := Try.prog) (A := A322_0) (c := c322_0) Try.underlying52 Try.underlying5 Try.underlying9 (Kd.C_below HR322_0.out bel)), (Kd.C_string (P := Try.prog) (A := A318_0) (c := c318_0) Try.underlying52 Try.underlying5 Try.underlying9 (Kd.C_below HR318_0.out bel))⟩)) (h := ?_)
             clear hHeld; intro hHeld
             iterate 9 (refine tvn_ HT_ HW_ hHeld (h := ?_))
             refine tv_ HT_ HW_ hHeld 18 (some 80) (tb 52 393215) (h := ?_)
             refine tv_ HT_ HW_ hHeld 17 (some 79) (tf 19 33) (h := ?_)
             iterate 8 (refine tvn_ HT_ HW_ hHeld (h := ?_))
             refine puns_ HT_ 5 [some _, some _, some _, some _, some _] (h := ?_)
             iterate 7 (refine tvn_ HT_ HW_ hHeld (h := ?_))
             refine tv_ HT_ HW_ hHeld 40 (some 102) (tb 52 1649267441663) (h := ?_)
             refine tv_ HT_ HW_ hHeld 41 (some 103) (tb 52 3848290697215) (h := ?_)
             refine tv_ HT_ HW_ hHeld 46 (some 108) (tb 52 74217034874879) (h := ?_)
             refine tv_ HT_ HW_ hHeld 39 (some 101) (tb 52 74766790688767) (h := ?_)
             refine tv_ HT_ HW_ hHeld 42 (some 104) (tb 52 79164837199871) (h := ?_)
             refine tv_ HT_ HW_ hHeld 43 (some 105) (tb 52 87960930222079) (h := ?_)
             refine tv_ HT_ HW_ hHeld 44 (some 106) (tb 52 105553116266495) (h := ?_)
             refine tv_ HT_ HW_ hHeld 45 (some 107) (tf 47 5) (h := ?_)
             refine tvn_ HT_ HW_ hHeld (h := ?_)
             by_cases c44 : ((Op.bytesLess ((strOfNums ((rd_T92 l0_1 (ji41)).f0)).toList) ((strOfNums ((rd_T92 l0_1 x3_2).f0)).toList)) = true)
             ·rw [if_pos c44] at H
              have c44b0 : (Op.bytesLess ((strOfNums ((rd_T92 l0_1 (ji41)).f0)).toList) ((strOfNums ((rd_T92 l0_1 x3_2).f0)).toList)) = true := c44
              clear c44
              have H' := Aside0.mk H
              clear H
              iterate 4 (refine tvn_ HT_ HW_ hHeld (h := ?_))
              refine done_ (done_of HT_.out (by kernel_rfl)) ?_
              try go_wp2
              go_roundg k2
              case measure => have := HJ1.out; have := HK2.out; omega
              case rel => exact ⟨(wrap64 (x3_2 + 1)), rs_, H', ⟨by have := HJ1.out; have := HK2.out; omega⟩, ⟨bkp BK316⟩, ⟨bel⟩⟩
             rw [if_neg c44] at H
             have c44b0 : (Op.bytesLess ((strOfNums ((rd_T92 l0_1 (ji41)).f0)).toList) ((strOfNums ((rd_T92 l0_1 x3_2).f0)).toList)) = false := by simpa using c44
             clear c44
             obtain rfl := Option.some.inj H
             iterate 4 (refine tvn_ HT_ HW_ hHeld (h := ?_))
             refine done_ (done_of HT_.out (by kernel_rfl)) ?_
             try go_wp2
             go_ret
             exact ⟨by first | rfl | (simp [errW_none, errW_some] <;> rfl) | (simp only [← hji41]; first | rfl | (simp [errW_none, errW_some] <;> rfl)) | (simp [*, errW_none, errW_some] <;> rfl), bel⟩
            rw [if_neg c43] at H
            exact absurd H (by simp)
           rw [if_neg c42] at H
           exact absurd H (by simp)
          rw [if_neg c40] at H
          have c40b0 : decide (0 < x3_2) = false := decide_eq_false c40
          clear c40
          have H' := Aside0.mk H
          clear H
          iterate 4 (refine pvn_ HT_ (h := ?_))
          refine tvn_ HT_ HW_ hHeld (h := ?_)
          iterate 4 (refine pvn_ HT_ (h := ?_))
          refine pv_ HT_ 18 (some 80) (tb 52 393215) (h := ?_)
          refine tv_ HT_ HW_ hHeld 17 (some 79) (tf 19 33) (h := ?_)
          refine tvn_ HT_ HW_ hHeld (h := ?_)
          iterate 4 (refine pvn_ HT_ (h := ?_))
          refine tvn_ HT_ HW_ hHeld (h := ?_)
          iterate 2 (refine pvn_ HT_ (h := ?_))
          refine puns_ HT_ 5 [some _, some _, some _, some _, some _] (h := ?_)
          iterate 6 (refine pvn_ HT_ (h := ?_))
          refine puns_ HT_ 12 [some _, some _, some _, some _, some _, some _, some _, some _, some _, some _, some _, some _] (h := ?_)
          iterate 2 (refine pvn_ HT_ (h := ?_))
          refine done_ (done_of HT_.out (by kernel_rfl)) ?_
          try go_wp2
          go_roundg k2
          case measure => have := HJ1.out; have := HK2.out; omega
          case rel => exact ⟨(wrap64 (x3_2 + 1)), rs_, H', ⟨by have := HJ1.out; have := HK2.out; omega⟩, ⟨bkp BK316⟩, ⟨bel⟩⟩
         rw [if_neg c39] at H
         have c39b0 : (((rd_T92 l0_1 x3_2).f3) == 0) = false := beq_eq_false_iff_ne.mpr c39
         have c39b1 : (((rd_T92 l0_1 x3_2).f3) != 0) = true := bne_iff_ne.mpr c39
         replace H := Option.bind_eq_some_iff.mp H
         obtain ⟨t323, A690, H⟩ := H
         replace H : (if t323 < 0 then (some false) else (if x3_2 > 0 then (if 0 ≤ (wrap64 (x3_2 - 1)) then (if (wrap64 (x3_2 - 1)) < (l0_1.length : Int) then (if ((Op.bytesLess ((strOfNums ((rd_T92 l0_1 (wrap64 (x3_2 - 1))).f0)).toList) ((strOfNums ((rd_T92 l0_1 x3_2).f0)).toList)) = true) then (spec_StateOk.l0 k2 (wrap64 (x3_2 + 1)) a0_0 l0_1 l0_2 a0_3 l0_4 l0_5) else (some false)) else (none)) else (none)) else (spec_StateOk.l0 k2 (wrap64 (x3_2 + 1)) a0_0 l0_1 l0_2 a0_3 l0_4 l0_5))) = some r := H
         have A69 := Aside0.mk A690
         clear A690
         iterate 4 (refine pvn_ HT_ (h := ?_))
         refine tvn_ HT_ HW_ hHeld (h := ?_)
         iterate 4 (refine pvn_ HT_ (h := ?_))
         refine pv_ HT_ 18 (some 80) (tb 52 393215) (h := ?_)
         refine tv_ HT_ HW_ hHeld 17 (some 79) (tf 19 33) (h := ?_)
         refine tvn_ HT_ HW_ hHeld (h := ?_)
         iterate 4 (refine pvn_ HT_ (h := ?_))
         refine tvn_ HT_ HW_ hHeld (h := ?_)
         iterate 2 (refine pvn_ HT_ (h := ?_))
         refine pv_ HT_ 28 (some 90) (tb 52 402653183) (h := ?_)
         refine tv_ HT_ HW_ hHeld 27 (some 89) (tf 29 23) (h := ?_)
         refine tvn_ HT_ HW_ hHeld (h := ?_)
         refine one_ (i := 30) (N := some 92) (tf 31 21) rfl rfl (one_of HT_.out (by kernel_rfl)) (by decide) (fun K hK => ?_)
         refine gs_ Try.func74 #[.agg #[.int .i64 a0_0, .slice (some ad318) l0_1.length c0_1, .slice A0_2 l0_2.length c0_2, .int .i64 a0_3, .slice A0_4 l0_4.length c0_4, .slice A0_5 l0_5.length c0_5], .int .i64 ((rd_T92 l0_1 x3_2).f3)] (h := ?_)
         with_reducible refine (spec_l2sess.calls k2 a0_0 _ _ l0_1 _ _ l0_2 a0_3 _ _ l0_4 _ _ l0_5 ((rd_T92 l0_1 x3_2).f3) t323 _ ?side1 ?side2 ?side3 ?side4 ?side5 ?side6 ?side7 ?side8 A69.out).mono ?_
         (case side1 => exact kcb)
         (case side2 => exact HC0_1.out)
         (case side3 => exact kcb)
         (case side4 => exact HC0_2.out)
         (case side5 => exact kcb)
         (case side6 => exact HC0_4.out)
         (case side7 => exact kcb)
         (case side8 => exact HC0_5.out)
         rintro e wv4 ⟨rfl, hb⟩
         refine ⟨_, rfl, ?_⟩
         replace BK316 := Aside0.mk (blb BK316 hb)
         replace BK319 := Aside0.mk (blb BK319 hb)
         replace HB := bst hb
         (try clear hb)
         (try clear hb2)
         (try clear hk)
         (try clear hi)
         refine hK.out _ _ (cells_4 BK319.out (cellz_6 BK316.out)) (fun hHeld => ?_)
         clear hK K
         refine nrm_ (some 92) (h := ?_)
         by_cases c70 : t323 < 0
         ·rw [if_pos c70] at H
          have c70b0 : decide (t323 < 0) = true := decide_eq_true c70
          clear c70
          obtain rfl := Option.some.inj H
          iterate 4 (refine pvn_ HT_ (h := ?_))
          refine puns_ HT_ 16 [some _, some _, some _, some _, some _, some _, some _, some _, some _, some _, some _, some _, some _, some _, some _, some _] (h := ?_)
          refine pvn_ HT_ (h := ?_)
          refine done_ (done_of HT_.out (by kernel_rfl)) ?_
          try go_wp2
          go_ret
          exact ⟨rz_, bel⟩
         rw [if_neg c70] at H
         have c70b0 : decide (t323 < 0) = false := decide_eq_false c70
         clear c70
         by_cases c78 : x3_2 > 0
         ·rw [if_pos c78] at H
          have c78b0 : decide (0 < x3_2) = true := decide_eq_true c78
          clear c78
          obtain ⟨ji79, hji79⟩ : ∃ j_ : Int, (wrap64 (x3_2 - 1)) = j_ := ⟨_, rfl⟩
          replace H : (if 0 ≤ (ji79) then (if (ji79) < (l0_1.length : Int) then (if ((Op.bytesLess ((strOfNums ((rd_T92 l0_1 (ji79)).f0)).toList) ((strOfNums ((rd_T92 l0_1 x3_2).f0)).toList)) = true) then (spec_StateOk.l0 k2 (wrap64 (x3_2 + 1)) a0_0 l0_1 l0_2 a0_3 l0_4 l0_5) else (some false)) else (none)) else (none)) = some r := by first | (rw [hji79] at H; exact H) | (simp only [hji79] at H ⊢; exact H)
          (try rw [hji79] at A21)
          (try rw [hji79] at A23)
          (try rw [hji79] at A69)
          have hji79w : (IntKind.i64.wrap (x3_2 - 1)) = ji79 := (i64_w _).trans hji79
          by_cases c80 : 0 ≤ (ji79)
          ·rw [if_pos c80] at H
           have c80b0 : decide (0 ≤ (ji79)) = true := decide_eq_true c80
           clear c80
           by_cases c81 : (ji79) < (l0_1.length : Int)
           ·rw [if_pos c81] at H
            have c81b0 : decide ((ji79) < (l0_1.length : Int)) = true := decide_eq_true c81
            clear c81
            have p324 : 0 ≤ ((ji79) : Int) := od
            have q324 : (ji79) < (l0_1.length : Int) := od
            obtain ⟨ad324, A324_0, c324_0, A324_1, c324_1, e324, hx324_0, hx324_1, hx324_2, hx324_3, hl324_0, hi324_0, hl324_1, hi324_1⟩ := at_T92 HR0_1.out (ji79) p324 q324
            have hw324_3 := hx324_3
            have hw324_2 := hx324_2
            have hw324_1 := hx324_1
            have hw324_0 := hx324_0
            obtain rfl : ad318 = ad324 := (by injection e324)
            replace hx324_0 := hxb HB hx324_0
            replace hx324_1 := hxb HB hx324_1
            replace hx324_2 := hxb HB hx324_2
            replace hx324_3 := hxb HB hx324_3
            have HR324_0 := Aside0.mk hi324_0
            have HC324_0 := Aside0.mk hl324_0
            clear hi324_0 hl324_0
            have HR324_1 := Aside0.mk hi324_1
            have HC324_1 := Aside0.mk hl324_1
            clear hi324_1 hl324_1
            replace p324 := eq_true p324
            replace q324 := eq_true q324
            refine widen_ (S' := fun w' => w'.cell? ⟨gb319, 0, none⟩ = some (.slice A318_0 ((rd_T92 l0_1 x3_2).f0).length c318_0) ∧ w'.cell? ⟨gb319, 1, none⟩ = some (.slice A318_1 ((rd_T92 l0_1 x3_2).f1).length c318_1) ∧ w'.cell? ⟨gb319, 2, none⟩ = some (.int .i64 ((rd_T92 l0_1 x3_2).f2)) ∧ w'.cell? ⟨gb319, 3, none⟩ = some (.int .i64 ((rd_T92 l0_1 x3_2).f3)) ∧ w'.cell? ⟨gb316, 0, none⟩ = some (.int .i64 a0_0) ∧ w'.cell? ⟨gb316, 1, none⟩ = some (.slice (some ad318) l0_1.length c0_1) ∧ w'.cell? ⟨gb316, 2, none⟩ = some (.slice A0_2 l0_2.length c0_2) ∧ w'.cell? ⟨gb316, 3, none⟩ = some (.int .i64 a0_3) ∧ w'.cell? ⟨gb316, 4, none⟩ = some (.slice A0_4 l0_4.length c0_4) ∧ w'.cell? ⟨gb316, 5, none⟩ = some (.slice A0_5 l0_5.length c0_5) ∧ w'.cell? (ad318.add (((ji79)).toNat * 4)) = some (.slice A324_0 ((rd_T92 l0_1 (ji79)).f0).length c324_0) ∧ w'.cell? ⟨(ad318.add (((ji79)).toNat * 4)).block, (ad318.add (((ji79)).toNat * 4)).off + 1, none⟩ = some (.slice A324_1 ((rd_T92 l0_1 (ji79)).f1).length c324_1) ∧ w'.cell? ⟨(ad318.add (((ji79)).toNat * 4)).block, (ad318.add (((ji79)).toNat * 4)).off + 2, none⟩ = some (.int .i64 ((rd_T92 l0_1 (ji79)).f2)) ∧ w'.cell? ⟨(ad318.add (((ji79)).toNat * 4)).block, (ad318.add (((ji79)).toNat * 4)).off + 3, none⟩ = some (.int .i64 ((rd_T92 l0_1 (ji79)).f3)) ∧ (convert 52 9 (.slice A324_0 ((rd_T92 l0_1 (ji79)).f0).length c324_0)).run Try.prog w' = .ok (.string (strOfNums ((rd_T92 l0_1 (ji79)).f0))) w' ∧ (convert 52 9 (.slice A318_0 ((rd_T92 l0_1 x3_2).f0).length c318_0)).run Try.prog w' = .ok (.string (strOfNums ((rd_T92 l0_1 x3_2).f0))) w') (fun _ h_ => ⟨h_.1, h_.2.1, h_.2.2.1, h_.2.2.2.1, h_.2.2.2.2.1, h_.2.2.2.2.2.1, h_.2.2.2.2.2.2.1, h_.2.2.2.2.2.2.2.1, h_.2.2.2.2.2.2.2.2.1, h_.2.2.2.2.2.2.2.2.2.1⟩) (cells_4 BK319.out (cells_6 BK316.out ⟨(hxb HB hw324_0 :), (hxb HB hw324_1 :), (hxb HB hw324_2 :), (hxb HB hw324_3 :), (Kd.C_string (P := Try.prog) (A := A324_0) (c := c324_0) Try.underlying52 Try.underlying5 Try.underlying9 (Kd.C_below HR324_0.out bel)), (Kd.C_string (P := Try.prog) (A := A318_0) (c := c318_0) Try.underlying52 Try.underlying5 Try.underlying9 (Kd.C_below HR318_0.out bel))⟩)) (h := ?_)
            clear hHeld; intro hHeld
            iterate 8 (refine tvn_ HT_ HW_ hHeld (h := ?_))
            refine tv_ HT_ HW_ hHeld 40 (some 102) (tb 52 1649267441663) (h := ?_)
            refine tv_ HT_ HW_ hHeld 41 (some 103) (tb 52 3848290697215) (h := ?_)
            refine tv_ HT_ HW_ hHeld 46 (some 108) (tb 52 74217034874879) (h := ?_)
            refine tv_ HT_ HW_ hHeld 39 (some 101) (tb 52 74766790688767) (h := ?_)
            refine tv_ HT_ HW_ hHeld 42 (some 104) (tb 52 79164837199871) (h := ?_)
            refine tv_ HT_ HW_ hHeld 43 (some 105) (tb 52 87960930222079) (h := ?_)
            refine tv_ HT_ HW_ hHeld 44 (some 106) (tb 52 105553116266495) (h := ?_)
            refine tv_ HT_ HW_ hHeld 45 (some 107) (tf 47 5) (h := ?_)
            refine tvn_ HT_ HW_ hHeld (h := ?_)
            by_cases c82 : ((Op.bytesLess ((strOfNums ((rd_T92 l0_1 (ji79)).f0)).toList) ((strOfNums ((rd_T92 l0_1 x3_2).f0)).toList)) = true)
            ·rw [if_pos c82] at H
             have c82b0 : (Op.bytesLess ((strOfNums ((rd_T92 l0_1 (ji79)).f0)).toList) ((strOfNums ((rd_T92 l0_1 x3_2).f0)).toList)) = true := c82
             clear c82
             have H' := Aside0.mk H
             clear H
             iterate 4 (refine tvn_ HT_ HW_ hHeld (h := ?_))
             refine done_ (done_of HT_.out (by kernel_rfl)) ?_
             try go_wp2
             go_roundg k2
             case measure => have := HJ1.out; have := HK2.out; omega
             case rel => exact ⟨(wrap64 (x3_2 + 1)), rs_, H', ⟨by have := HJ1.out; have := HK2.out; omega⟩, ⟨bkp BK316⟩, ⟨bel⟩⟩
            rw [if_neg c82] at H
            have c82b0 : (Op.bytesLess ((strOfNums ((rd_T92 l0_1 (ji79)).f0)).toList) ((strOfNums ((rd_T92 l0_1 x3_2).f0)).toList)) = false := by simpa using c82
            clear c82
            obtain rfl := Option.some.inj H
            iterate 4 (refine tvn_ HT_ HW_ hHeld (h := ?_))
            refine done_ (done_of HT_.out (by kernel_rfl)) ?_
            try go_wp2
            go_ret
            exact ⟨by first | rfl | (simp [errW_none, errW_some] <;> rfl) | (simp only [← hji79]; first | rfl | (simp [errW_none, errW_some] <;> rfl)) | (simp [*, errW_none, errW_some] <;> rfl), bel⟩
           rw [if_neg c81] at H
           exact absurd H (by simp)
          rw [if_neg c80] at H
          exact absurd H (by simp)
         rw [if_neg c78] at H
         have c78b0 : decide (0 < x3_2) = false := decide_eq_false c78
         clear c78
         have H' := Aside0.mk H
         clear H
         iterate 7 (refine pvn_ HT_ (h := ?_))
         refine puns_ HT_ 12 [some _, some _, some _, some _, some _, some _, some _, some _, some _, some _, some _, some _] (h := ?_)
         iterate 2 (refine pvn_ HT_ (h := ?_))
         refine done_ (done_of HT_.out (by kernel_rfl)) ?_
         try go_wp2
         go_roundg k2
         case measure => have := HJ1.out; have := HK2.out; omega
         case rel => exact ⟨(wrap64 (x3_2 + 1)), rs_, H', ⟨by have := HJ1.out; have := HK2.out; omega⟩, ⟨bkp BK316⟩, ⟨bel⟩⟩
        replace c24 := Bool.eq_false_iff.mpr c24
        subst c24
        have H1 : (some false) = some r := by rw [if_neg (show ¬ (false = true) by decide)] at H; exact H
        clear H
        have H := H1
        clear H1
        obtain rfl := Option.some.inj H
        iterate 3 (refine pvn_ HT_ (h := ?_))
        refine puns_ HT_ 3 [some _, some _, some _] (h := ?_)
        iterate 2 (refine pvn_ HT_ (h := ?_))
        refine puns_ HT_ 5 [some _, some _, some _, some _, some _] (h := ?_)
        iterate 2 (refine pvn_ HT_ (h := ?_))
        refine puns_ HT_ 10 [some _, some _, some _, some _, some _, some _, some _, some _, some _, some _] (h := ?_)
        iterate 2 (refine pvn_ HT_ (h := ?_))
        refine puns_ HT_ 16 [some _, some _, some _, some _, some _, some _, some _, some _, some _, some _, some _, some _, some _, some _, some _, some _] (h := ?_)
        refine pvn_ HT_ (h := ?_)
        refine done_ (done_of HT_.out (by kernel_rfl)) ?_
        try go_wp2
        go_ret
        exact ⟨rz_, bel⟩
       replace c22 := Bool.eq_false_iff.mpr c22
       subst c22
       have H1 : (some false) = some r := by rw [if_neg (show ¬ (false = true) by decide)] at H; exact H
       clear H
       have H := H1
       clear H1
       obtain rfl := Option.some.inj H
       iterate 2 (refine pvn_ HT_ (h := ?_))
       refine puns_ HT_ 4 [some _, some _, some _, some _] (h := ?_)
       iterate 2 (refine pvn_ HT_ (h := ?_))
       refine puns_ HT_ 3 [some _, some _, some _] (h := ?_)
       iterate 2 (refine pvn_ HT_ (h := ?_))
       refine puns_ HT_ 5 [some _, some _, some _, some _, some _] (h := ?_)
       iterate 2 (refine pvn_ HT_ (h := ?_))
       refine puns_ HT_ 10 [some _, some _, some _, some _, some _, some _, some _, some _, some _, some _] (h := ?_)
       iterate 2 (refine pvn_ HT_ (h := ?_))
       refine puns_ HT_ 16 [some _, some _, some _, some _, some _, some _, some _, some _, some _, some _, some _, some _, some _, some _, some _, some _] (h := ?_)
       refine pvn_ HT_ (h := ?_)
       refine done_ (done_of HT_.out (by kernel_rfl)) ?_
       try go_wp2
       go_ret
       exact ⟨rz_, bel⟩
      rw [if_neg c20] at H
      exact absurd H (by simp)
     rw [if_neg c19] at H
     have c19b0 : decide (x3_2 < (l0_1.length : Int)) = false := decide_eq_false c19
     clear c19
     have H' := Aside0.mk H
     clear H
     obtain ⟨C122_0, C122_1, C122_2, C122_3, C122_4, C122_5, -⟩ := cells_6 BK316.out trivial
     obtain ⟨F122_0, F122_1, F122_2, F122_3, F122_4, F122_5, -⟩ := frz_6 BK316.out
     go_wp2
     go_loopg [5] k2 (fun kq v5 w' => ∃ (x5_3 : Int), v5 = .int .i64 x5_3 ∧ Aside0 (spec_StateOk.l1 kq x5_3 a0_0 l0_1 l0_2 a0_3 l0_4 l0_5 = some r) ∧ Aside0 (kq ≤ k2) ∧ Aside0 (w'.heap[gb316]? = some (.cells #[.int .i64 a0_0, (.slice A0_1 l0_1.length c0_1), (.slice A0_2 l0_2.length c0_2), .int .i64 a0_3, (.slice A0_4 l0_4.length c0_4), (.slice A0_5 l0_5.length c0_5)] 35 (0, 0))) ∧ Aside0 (Below w.heap.size w w'))
     case atStart => exact ⟨(0), rs_, H', ⟨Nat.le_refl _⟩, ⟨bkp BK316⟩, ⟨bel⟩⟩
     case round => as_aux_lemma =>
      clear H'
      try clear c1; try clear c2; try clear p2; try clear c3; try clear p3; try clear q3; try clear hx3; try clear c7; try clear c11; try clear c19; try clear c19b0; try clear c20; try clear c22; try clear c31; try clear p31; try clear q31; try clear hx31; try clear c72; try clear c73; try clear c118; try clear C116_0 C116_1 C116_2 C116_3 C116_4 C116_5; try clear C119_0 C119_1 C119_2 C119_3; try clear C122_0 C122_1 C122_2 C122_3 C122_4 C122_5; try clear F116_0 F116_1 F116_2 F116_3 F116_4 F116_5; try clear F119_0 F119_1 F119_2 F119_3; try clear F122_0 F122_1 F122_2 F122_3 F122_4 F122_5; try clear hx318_0; try clear hx318_1; try clear hx318_2; try clear hx318_3; try clear p318; try clear q318
      obtain ⟨x5_3, rfl, HA, HK3, BK316, HB⟩ := hrel
      cases gk with
      | zero => exact absurd HA.out (by simp [spec_StateOk.l1])
      | succ k3 =>
       have H := HA.out
       clear HA
       simp only [spec_StateOk.l1] at H
       by_cases c123 : x5_3 < (l0_2.length : Int)
       ·rw [if_pos c123] at H
        have c123b0 : decide (x5_3 < (l0_2.length : Int)) = true := decide_eq_true c123
        clear c123
        by_cases c124 : 0 ≤ x5_3
        ·rw [if_pos c124] at H
         have c124b0 : decide (0 ≤ x5_3) = true := decide_eq_true c124
         clear c124
         replace H := Option.bind_eq_some_iff.mp H
         obtain ⟨t327, A1250, H⟩ := H
         replace H : (if t327 = true then ((spec_l2row.f k3 a0_0 l0_1 l0_2 a0_3 l0_4 l0_5 ((rd_T94 l0_2 x5_3).f0)).bind fun t328 => (if t328 ≥ 0 then (some false) else ((spec_l2tomb.f k3 a0_0 l0_1 l0_2 a0_3 l0_4 l0_5 ((rd_T94 l0_2 x5_3).f0)).bind fun t329 => (if t329 = x5_3 then (if ((rd_T94 l0_2 x5_3).f1) < 1 then (some false) else (if ((rd_T94 l0_2 x5_3).f1) > a0_0 then (some false) else (if ((rd_T94 l0_2 x5_3).f1) < a0_3 then (some false) else (if x5_3 > 0 then (if 0 ≤ (wrap64 (x5_3 - 1)) then (if (wrap64 (x5_3 - 1)) < (l0_2.length : Int) then (if ((rd_T94 l0_2 (wrap64 (x5_3 - 1))).f1) > ((rd_T94 l0_2 x5_3).f1) then (some false) else (spec_StateOk.l1 k3 (wrap64 (x5_3 + 1)) a0_0 l0_1 l0_2 a0_3 l0_4 l0_5)) else (none)) else (none)) else (spec_StateOk.l1 k3 (wrap64 (x5_3 + 1)) a0_0 l0_1 l0_2 a0_3 l0_4 l0_5))))) else (some false))))) else (some false)) = some r := H
         have A125 := Aside0.mk A1250
         clear A1250
         obtain ⟨hczv1_0, hczv1_1, hczv1_2, hczv1_3, hczv1_4, hczv1_5, -⟩ := cells_6 BK316.out trivial
         obtain ⟨hfzv2_0, hfzv2_1, hfzv2_2, hfzv2_3, hfzv2_4, hfzv2_5, -⟩ := frz_6 BK316.out
         have p325 : 0 ≤ (x5_3 : Int) := od
         have q325 : x5_3 < (l0_2.length : Int) := od
         obtain ⟨ad325, A325_0, c325_0, e325, hx325_0, hx325_1, hl325_0, hi325_0⟩ := at_T94 HR0_2.out x5_3 p325 q325
         cases e325
         replace hx325_0 := hxb HB hx325_0
         replace hx325_1 := hxb HB hx325_1
         have HR325_0 := Aside0.mk hi325_0
         have HC325_0 := Aside0.mk hl325_0
         clear hi325_0 hl325_0
         replace p325 := eq_true p325
         replace q325 := eq_true q325
         try go_wp2_with (first | ((with_reducible refine gate_dst (N := 6) rfl ?_); (try (refine gate_guard (by rfl) ?_; dsimp only)); refine bx_ 6 #[.slice none 0 0, .int .i64 0] 94 (h := ?_); intro gb326 hg wv1 hbox hb; have BK326 := Aside0.mk (hbox); have GW326 := Aside0.mk ((by rw [hg]; exact (below_size bel) : w.heap.size ≤ gb326)); have GE326 := GW326; have NB316_326 := Aside0.mk ((by rw [hg]; exact Nat.ne_of_lt (blt BK316) : gb316 ≠ gb326)); have NB326_316 := Aside0.mk NB316_326.out.symm; replace BK316 := Aside0.mk (blb BK316 hb); replace HB := bst hb; clear hb hbox hg; have hnbv3 := NB326_316.out; have hncv4 := NB316_326.out; obtain ⟨hczv5_0, hczv5_1, -⟩ := cells_2 BK326.out trivial; obtain ⟨hfzv6_0, hfzv6_1, -⟩ := frz_2 BK326.out))
         refine put2_ BK326.out ?_
         intro wv2 hp_ hf_ hb_
         replace BK316 := Aside0.mk ((hf_ _ NB316_326.out).trans BK316.out)
         replace HB := Aside0.mk (hb_ _ HB.out GE326.out)
         replace BK326 := Aside0.mk hp_
         clear hp_ hf_ hb_
         replace BK316 := Aside0.mk (blk_drew BK316.out)
         replace BK326 := Aside0.mk (blk_drew BK326.out)
         replace HB := Aside0.mk (below_drew1 HB.out)
         refine start_ (n := 54) (S := fun w' => w'.cell? ⟨gb326, 0, none⟩ = some (.slice A325_0 ((rd_T94 l0_2 x5_3).f0).length c325_0) ∧ w'.cell? ⟨gb326, 1, none⟩ = some (.int .i64 ((rd_T94 l0_2 x5_3).f1)) ∧ w'.cell? ⟨gb316, 0, none⟩ = some (.int .i64 a0_0) ∧ w'.cell? ⟨gb316, 1, none⟩ = some (.slice A0_1 l0_1.length c0_1) ∧ w'.cell? ⟨gb316, 2, none⟩ = some (.slice (some ad325) l0_2.length c0_2) ∧ w'.cell? ⟨gb316, 3, none⟩ = some (.int .i64 a0_3) ∧ w'.cell? ⟨gb316, 4, none⟩ = some (.slice A0_4 l0_4.length c0_4) ∧ w'.cell? ⟨gb316, 5, none⟩ = some (.slice A0_5 l0_5.length c0_5)) (ds := []) (tf 0 54) (by kernel_rfl) rfl rfl (cells_2 BK326.out (cellz_6 BK316.out)) (fun hHeld => ?_); refine with_tabW spec_StateOk.tab13 spec_StateOk.bits13 (fun HT_ HW_ => ?_)
         generalize wv2.drew = wv3 at BK316 BK326 HB hHeld ⊢
         refine pvn_ HT_ (h := ?_)
         refine tvn_ HT_ HW_ hHeld (h := ?_)
         refine one_ (i := 2) (N := some 128) (tf 3 51) rfl rfl (one_of HT_.out (by kernel_rfl)) (by decide) (fun K hK => ?_)
         refine gs_ Try.func72 #[.slice A325_0 ((rd_T94 l0_2 x5_3).f0).length c325_0] (h := ?_)
         with_reducible refine (spec_l2key.calls k3 _ _ ((rd_T94 l0_2 x5_3).f0) t327 _ ?side1 ?side2 A125.out).mono ?_
         (case side1 => exact kcb)
         (case side2 => exact HC325_0.out)
         rintro e w' ⟨rfl, ⟨nd, rfl⟩⟩
         refine ⟨_, rfl, ?_⟩
         refine hK.out _ _ (cells_2 BK326.out (cellz_6 BK316.out)) (fun hHeld => ?_)
         clear hK K
         refine nrm_ (some 128) (h := ?_)
         by_cases c126 : t327 = true
         ·subst c126
          have H1 : ((spec_l2row.f k3 a0_0 l0_1 l0_2 a0_3 l0_4 l0_5 ((rd_T94 l0_2 x5_3).f0)).bind fun t328 => (if t328 ≥ 0 then (some false) else ((spec_l2tomb.f k3 a0_0 l0_1 l0_2 a0_3 l0_4 l0_5 ((rd_T94 l0_2 x5_3).f0)).bind fun t329 => (if t329 = x5_3 then (if ((rd_T94 l0_2 x5_3).f1) < 1 then (some false) else (if ((rd_T94 l0_2 x5_3).f1) > a0_0 then (some false) else (if ((rd_T94 l0_2 x5_3).f1) < a0_3 then (some false) else (if x5_3 > 0 then (if 0 ≤ (wrap64 (x5_3 - 1)) then (if (wrap64 (x5_3 - 1)) < (l0_2.length : Int) then (if ((rd_T94 l0_2 (wrap64 (x5_3 - 1))).f1) > ((rd_T94 l0_2 x5_3).f1) then (some false) else (spec_StateOk.l1 k3 (wrap64 (x5_3 + 1)) a0_0 l0_1 l0_2 a0_3 l0_4 l0_5)) else (none)) else (none)) else (spec_StateOk.l1 k3 (wrap64 (x5_3 + 1)) a0_0 l0_1 l0_2 a0_3 l0_4 l0_5))))) else (some false))))) = some r := by rw [if_pos rfl] at H; exact H
          clear H
          have H := H1
          clear H1
          replace H := Option.bind_eq_some_iff.mp H
          obtain ⟨t328, A1270, H⟩ := H
          replace H : (if t328 ≥ 0 then (some false) else ((spec_l2tomb.f k3 a0_0 l0_1 l0_2 a0_3 l0_4 l0_5 ((rd_T94 l0_2 x5_3).f0)).bind fun t329 => (if t329 = x5_3 then (if ((rd_T94 l0_2 x5_3).f1) < 1 then (some false) else (if ((rd_T94 l0_2 x5_3).f1) > a0_0 then (some false) else (if ((rd_T94 l0_2 x5_3).f1) < a0_3 then (some false) else (if x5_3 > 0 then (if 0 ≤ (wrap64 (x5_3 - 1)) then (if (wrap64 (x5_3 - 1)) < (l0_2.length : Int) then (if ((rd_T94 l0_2 (wrap64 (x5_3 - 1))).f1) > ((rd_T94 l0_2 x5_3).f1) then (some false) else (spec_StateOk.l1 k3 (wrap64 (x5_3 + 1)) a0_0 l0_1 l0_2 a0_3 l0_4 l0_5)) else (none)) else (none)) else (spec_StateOk.l1 k3 (wrap64 (x5_3 + 1)) a0_0 l0_1 l0_2 a0_3 l0_4 l0_5))))) else (some false)))) = some r := H
          have A127 := Aside0.mk A1270
          clear A1270
          iterate 2 (refine pvn_ HT_ (h := ?_))
          refine pv_ HT_ 6 (some 132) (tb 54 95) (h := ?_)
          refine tv_ HT_ HW_ hHeld 5 (some 131) (tf 7 47) (h := ?_)
          refine tvn_ HT_ HW_ hHeld (h := ?_)
          refine one_ (i := 8) (N := some 134) (tf 9 45) rfl rfl (one_of HT_.out (by kernel_rfl)) (by decide) (fun K hK => ?_)
          refine gs_ Try.func75 #[.agg #[.int .i64 a0_0, .slice A0_1 l0_1.length c0_1, .slice (some ad325) l0_2.length c0_2, .int .i64 a0_3, .slice A0_4 l0_4.length c0_4, .slice A0_5 l0_5.length c0_5], .slice A325_0 ((rd_T94 l0_2 x5_3).f0).length c325_0] (h := ?_)
          with_reducible refine (spec_l2row.calls k3 a0_0 _ _ l0_1 _ _ l0_2 a0_3 _ _ l0_4 _ _ l0_5 _ _ ((rd_T94 l0_2 x5_3).f0) t328 _ ?side1 ?side2 ?side3 ?side4 ?side5 ?side6 ?side7 ?side8 ?side9 ?side10 A127.out).mono ?_
          (case side1 => exact kcb)
          (case side2 => exact HC0_1.out)
          (case side3 => exact kcb)
          (case side4 => exact HC0_2.out)
          (case side5 => exact kcb)
          (case side6 => exact HC0_4.out)
          (case side7 => exact kcb)
          (case side8 => exact HC0_5.out)
          (case side9 => exact kcb)
          (case side10 => exact HC325_0.out)
          rintro e wv4 ⟨rfl, hb⟩
          refine ⟨_, rfl, ?_⟩
          replace BK316 := Aside0.mk (blb BK316 hb)
          replace BK326 := Aside0.mk (blb BK326 hb)
          replace HB := bst hb
          (try clear hb)
          (try clear hb2)
          (try clear hk)
          (try clear hi)
          refine hK.out _ _ (cells_2 BK326.out (cellz_6 BK316.out)) (fun hHeld => ?_)
          clear hK K
          refine nrm_ (some 134) (h := ?_)
          by_cases c128 : t328 ≥ 0
          ·rw [if_pos c128] at H
           have c128b0 : decide (0 ≤ t328) = true := decide_eq_true c128
           clear c128
           obtain rfl := Option.some.inj H
           iterate 3 (refine pvn_ HT_ (h := ?_))
           refine puns_ HT_ 6 [some _, some _, some _, some _, some _, some _] (h := ?_)
           iterate 2 (refine pvn_ HT_ (h := ?_))
           refine puns_ HT_ 3 [some _, some _, some _] (h := ?_)
           iterate 2 (refine pvn_ HT_ (h := ?_))
           refine puns_ HT_ 5 [some _, some _, some _, some _, some _] (h := ?_)
           iterate 2 (refine pvn_ HT_ (h := ?_))
           refine puns_ HT_ 5 [some _, some _, some _, some _, some _] (h := ?_)
           iterate 2 (refine pvn_ HT_ (h := ?_))
           refine puns_ HT_ 14 [some _, some _, some _, some _, some _, some _, some _, some _, some _, some _, some _, some _, some _, some _] (h := ?_)
           refine pvn_ HT_ (h := ?_)
           refine done_ (done_of HT_.out (by kernel_rfl)) ?_
           try go_wp2
           go_ret
           exact ⟨rz_, bel⟩
          rw [if_neg c128] at H
          have c128b0 : decide (0 ≤ t328) = false := decide_eq_false c128
          clear c128
          replace H := Option.bind_eq_some_iff.mp H
          obtain ⟨t329, A1360, H⟩ := H
          replace H : (if t329 = x5_3 then (if ((rd_T94 l0_2 x5_3).f1) < 1 then (some false) else (if ((rd_T94 l0_2 x5_3).f1) > a0_0 then (some false) else (if ((rd_T94 l0_2 x5_3).f1) < a0_3 then (some false) else (if x5_3 > 0 then (if 0 ≤ (wrap64 (x5_3 - 1)) then (if (wrap64 (x5_3 - 1)) < (l0_2.length : Int) then (if ((rd_T94 l0_2 (wrap64 (x5_3 - 1))).f1) > ((rd_T94 l0_2 x5_3).f1) then (some false) else (spec_StateOk.l1 k3 (wrap64 (x5_3 + 1)) a0_0 l0_1 l0_2 a0_3 l0_4 l0_5)) else (none)) else (none)) else (spec_StateOk.l1 k3 (wrap64 (x5_3 + 1)) a0_0 l0_1 l0_2 a0_3 l0_4 l0_5))))) else (some false)) = some r := H
          have A136 := Aside0.mk A1360
          clear A1360
          iterate 3 (refine pvn_ HT_ (h := ?_))
          refine pv_ HT_ 13 (some 139) (tb 54 12287) (h := ?_)
          refine pv_ HT_ 16 (some 142) (tb 54 77823) (h := ?_)
          refine tv_ HT_ HW_ hHeld 12 (some 138) (tb 54 81919) (h := ?_)
          refine tv_ HT_ HW_ hHeld 14 (some 140) (tb 54 98303) (h := ?_)
          refine one_ (i := 15) (N := some 141) (tf 17 37) rfl rfl (one_of HT_.out (by kernel_rfl)) (by decide) (fun K hK => ?_)
          refine gs_ Try.func76 #[.agg #[.int .i64 a0_0, .slice A0_1 l0_1.length c0_1, .slice (some ad325) l0_2.length c0_2, .int .i64 a0_3, .slice A0_4 l0_4.length c0_4, .slice A0_5 l0_5.length c0_5], .slice A325_0 ((rd_T94 l0_2 x5_3).f0).length c325_0] (h := ?_)
          with_reducible refine (spec_l2tomb.calls k3 a0_0 _ _ l0_1 _ _ l0_2 a0_3 _ _ l0_4 _ _ l0_5 _ _ ((rd_T94 l0_2 x5_3).f0) t329 _ ?side1 ?side2 ?side3 ?side4 ?side5 ?side6 ?side7 ?side8 ?side9 ?side10 A136.out).mono ?_
          (case side1 => exact kcb)
          (case side2 => exact HC0_1.out)
          (case side3 => exact kcb)
          (case side4 => exact HC0_2.out)
          (case side5 => exact kcb)
          (case side6 => exact HC0_4.out)
          (case side7 => exact kcb)
          (case side8 => exact HC0_5.out)
          (case side9 => exact kcb)
          (case side10 => exact HC325_0.out)
          rintro e wv5 ⟨rfl, hb⟩
          refine ⟨_, rfl, ?_⟩
          replace BK316 := Aside0.mk (blb BK316 hb)
          replace BK326 := Aside0.mk (blb BK326 hb)
          replace HB := bst hb
          (try clear hb)
          (try clear hb2)
          (try clear hk)
          (try clear hi)
          refine hK.out _ _ (cells_2 BK326.out (cellz_6 BK316.out)) (fun hHeld => ?_)
          clear hK K
          refine nrm_ (some 141) (h := ?_)
          by_cases c137 : t329 = x5_3
          ·rw [if_pos c137] at H
           have c137b0 : (t329 == x5_3) = true := beq_iff_eq.mpr c137
           have c137b1 : (t329 != x5_3) = false := bne_eq_false_iff_eq.mpr c137
           clear c137
           iterate 2 (refine pvn_ HT_ (h := ?_))
           by_cases c138 : ((rd_T94 l0_2 x5_3).f1) < 1
           ·rw [if_pos c138] at H
            have c138b0 : decide (((rd_T94 l0_2 x5_3).f1) < 1) = true := decide_eq_true c138
            clear c138
            obtain rfl := Option.some.inj H
            iterate 2 (refine pvn_ HT_ (h := ?_))
            refine tvn_ HT_ HW_ hHeld (h := ?_)
            iterate 3 (refine pvn_ HT_ (h := ?_))
            refine puns_ HT_ 5 [some _, some _, some _, some _, some _] (h := ?_)
            iterate 2 (refine pvn_ HT_ (h := ?_))
            refine puns_ HT_ 5 [some _, some _, some _, some _, some _] (h := ?_)
            iterate 2 (refine pvn_ HT_ (h := ?_))
            refine puns_ HT_ 14 [some _, some _, some _, some _, some _, some _, some _, some _, some _, some _, some _, some _, some _, some _] (h := ?_)
            refine pvn_ HT_ (h := ?_)
            refine done_ (done_of HT_.out (by kernel_rfl)) ?_
            try go_wp2
            go_ret
            exact ⟨rz_, bel⟩
           rw [if_neg c138] at H
           have c138b0 : decide (((rd_T94 l0_2 x5_3).f1) < 1) = false := decide_eq_false c138
           clear c138
           iterate 2 (refine pvn_ HT_ (h := ?_))
           refine tvn_ HT_ HW_ hHeld (h := ?_)
           iterate 4 (refine pvn_ HT_ (h := ?_))
           by_cases c147 : ((rd_T94 l0_2 x5_3).f1) > a0_0
           ·rw [if_pos c147] at H
            have c147b0 : decide (a0_0 < ((rd_T94 l0_2 x5_3).f1)) = true := decide_eq_true c147
            clear c147
            obtain rfl := Option.some.inj H
            refine pv_ HT_ 27 (some 153) (tb 54 201326591) (h := ?_)
            refine tv_ HT_ HW_ hHeld 26 (some 152) (tf 28 26) (h := ?_)
            refine tvn_ HT_ HW_ hHeld (h := ?_)
            iterate 3 (refine pvn_ HT_ (h := ?_))
            refine puns_ HT_ 5 [some _, some _, some _, some _, some _] (h := ?_)
            iterate 2 (refine pvn_ HT_ (h := ?_))
            refine puns_ HT_ 14 [some _, some _, some _, some _, some _, some _, some _, some _, some _, some _, some _, some _, some _, some _] (h := ?_)
            refine pvn_ HT_ (h := ?_)
            refine done_ (done_of HT_.out (by kernel_rfl)) ?_
            try go_wp2
            go_ret
            exact ⟨rz_, bel⟩
           rw [if_neg c147] at H
           have c147b0 : decide (a0_0 < ((rd_T94 l0_2 x5_3).f1)) = false := decide_eq_false c147
           clear c147
           refine pv_ HT_ 27 (some 153) (tb 54 201326591) (h := ?_)
           refine tv_ HT_ HW_ hHeld 26 (some 152) (tf 28 26) (h := ?_)
           refine tvn_ HT_ HW_ hHeld (h := ?_)
           iterate 4 (refine pvn_ HT_ (h := ?_))
           by_cases c156 : ((rd_T94 l0_2 x5_3).f1) < a0_3
           ·rw [if_pos c156] at H
            have c156b0 : decide (((rd_T94 l0_2 x5_3).f1) < a0_3) = true := decide_eq_true c156
            clear c156
            obtain rfl := Option.some.inj H
            refine pv_ HT_ 34 (some 160) (tb 54 25769803775) (h := ?_)
            refine tv_ HT_ HW_ hHeld 33 (some 159) (tf 35 19) (h := ?_)
            refine tvn_ HT_ HW_ hHeld (h := ?_)
            iterate 3 (refine pvn_ HT_ (h := ?_))
            refine puns_ HT_ 14 [some _, some _, some _, some _, some _, some _, some _, some _, some _, some _, some _, some _, some _, some _] (h := ?_)
            refine pvn_ HT_ (h := ?_)
            refine done_ (done_of HT_.out (by kernel_rfl)) ?_
            try go_wp2
            go_ret
            exact ⟨rz_, bel⟩
           rw [if_neg c156] at H
           have c156b0 : decide (((rd_T94 l0_2 x5_3).f1) < a0_3) = false := decide_eq_false c156
           clear c156
           refine pv_ HT_ 34 (some 160) (tb 54 25769803775) (h := ?_)
           refine tv_ HT_ HW_ hHeld 33 (some 159) (tf 35 19) (h := ?_)
           refine tvn_ HT_ HW_ hHeld (h := ?_)
           by_cases c165 : x5_3 > 0
           ·rw [if_pos c165] at H
            have c165b0 : decide (0 < x5_3) = true := decide_eq_true c165
            clear c165
            obtain ⟨ji166, hji166⟩ : ∃ j_ : Int, (wrap64 (x5_3 - 1)) = j_ := ⟨_, rfl⟩
            replace H : (if 0 ≤ (ji166) then (if (ji166) < (l0_2.length : Int) then (if ((rd_T94 l0_2 (ji166)).f1) > ((rd_T94 l0_2 x5_3).f1) then (some false) else (spec_StateOk.l1 k3 (wrap64 (x5_3 + 1)) a0_0 l0_1 l0_2 a0_3 l0_4 l0_5)) else (none)) else (none)) = some r := by first | (rw [hji166] at H; exact H) | (simp only [hji166] at H ⊢; exact H)
            (try rw [hji166] at A125)
            (try rw [hji166] at A127)
            (try rw [hji166] at A136)
            have hji166w : (IntKind.i64.wrap (x5_3 - 1)) = ji166 := (i64_w _).trans hji166
            by_cases c167 : 0 ≤ (ji166)
            ·rw [if_pos c167] at H
             have c167b0 : decide (0 ≤ (ji166)) = true := decide_eq_true c167
             clear c167
             by_cases c168 : (ji166) < (l0_2.length : Int)
             ·rw [if_pos c168] at H
              have c168b0 : decide ((ji166) < (l0_2.length : Int)) = true := decide_eq_true c168
              clear c168
              have p330 : 0 ≤ ((ji166) : Int) := od
              have q330 : (ji166) < (l0_2.length : Int) := od
              obtain ⟨ad330, A330_0, c330_0, e330, hx330_0, hx330_1, hl330_0, hi330_0⟩ := at_T94 HR0_2.out (ji166) p330 q330
              have hw330_1 := hx330_1
              have hw330_0 := hx330_0
              obtain rfl : ad325 = ad330 := (by injection e330)
              replace hx330_0 := hxb HB hx330_0
              replace hx330_1 := hxb HB hx330_1
              have HR330_0 := Aside0.mk hi330_0
              have HC330_0 := Aside0.mk hl330_0
              clear hi330_0 hl330_0
              replace p330 := eq_true p330
              replace q330 := eq_true q330
              refine widen_ (S' := fun w' => w'.cell? ⟨gb326, 0, none⟩ = some (.slice A325_0 ((rd_T94 l0_2 x5_3).f0).length c325_0) ∧ w'.cell? ⟨gb326, 1, none⟩ = some (.int .i64 ((rd_T94 l0_2 x5_3).f1)) ∧ w'.cell? ⟨gb316, 0, none⟩ = some (.int .i64 a0_0) ∧ w'.cell? ⟨gb316, 1, none⟩ = some (.slice A0_1 l0_1.length c0_1) ∧ w'.cell? ⟨gb316, 2, none⟩ = some (.slice (some ad325) l0_2.length c0_2) ∧ w'.cell? ⟨gb316, 3, none⟩ = some (.int .i64 a0_3) ∧ w'.cell? ⟨gb316, 4, none⟩ = some (.slice A0_4 l0_4.length c0_4) ∧ w'.cell? ⟨gb316, 5, none⟩ = some (.slice A0_5 l0_5.length c0_5) ∧ w'.cell? (ad325.add (((ji166)).toNat * 2)) = some (.slice A330_0 ((rd_T94 l0_2 (ji166)).f0).length c330_0) ∧ w'.cell? ⟨(ad325.add (((ji166)).toNat * 2)).block, (ad325.add (((ji166)).toNat * 2)).off + 1, none⟩ = some (.int .i64 ((rd_T94 l0_2 (ji166)).f1))) (fun _ h_ => ⟨h_.1, h_.2.1, h_.2.2.1, h_.2.2.2.1, h_.2.2.2.2.1, h_.2.2.2.2.2.1, h_.2.2.2.2.2.2.1, h_.2.2.2.2.2.2.2.1⟩) (cells_2 BK326.out (cells_6 BK316.out ⟨(hxb HB hw330_0 :), (hxb HB hw330_1 :)⟩)) (h := ?_)
              clear hHeld; intro hHeld
              iterate 7 (refine pvn_ HT_ (h := ?_))
              refine pv_ HT_ 44 (some 170) (tb 54 26388279066623) (h := ?_)
              refine pv_ HT_ 45 (some 171) (tb 54 61572651155455) (h := ?_)
              refine pv_ HT_ 49 (some 175) (tb 54 624522604576767) (h := ?_)
              refine tv_ HT_ HW_ hHeld 43 (some 169) (tb 54 633318697598975) (h := ?_)
              refine pv_ HT_ 46 (some 172) (tb 54 703687441776639) (h := ?_)
              refine pv_ HT_ 47 (some 173) (tb 54 844424930131967) (h := ?_)
              refine tv_ HT_ HW_ hHeld 48 (some 174) (tf 50 4) (h := ?_)
              by_cases c169 : ((rd_T94 l0_2 (ji166)).f1) > ((rd_T94 l0_2 x5_3).f1)
              ·rw [if_pos c169] at H
               have c169b0 : decide (((rd_T94 l0_2 x5_3).f1) < ((rd_T94 l0_2 (ji166)).f1)) = true := decide_eq_true c169
               clear c169
               obtain rfl := Option.some.inj H
               refine tvn_ HT_ HW_ hHeld (h := ?_)
               iterate 3 (refine pvn_ HT_ (h := ?_))
               refine done_ (done_of HT_.out (by kernel_rfl)) ?_
               try go_wp2
               go_ret
               exact ⟨by first | rfl | (simp [errW_none, errW_some] <;> rfl) | (simp only [← hji166]; first | rfl | (simp [errW_none, errW_some] <;> rfl)) | (simp [*, errW_none, errW_some] <;> rfl), bel⟩
              rw [if_neg c169] at H
              have c169b0 : decide (((rd_T94 l0_2 x5_3).f1) < ((rd_T94 l0_2 (ji166)).f1)) = false := decide_eq_false c169
              clear c169
              have H' := Aside0.mk H
              clear H
              refine tvn_ HT_ HW_ hHeld (h := ?_)
              iterate 3 (refine pvn_ HT_ (h := ?_))
              refine done_ (done_of HT_.out (by kernel_rfl)) ?_
              try go_wp2
              go_roundg k3
              case measure => have := HJ1.out; have := HK2.out; have := HK3.out; omega
              case rel => exact ⟨(wrap64 (x5_3 + 1)), rs_, H', ⟨by have := HJ1.out; have := HK2.out; have := HK3.out; omega⟩, ⟨bkp BK316⟩, ⟨bel⟩⟩
             rw [if_neg c168] at H
             exact absurd H (by simp)
            rw [if_neg c167] at H
            exact absurd H (by simp)
           rw [if_neg c165] at H
           have c165b0 : decide (0 < x5_3) = false := decide_eq_false c165
           clear c165
           have H' := Aside0.mk H
           clear H
           iterate 6 (refine pvn_ HT_ (h := ?_))
           refine puns_ HT_ 10 [some _, some _, some _, some _, some _, some _, some _, some _, some _, some _] (h := ?_)
           iterate 2 (refine pvn_ HT_ (h := ?_))
           refine done_ (done_of HT_.out (by kernel_rfl)) ?_
           try go_wp2
           go_roundg k3
           case measure => have := HJ1.out; have := HK2.out; have := HK3.out; omega
           case rel => exact ⟨(wrap64 (x5_3 + 1)), rs_, H', ⟨by have := HJ1.out; have := HK2.out; have := HK3.out; omega⟩, ⟨bkp BK316⟩, ⟨bel⟩⟩
          rw [if_neg c137] at H
          have c137b0 : (t329 == x5_3) = false := beq_eq_false_iff_ne.mpr c137
          have c137b1 : (t329 != x5_3) = true := bne_iff_ne.mpr c137
          obtain rfl := Option.some.inj H
          iterate 3 (refine pvn_ HT_ (h := ?_))
          refine puns_ HT_ 3 [some _, some _, some _] (h := ?_)
          iterate 2 (refine pvn_ HT_ (h := ?_))
          refine puns_ HT_ 5 [some _, some _, some _, some _, some _] (h := ?_)
          iterate 2 (refine pvn_ HT_ (h := ?_))
          refine puns_ HT_ 5 [some _, some _, some _, some _, some _] (h := ?_)
          iterate 2 (refine pvn_ HT_ (h := ?_))
          refine puns_ HT_ 14 [some _, some _, some _, some _, some _, some _, some _, some _, some _, some _, some _, some _, some _, some _] (h := ?_)
          refine pvn_ HT_ (h := ?_)
          refine done_ (done_of HT_.out (by kernel_rfl)) ?_
          try go_wp2
          go_ret
          exact ⟨rz_, bel⟩
         replace c126 := Bool.eq_false_iff.mpr c126
         subst c126
         have H1 : (some false) = some r := by rw [if_neg (show ¬ (false = true) by decide)] at H; exact H
         clear H
         have H := H1
         clear H1
         obtain rfl := Option.some.inj H
         iterate 2 (refine pvn_ HT_ (h := ?_))
         refine puns_ HT_ 5 [some _, some _, some _, some _, some _] (h := ?_)
         iterate 2 (refine pvn_ HT_ (h := ?_))
         refine puns_ HT_ 6 [some _, some _, some _, some _, some _, some _] (h := ?_)
         iterate 2 (refine pvn_ HT_ (h := ?_))
         refine puns_ HT_ 3 [some _, some _, some _] (h := ?_)
         iterate 2 (refine pvn_ HT_ (h := ?_))
         refine puns_ HT_ 5 [some _, some _, some _, some _, some _] (h := ?_)
         iterate 2 (refine pvn_ HT_ (h := ?_))
         refine puns_ HT_ 5 [some _, some _, some _, some _, some _] (h := ?_)
         iterate 2 (refine pvn_ HT_ (h := ?_))
         refine puns_ HT_ 14 [some _, some _, some _, some _, some _, some _, some _, some _, some _, some _, some _, some _, some _, some _] (h := ?_)
         refine pvn_ HT_ (h := ?_)
         refine done_ (done_of HT_.out (by kernel_rfl)) ?_
         try go_wp2
         go_ret
         exact ⟨rz_, bel⟩
        rw [if_neg c124] at H
        exact absurd H (by simp)
       rw [if_neg c123] at H
       have c123b0 : decide (x5_3 < (l0_2.length : Int)) = false := decide_eq_false c123
       clear c123
       have H' := Aside0.mk H
       clear H
       obtain ⟨C208_0, C208_1, C208_2, C208_3, C208_4, C208_5, -⟩ := cells_6 BK316.out trivial
       obtain ⟨F208_0, F208_1, F208_2, F208_3, F208_4, F208_5, -⟩ := frz_6 BK316.out
       go_wp2
       go_loopg [7] k3 (fun kq v7 w' => ∃ (x7_4 : Int), v7 = .int .i64 x7_4 ∧ Aside0 (spec_StateOk.l2 kq x7_4 a0_0 l0_1 l0_2 a0_3 l0_4 l0_5 = some r) ∧ Aside0 (kq ≤ k3) ∧ Aside0 (w'.heap[gb316]? = some (.cells #[.int .i64 a0_0, (.slice A0_1 l0_1.length c0_1), (.slice A0_2 l0_2.length c0_2), .int .i64 a0_3, (.slice A0_4 l0_4.length c0_4), (.slice A0_5 l0_5.length c0_5)] 35 (0, 0))) ∧ Aside0 (Below w.heap.size w w'))
       case atStart => exact ⟨(0), rs_, H', ⟨Nat.le_refl _⟩, ⟨bkp BK316⟩, ⟨bel⟩⟩
       case round => as_aux_lemma =>
        clear H'
        try clear c1; try clear c2; try clear p2; try clear c3; try clear p3; try clear q3; try clear hx3; try clear c7; try clear c12; try clear c20; try clear c32; try clear p32; try clear q32; try clear hx32; try clear c72; try clear c76; try clear c123; try clear c123b0; try clear c124; try clear c126; try clear c204; try clear C202_0 C202_1 C202_2 C202_3 C202_4 C202_5; try clear C205_0 C205_1; try clear C208_0 C208_1 C208_2 C208_3 C208_4 C208_5; try clear F202_0 F202_1 F202_2 F202_3 F202_4 F202_5; try clear F205_0 F205_1; try clear F208_0 F208_1 F208_2 F208_3 F208_4 F208_5; try clear hx325_0; try clear hx325_1; try clear p325; try clear q325
        obtain ⟨x7_4, rfl, HA, HK4, BK316, HB⟩ := hrel
        cases gk with
        | zero => exact absurd HA.out (by simp [spec_StateOk.l2])
        | succ k4 =>
         have H := HA.out
         clear HA
         simp only [spec_StateOk.l2] at H
         by_cases c209 : x7_4 < (l0_4.length : Int)
         ·rw [if_pos c209] at H
          have c209b0 : decide (x7_4 < (l0_4.length : Int)) = true := decide_eq_true c209
          clear c209
          by_cases c210 : 0 ≤ x7_4
          ·rw [if_pos c210] at H
           have c210b0 : decide (0 ≤ x7_4) = true := decide_eq_true c210
           clear c210
           by_cases c211 : ((rd_T109 l0_4 x7_4).f0) < 1
           ·rw [if_pos c211] at H
            have c211b0 : decide (((rd_T109 l0_4 x7_4).f0) < 1) = true := decide_eq_true c211
            clear c211
            as_aux_lemma =>
             obtain rfl := Option.some.inj H
             obtain ⟨C212_0, C212_1, C212_2, C212_3, C212_4, C212_5, -⟩ := cells_6 BK316.out trivial
             obtain ⟨F212_0, F212_1, F212_2, F212_3, F212_4, F212_5, -⟩ := frz_6 BK316.out
             try go_wp2
             replace BK316 := Aside0.mk (blk_drew BK316.out)
             replace HB := Aside0.mk (below_drew1 HB.out)
             have p331 : 0 ≤ (x7_4 : Int) := od
             have q331 : x7_4 < (l0_4.length : Int) := od
             obtain ⟨ad331, e331, hx331_0, hx331_1⟩ := at_T109 HR0_4.out x7_4 p331 q331
             have hw331_1 := hx331_1
             have hw331_0 := hx331_0
             cases e331
             replace hx331_0 := hxb HB hx331_0
             replace hx331_1 := hxb HB hx331_1
             replace p331 := eq_true p331
             replace q331 := eq_true q331
             refine start_ (n := 38) (S := fun w' => w'.cell? ⟨gb316, 0, none⟩ = some (.int .i64 a0_0) ∧ w'.cell? ⟨gb316, 1, none⟩ = some (.slice A0_1 l0_1.length c0_1) ∧ w'.cell? ⟨gb316, 2, none⟩ = some (.slice A0_2 l0_2.length c0_2) ∧ w'.cell? ⟨gb316, 3, none⟩ = some (.int .i64 a0_3) ∧ w'.cell? ⟨gb316, 4, none⟩ = some (.slice (some ad331) l0_4.length c0_4) ∧ w'.cell? ⟨gb316, 5, none⟩ = some (.slice A0_5 l0_5.length c0_5) ∧ w'.cell? (ad331.add ((x7_4).toNat * 2)) = some (.int .i64 ((rd_T109 l0_4 x7_4).f0)) ∧ w'.cell? ⟨(ad331.add ((x7_4).toNat * 2)).block, (ad331.add ((x7_4).toNat * 2)).off + 1, none⟩ = some (.bool ((rd_T109 l0_4 x7_4).f1))) (ds := []) (tf 0 38) (by kernel_rfl) rfl rfl (cells_6 BK316.out ⟨(hxb HB hw331_0 :), (hxb HB hw331_1 :)⟩) (fun hHeld => ?_); refine with_tabW spec_StateOk.tab18 spec_StateOk.bits18 (fun HT_ HW_ => ?_)
             generalize wr.drew = w213 at BK316 HB hx331_0 hx331_1 hHeld ⊢
             refine pvn_ HT_ (h := ?_)
             refine pv_ HT_ 2 (some 189) (tb 38 5) (h := ?_)
             refine tv_ HT_ HW_ hHeld 1 (some 188) (tf 3 35) (h := ?_)
             iterate 2 (refine pvn_ HT_ (h := ?_))
             refine tvn_ HT_ HW_ hHeld (h := ?_)
             iterate 2 (refine pvn_ HT_ (h := ?_))
             refine puns_ HT_ 9 [some _, some _, some _, some _, some _, some _, some _, some _, some _] (h := ?_)
             iterate 2 (refine pvn_ HT_ (h := ?_))
             refine puns_ HT_ 18 [some _, some _, some _, some _, some _, some _, some _, some _, some _, some _, some _, some _, some _, some _, some _, some _, some _, some _] (h := ?_)
             refine pvn_ HT_ (h := ?_)
             refine done_ (done_of HT_.out (by kernel_rfl)) ?_
             try go_wp2
             go_ret
             exact ⟨rz_, bel⟩
           rw [if_neg c211] at H
           have c211b0 : decide (((rd_T109 l0_4 x7_4).f0) < 1) = false := decide_eq_false c211
           clear c211
           by_cases c214 : ((rd_T109 l0_4 x7_4).f0) > a0_0
           ·rw [if_pos c214] at H
            have c214b0 : decide (a0_0 < ((rd_T109 l0_4 x7_4).f0)) = true := decide_eq_true c214
            clear c214
            as_aux_lemma =>
             obtain rfl := Option.some.inj H
             obtain ⟨C215_0, C215_1, C215_2, C215_3, C215_4, C215_5, -⟩ := cells_6 BK316.out trivial
             obtain ⟨F215_0, F215_1, F215_2, F215_3, F215_4, F215_5, -⟩ := frz_6 BK316.out
             try go_wp2
             replace BK316 := Aside0.mk (blk_drew BK316.out)
             replace HB := Aside0.mk (below_drew1 HB.out)
             have p331 : 0 ≤ (x7_4 : Int) := od
             have q331 : x7_4 < (l0_4.length : Int) := od
             obtain ⟨ad331, e331, hx331_0, hx331_1⟩ := at_T109 HR0_4.out x7_4 p331 q331
             have hw331_1 := hx331_1
             have hw331_0 := hx331_0
             cases e331
             replace hx331_0 := hxb HB hx331_0
             replace hx331_1 := hxb HB hx331_1
             replace p331 := eq_true p331
             replace q331 := eq_true q331
             have p332 : 0 ≤ (x7_4 : Int) := od
             have q332 : x7_4 < (l0_4.length : Int) := od
             obtain ⟨ad332, e332, hx332_0, hx332_1⟩ := at_T109 HR0_4.out x7_4 p332 q332
             have hw332_1 := hx332_1
             have hw332_0 := hx332_0
             obtain rfl : ad331 = ad332 := (by injection e332)
             replace hx332_0 := hxb HB hx332_0
             replace hx332_1 := hxb HB hx332_1
             replace p332 := eq_true p332
             replace q332 := eq_true q332
             refine start_ (n := 38) (S := fun w' => w'.cell? ⟨gb316, 0, none⟩ = some (.int .i64 a0_0) ∧ w'.cell? ⟨gb316, 1, none⟩ = some (.slice A0_1 l0_1.length c0_1) ∧ w'.cell? ⟨gb316, 2, none⟩ = some (.slice A0_2 l0_2.length c0_2) ∧ w'.cell? ⟨gb316, 3, none⟩ = some (.int .i64 a0_3) ∧ w'.cell? ⟨gb316, 4, none⟩ = some (.slice (some ad331) l0_4.length c0_4) ∧ w'.cell? ⟨gb316, 5, none⟩ = some (.slice A0_5 l0_5.length c0_5) ∧ w'.cell? (ad331.add ((x7_4).toNat * 2)) = some (.int .i64 ((rd_T109 l0_4 x7_4).f0)) ∧ w'.cell? ⟨(ad331.add ((x7_4).toNat * 2)).block, (ad331.add ((x7_4).toNat * 2)).off + 1, none⟩ = some (.bool ((rd_T109 l0_4 x7_4).f1)) ∧ w'.cell? (ad331.add ((x7_4).toNat * 2)) = some (.int .i64 ((rd_T109 l0_4 x7_4).f0)) ∧ w'.cell? ⟨(ad331.add ((x7_4).toNat * 2)).block, (ad331.add ((x7_4).toNat * 2)).off + 1, none⟩ = some (.bool ((rd_T109 l0_4 x7_4).f1))) (ds := []) (tf 0 38) (by kernel_rfl) rfl rfl (cells_6 BK316.out ⟨(hxb HB hw331_0 :), (hxb HB hw331_1 :), (hxb HB hw332_0 :), (hxb HB hw332_1 :)⟩) (fun hHeld => ?_); refine with_tabW spec_StateOk.tab18 spec_StateOk.bits18 (fun HT_ HW_ => ?_)
             generalize wr.drew = w216 at BK316 HB hx331_0 hx331_1 hx332_0 hx332_1 hHeld ⊢
             refine pvn_ HT_ (h := ?_)
             refine pv_ HT_ 2 (some 189) (tb 38 5) (h := ?_)
             refine tv_ HT_ HW_ hHeld 1 (some 188) (tf 3 35) (h := ?_)
             iterate 2 (refine pvn_ HT_ (h := ?_))
             refine tvn_ HT_ HW_ hHeld (h := ?_)
             iterate 3 (refine pvn_ HT_ (h := ?_))
             refine pv_ HT_ 10 (some 197) (tb 38 1535) (h := ?_)
             refine pv_ HT_ 14 (some 201) (tb 38 17919) (h := ?_)
             refine tv_ HT_ HW_ hHeld 9 (some 196) (tb 38 18431) (h := ?_)
             refine pv_ HT_ 11 (some 198) (tb 38 20479) (h := ?_)
             refine pv_ HT_ 12 (some 199) (tb 38 24575) (h := ?_)
             refine tv_ HT_ HW_ hHeld 13 (some 200) (tf 15 23) (h := ?_)
             refine tvn_ HT_ HW_ hHeld (h := ?_)
             iterate 3 (refine pvn_ HT_ (h := ?_))
             refine puns_ HT_ 18 [some _, some _, some _, some _, some _, some _, some _, some _, some _, some _, some _, some _, some _, some _, some _, some _, some _, some _] (h := ?_)
             refine pvn_ HT_ (h := ?_)
             refine done_ (done_of HT_.out (by kernel_rfl)) ?_
             try go_wp2
             go_ret
             exact ⟨rz_, bel⟩
           rw [if_neg c214] at H
           have c214b0 : decide (a0_0 < ((rd_T109 l0_4 x7_4).f0)) = false := decide_eq_false c214
           clear c214
           by_cases c217 : x7_4 > 0
           ·rw [if_pos c217] at H
            have c217b0 : decide (0 < x7_4) = true := decide_eq_true c217
            clear c217
            obtain ⟨ji218, hji218⟩ : ∃ j_ : Int, (wrap64 (x7_4 - 1)) = j_ := ⟨_, rfl⟩
            replace H : (if 0 ≤ (ji218) then (if (ji218) < (l0_4.length : Int) then (if ((rd_T109 l0_4 (ji218)).f0) ≥ ((rd_T109 l0_4 x7_4).f0) then (some false) else (spec_StateOk.l2 k4 (wrap64 (x7_4 + 1)) a0_0 l0_1 l0_2 a0_3 l0_4 l0_5)) else (none)) else (none)) = some r := by first | (rw [hji218] at H; exact H) | (simp only [hji218] at H ⊢; exact H)
            have hji218w : (IntKind.i64.wrap (x7_4 - 1)) = ji218 := (i64_w _).trans hji218
            by_cases c219 : 0 ≤ (ji218)
            ·rw [if_pos c219] at H
             have c219b0 : decide (0 ≤ (ji218)) = true := decide_eq_true c219
             clear c219
             by_cases c220 : (ji218) < (l0_4.length : Int)
             ·rw [if_pos c220] at H
              have c220b0 : decide ((ji218) < (l0_4.length : Int)) = true := decide_eq_true c220
              clear c220
              obtain ⟨hczv1_0, hczv1_1, hczv1_2, hczv1_3, hczv1_4, hczv1_5, -⟩ := cells_6 BK316.out trivial
              obtain ⟨hfzv2_0, hfzv2_1, hfzv2_2, hfzv2_3, hfzv2_4, hfzv2_5, -⟩ := frz_6 BK316.out
              try go_wp2
              replace BK316 := Aside0.mk (blk_drew BK316.out)
              replace HB := Aside0.mk (below_drew1 HB.out)
              have p331 : 0 ≤ (x7_4 : Int) := od
              have q331 : x7_4 < (l0_4.length : Int) := od
              obtain ⟨ad331, e331, hx331_0, hx331_1⟩ := at_T109 HR0_4.out x7_4 p331 q331
              have hw331_1 := hx331_1
              have hw331_0 := hx331_0
              cases e331
              replace hx331_0 := hxb HB hx331_0
              replace hx331_1 := hxb HB hx331_1
              replace p331 := eq_true p331
              replace q331 := eq_true q331
              have p332 : 0 ≤ (x7_4 : Int) := od
              have q332 : x7_4 < (l0_4.length : Int) := od
              obtain ⟨ad332, e332, hx332_0, hx332_1⟩ := at_T109 HR0_4.out x7_4 p332 q332
              have hw332_1 := hx332_1
              have hw332_0 := hx332_0
              obtain rfl : ad331 = ad332 := (by injection e332)
              replace hx332_0 := hxb HB hx332_0
              replace hx332_1 := hxb HB hx332_1
              replace p332 := eq_true p332
              replace q332 := eq_true q332
              have p334 : 0 ≤ (x7_4 : Int) := od
              have q334 : x7_4 < (l0_4.length : Int) := od
              obtain ⟨ad334, e334, hx334_0, hx334_1⟩ := at_T109 HR0_4.out x7_4 p334 q334
              have hw334_1 := hx334_1
              have hw334_0 := hx334_0
              obtain rfl : ad331 = ad334 := (by injection e334)
              replace hx334_0 := hxb HB hx334_0
              replace hx334_1 := hxb HB hx334_1
              replace p334 := eq_true p334
              replace q334 := eq_true q334
              have p333 : 0 ≤ ((ji218) : Int) := od
              have q333 : (ji218) < (l0_4.length : Int) := od
              obtain ⟨ad333, e333, hx333_0, hx333_1⟩ := at_T109 HR0_4.out (ji218) p333 q333
              have hw333_1 := hx333_1
              have hw333_0 := hx333_0
              obtain rfl : ad331 = ad333 := (by injection e333)
              replace hx333_0 := hxb HB hx333_0
              replace hx333_1 := hxb HB hx333_1
              replace p333 := eq_true p333
              replace q333 := eq_true q333
              refine start_ (n := 38) (S := fun w' => w'.cell? ⟨gb316, 0, none⟩ = some (.int .i64 a0_0) ∧ w'.cell? ⟨gb316, 1, none⟩ = some (.slice A0_1 l0_1.length c0_1) ∧ w'.cell? ⟨gb316, 2, none⟩ = some (.slice A0_2 l0_2.length c0_2) ∧ w'.cell? ⟨gb316, 3, none⟩ = some (.int .i64 a0_3) ∧ w'.cell? ⟨gb316, 4, none⟩ = some (.slice (some ad331) l0_4.length c0_4) ∧ w'.cell? ⟨gb316, 5, none⟩ = some (.slice A0_5 l0_5.length c0_5) ∧ w'.cell? (ad331.add ((x7_4).toNat * 2)) = some (.int .i64 ((rd_T109 l0_4 x7_4).f0)) ∧ w'.cell? ⟨(ad331.add ((x7_4).toNat * 2)).block, (ad331.add ((x7_4).toNat * 2)).off + 1, none⟩ = some (.bool ((rd_T109 l0_4 x7_4).f1)) ∧ w'.cell? (ad331.add ((x7_4).toNat * 2)) = some (.int .i64 ((rd_T109 l0_4 x7_4).f0)) ∧ w'.cell? ⟨(ad331.add ((x7_4).toNat * 2)).block, (ad331.add ((x7_4).toNat * 2)).off + 1, none⟩ = some (.bool ((rd_T109 l0_4 x7_4).f1)) ∧ w'.cell? (ad331.add (((ji218)).toNat * 2)) = some (.int .i64 ((rd_T109 l0_4 (ji218)).f0)) ∧ w'.cell? ⟨(ad331.add (((ji218)).toNat * 2)).block, (ad331.add (((ji218)).toNat * 2)).off + 1, none⟩ = some (.bool ((rd_T109 l0_4 (ji218)).f1)) ∧ w'.cell? (ad331.add ((x7_4).toNat * 2)) = some (.int .i64 ((rd_T109 l0_4 x7_4).f0)) ∧ w'.cell? ⟨(ad331.add ((x7_4).toNat * 2)).block, (ad331.add ((x7_4).toNat * 2)).off + 1, none⟩ = some (.bool ((rd_T109 l0_4 x7_4).f1))) (ds := []) (tf 0 38) (by kernel_rfl) rfl rfl (cells_6 BK316.out ⟨(hxb HB hw331_0 :), (hxb HB hw331_1 :), (hxb HB hw332_0 :), (hxb HB hw332_1 :), (hxb HB hw333_0 :), (hxb HB hw333_1 :), (hxb HB hw334_0 :), (hxb HB hw334_1 :)⟩) (fun hHeld => ?_); refine with_tabW spec_StateOk.tab18 spec_StateOk.bits18 (fun HT_ HW_ => ?_)
              generalize wr.drew = wv1 at BK316 HB hx331_0 hx331_1 hx332_0 hx332_1 hx333_0 hx333_1 hx334_0 hx334_1 hHeld ⊢
              refine pvn_ HT_ (h := ?_)
              refine pv_ HT_ 2 (some 189) (tb 38 5) (h := ?_)
              refine tv_ HT_ HW_ hHeld 1 (some 188) (tf 3 35) (h := ?_)
              iterate 2 (refine pvn_ HT_ (h := ?_))
              refine tvn_ HT_ HW_ hHeld (h := ?_)
              iterate 3 (refine pvn_ HT_ (h := ?_))
              refine pv_ HT_ 10 (some 197) (tb 38 1535) (h := ?_)
              refine pv_ HT_ 14 (some 201) (tb 38 17919) (h := ?_)
              refine tv_ HT_ HW_ hHeld 9 (some 196) (tb 38 18431) (h := ?_)
              refine pv_ HT_ 11 (some 198) (tb 38 20479) (h := ?_)
              refine pv_ HT_ 12 (some 199) (tb 38 24575) (h := ?_)
              refine tv_ HT_ HW_ hHeld 13 (some 200) (tf 15 23) (h := ?_)
              refine tvn_ HT_ HW_ hHeld (h := ?_)
              iterate 7 (refine pvn_ HT_ (h := ?_))
              refine pv_ HT_ 24 (some 211) (tb 38 25165823) (h := ?_)
              refine pv_ HT_ 25 (some 212) (tb 38 58720255) (h := ?_)
              refine pv_ HT_ 29 (some 216) (tb 38 595591167) (h := ?_)
              refine pv_ HT_ 31 (some 218) (tb 38 2743074815) (h := ?_)
              refine tv_ HT_ HW_ hHeld 23 (some 210) (tb 38 2751463423) (h := ?_)
              refine pv_ HT_ 26 (some 213) (tb 38 2818572287) (h := ?_)
              refine pv_ HT_ 27 (some 214) (tb 38 2952790015) (h := ?_)
              refine tv_ HT_ HW_ hHeld 28 (some 215) (tb 38 3221225471) (h := ?_)
              refine tv_ HT_ HW_ hHeld 30 (some 217) (tf 32 6) (h := ?_)
              iterate 2 (refine pvn_ HT_ (h := ?_))
              by_cases c221 : ((rd_T109 l0_4 (ji218)).f0) ≥ ((rd_T109 l0_4 x7_4).f0)
              ·rw [if_pos c221] at H
               have c221b0 : decide (((rd_T109 l0_4 x7_4).f0) ≤ ((rd_T109 l0_4 (ji218)).f0)) = true := decide_eq_true c221
               clear c221
               obtain rfl := Option.some.inj H
               refine tvn_ HT_ HW_ hHeld (h := ?_)
               iterate 3 (refine pvn_ HT_ (h := ?_))
               refine done_ (done_of HT_.out (by kernel_rfl)) ?_
               try go_wp2
               go_ret
               exact ⟨by first | rfl | (simp [errW_none, errW_some] <;> rfl) | (simp only [← hji218]; first | rfl | (simp [errW_none, errW_some] <;> rfl)) | (simp [*, errW_none, errW_some] <;> rfl), bel⟩
              rw [if_neg c221] at H
              have c221b0 : decide (((rd_T109 l0_4 x7_4).f0) ≤ ((rd_T109 l0_4 (ji218)).f0)) = false := decide_eq_false c221
              clear c221
              have H' := Aside0.mk H
              clear H
              refine tvn_ HT_ HW_ hHeld (h := ?_)
              iterate 3 (refine pvn_ HT_ (h := ?_))
              refine done_ (done_of HT_.out (by kernel_rfl)) ?_
              try go_wp2
              go_roundg k4
              case measure => have := HJ1.out; have := HK2.out; have := HK3.out; have := HK4.out; omega
              case rel => exact ⟨(wrap64 (x7_4 + 1)), rs_, H', ⟨by have := HJ1.out; have := HK2.out; have := HK3.out; have := HK4.out; omega⟩, ⟨bkp BK316⟩, ⟨bel⟩⟩
             rw [if_neg c220] at H
             exact absurd H (by simp)
            rw [if_neg c219] at H
            exact absurd H (by simp)
           rw [if_neg c217] at H
           have c217b0 : decide (0 < x7_4) = false := decide_eq_false c217
           clear c217
           as_aux_lemma =>
            have H' := Aside0.mk H
            clear H
            obtain ⟨C226_0, C226_1, C226_2, C226_3, C226_4, C226_5, -⟩ := cells_6 BK316.out trivial
            obtain ⟨F226_0, F226_1, F226_2, F226_3, F226_4, F226_5, -⟩ := frz_6 BK316.out
            try go_wp2
            replace BK316 := Aside0.mk (blk_drew BK316.out)
            replace HB := Aside0.mk (below_drew1 HB.out)
            have p331 : 0 ≤ (x7_4 : Int) := od
            have q331 : x7_4 < (l0_4.length : Int) := od
            obtain ⟨ad331, e331, hx331_0, hx331_1⟩ := at_T109 HR0_4.out x7_4 p331 q331
            have hw331_1 := hx331_1
            have hw331_0 := hx331_0
            cases e331
            replace hx331_0 := hxb HB hx331_0
            replace hx331_1 := hxb HB hx331_1
            replace p331 := eq_true p331
            replace q331 := eq_true q331
            have p332 : 0 ≤ (x7_4 : Int) := od
            have q332 : x7_4 < (l0_4.length : Int) := od
            obtain ⟨ad332, e332, hx332_0, hx332_1⟩ := at_T109 HR0_4.out x7_4 p332 q332
            have hw332_1 := hx332_1
            have hw332_0 := hx332_0
            obtain rfl : ad331 = ad332 := (by injection e332)
            replace hx332_0 := hxb HB hx332_0
            replace hx332_1 := hxb HB hx332_1
            replace p332 := eq_true p332
            replace q332 := eq_true q332
            refine start_ (n := 38) (S := fun w' => w'.cell? ⟨gb316, 0, none⟩ = some (.int .i64 a0_0) ∧ w'.cell? ⟨gb316, 1, none⟩ = some (.slice A0_1 l0_1.length c0_1) ∧ w'.cell? ⟨gb316, 2, none⟩ = some (.slice A0_2 l0_2.length c0_2) ∧ w'.cell? ⟨gb316, 3, none⟩ = some (.int .i64 a0_3) ∧ w'.cell? ⟨gb316, 4, none⟩ = some (.slice (some ad331) l0_4.length c0_4) ∧ w'.cell? ⟨gb316, 5, none⟩ = some (.slice A0_5 l0_5.length c0_5) ∧ w'.cell? (ad331.add ((x7_4).toNat * 2)) = some (.int .i64 ((rd_T109 l0_4 x7_4).f0)) ∧ w'.cell? ⟨(ad331.add ((x7_4).toNat * 2)).block, (ad331.add ((x7_4).toNat * 2)).off + 1, none⟩ = some (.bool ((rd_T109 l0_4 x7_4).f1)) ∧ w'.cell? (ad331.add ((x7_4).toNat * 2)) = some (.int .i64 ((rd_T109 l0_4 x7_4).f0)) ∧ w'.cell? ⟨(ad331.add ((x7_4).toNat * 2)).block, (ad331.add ((x7_4).toNat * 2)).off + 1, none⟩ = some (.bool ((rd_T109 l0_4 x7_4).f1))) (ds := []) (tf 0 38) (by kernel_rfl) rfl rfl (cells_6 BK316.out ⟨(hxb HB hw331_0 :), (hxb HB hw331_1 :), (hxb HB hw332_0 :), (hxb HB hw332_1 :)⟩) (fun hHeld => ?_); refine with_tabW spec_StateOk.tab18 spec_StateOk.bits18 (fun HT_ HW_ => ?_)
            generalize wr.drew = w227 at BK316 HB hx331_0 hx331_1 hx332_0 hx332_1 hHeld ⊢
            refine pvn_ HT_ (h := ?_)
            refine pv_ HT_ 2 (some 189) (tb 38 5) (h := ?_)
            refine tv_ HT_ HW_ hHeld 1 (some 188) (tf 3 35) (h := ?_)
            iterate 2 (refine pvn_ HT_ (h := ?_))
            refine tvn_ HT_ HW_ hHeld (h := ?_)
            iterate 3 (refine pvn_ HT_ (h := ?_))
            refine pv_ HT_ 10 (some 197) (tb 38 1535) (h := ?_)
            refine pv_ HT_ 14 (some 201) (tb 38 17919) (h := ?_)
            refine tv_ HT_ HW_ hHeld 9 (some 196) (tb 38 18431) (h := ?_)
            refine pv_ HT_ 11 (some 198) (tb 38 20479) (h := ?_)
            refine pv_ HT_ 12 (some 199) (tb 38 24575) (h := ?_)
            refine tv_ HT_ HW_ hHeld 13 (some 200) (tf 15 23) (h := ?_)
            refine tvn_ HT_ HW_ hHeld (h := ?_)
            iterate 6 (refine pvn_ HT_ (h := ?_))
            refine puns_ HT_ 14 [some _, some _, some _, some _, some _, some _, some _, some _, some _, some _, some _, some _, some _, some _] (h := ?_)
            iterate 2 (refine pvn_ HT_ (h := ?_))
            refine done_ (done_of HT_.out (by kernel_rfl)) ?_
            try go_wp2
            go_roundg k4
            case measure => have := HJ1.out; have := HK2.out; have := HK3.out; have := HK4.out; omega
            case rel => exact ⟨(wrap64 (x7_4 + 1)), rs_, H', ⟨by have := HJ1.out; have := HK2.out; have := HK3.out; have := HK4.out; omega⟩, ⟨bkp BK316⟩, ⟨bel⟩⟩
          rw [if_neg c210] at H
          exact absurd H (by simp)
         rw [if_neg c209] at H
         have c209b0 : decide (x7_4 < (l0_4.length : Int)) = false := decide_eq_false c209
         clear c209
         have H' := Aside0.mk H
         clear H
         obtain ⟨C228_0, C228_1, C228_2, C228_3, C228_4, C228_5, -⟩ := cells_6 BK316.out trivial
         obtain ⟨F228_0, F228_1, F228_2, F228_3, F228_4, F228_5, -⟩ := frz_6 BK316.out
         go_wp2
         go_loopg [8] k4 (fun kq v8 w' => ∃ (x8_5 : Int), v8 = .int .i64 x8_5 ∧ Aside0 (spec_StateOk.l3 kq x8_5 a0_0 l0_1 l0_2 a0_3 l0_4 l0_5 = some r) ∧ Aside0 (kq ≤ k4) ∧ Aside0 (w'.heap[gb316]? = some (.cells #[.int .i64 a0_0, (.slice A0_1 l0_1.length c0_1), (.slice A0_2 l0_2.length c0_2), .int .i64 a0_3, (.slice A0_4 l0_4.length c0_4), (.slice A0_5 l0_5.length c0_5)] 35 (0, 0))) ∧ Aside0 (Below w.heap.size w w'))
         case atStart => exact ⟨(0), rs_, H', ⟨Nat.le_refl _⟩, ⟨bkp BK316⟩, ⟨bel⟩⟩
         case round => as_aux_lemma =>
          clear H'
          try clear c2; try clear p2; try clear p3; try clear q3; try clear hx3; try clear p6; try clear c20; try clear c21; try clear c22; try clear p33; try clear q33; try clear hx33; try clear p64; try clear c209; try clear c209b0; try clear c210; try clear c217; try clear c217b0; try clear c219; try clear c220; try clear C226_0 C226_1 C226_2 C226_3 C226_4 C226_5; try clear C228_0 C228_1 C228_2 C228_3 C228_4 C228_5; try clear F226_0 F226_1 F226_2 F226_3 F226_4 F226_5; try clear F228_0 F228_1 F228_2 F228_3 F228_4 F228_5; try clear hx331_0; try clear hx331_1; try clear hx332_0; try clear hx332_1; try clear p331; try clear p332; try clear q331; try clear q332
          obtain ⟨x8_5, rfl, HA, HK5, BK316, HB⟩ := hrel
          cases gk with
          | zero => exact absurd HA.out (by simp [spec_StateOk.l3])
          | succ k5 =>
           have H := HA.out
           clear HA
           simp only [spec_StateOk.l3] at H
           by_cases c229 : x8_5 < (l0_5.length : Int)
           ·rw [if_pos c229] at H
            have c229b0 : decide (x8_5 < (l0_5.length : Int)) = true := decide_eq_true c229
            clear c229
            by_cases c230 : 0 ≤ x8_5
            ·rw [if_pos c230] at H
             have c230b0 : decide (0 ≤ x8_5) = true := decide_eq_true c230
             clear c230
             obtain ⟨hczv1_0, hczv1_1, hczv1_2, hczv1_3, hczv1_4, hczv1_5, -⟩ := cells_6 BK316.out trivial
             obtain ⟨hfzv2_0, hfzv2_1, hfzv2_2, hfzv2_3, hfzv2_4, hfzv2_5, -⟩ := frz_6 BK316.out
             have p335 : 0 ≤ (x8_5 : Int) := od
             have q335 : x8_5 < (l0_5.length : Int) := od
             obtain ⟨ad335, e335, hx335_0, hx335_1, hx335_2, hx335_3⟩ := at_T75 HR0_5.out x8_5 p335 q335
             cases e335
             replace hx335_0 := hxb HB hx335_0
             replace hx335_1 := hxb HB hx335_1
             replace hx335_2 := hxb HB hx335_2
             replace hx335_3 := hxb HB hx335_3
             replace p335 := eq_true p335
             replace q335 := eq_true q335
             try go_wp2_with (first | ((with_reducible refine gate_dst (N := 9) rfl ?_); (try (refine gate_guard (by rfl) ?_; dsimp only)); refine bx_ 9 #[.int .i64 0, .int .i64 0, .int .i64 0, .int .i64 0] 75 (h := ?_); intro gb336 hg wv1 hbox hb; have BK336 := Aside0.mk (hbox); have GW336 := Aside0.mk ((by rw [hg]; exact (below_size bel) : w.heap.size ≤ gb336)); have GE336 := GW336; have NB316_336 := Aside0.mk ((by rw [hg]; exact Nat.ne_of_lt (blt BK316) : gb316 ≠ gb336)); have NB336_316 := Aside0.mk NB316_336.out.symm; replace BK316 := Aside0.mk (blb BK316 hb); replace HB := bst hb; clear hb hbox hg; have hnbv3 := NB336_316.out; have hncv4 := NB316_336.out; obtain ⟨hczv5_0, hczv5_1, hczv5_2, hczv5_3, -⟩ := cells_4 BK336.out trivial; obtain ⟨hfzv6_0, hfzv6_1, hfzv6_2, hfzv6_3, -⟩ := frz_4 BK336.out))
             refine put4_ BK336.out ?_
             intro wv2 hp_ hf_ hb_
             replace BK316 := Aside0.mk ((hf_ _ NB316_336.out).trans BK316.out)
             replace HB := Aside0.mk (hb_ _ HB.out GE336.out)
             replace BK336 := Aside0.mk hp_
             clear hp_ hf_ hb_
             replace BK316 := Aside0.mk (blk_drew BK316.out)
             replace BK336 := Aside0.mk (blk_drew BK336.out)
             replace HB := Aside0.mk (below_drew1 HB.out)
             refine start_ (n := 60) (S := fun w' => w'.cell? ⟨gb336, 0, none⟩ = some (.int .i64 ((rd_T75 l0_5 x8_5).f0)) ∧ w'.cell? ⟨gb336, 1, none⟩ = some (.int .i64 ((rd_T75 l0_5 x8_5).f1)) ∧ w'.cell? ⟨gb336, 2, none⟩ = some (.int .i64 ((rd_T75 l0_5 x8_5).f2.f0)) ∧ w'.cell? ⟨gb336, 3, none⟩ = some (.int .i64 ((rd_T75 l0_5 x8_5).f2.f1)) ∧ w'.cell? ⟨gb316, 0, none⟩ = some (.int .i64 a0_0) ∧ w'.cell? ⟨gb316, 1, none⟩ = some (.slice A0_1 l0_1.length c0_1) ∧ w'.cell? ⟨gb316, 2, none⟩ = some (.slice A0_2 l0_2.length c0_2) ∧ w'.cell? ⟨gb316, 3, none⟩ = some (.int .i64 a0_3) ∧ w'.cell? ⟨gb316, 4, none⟩ = some (.slice A0_4 l0_4.length c0_4) ∧ w'.cell? ⟨gb316, 5, none⟩ = some (.slice (some ad335) l0_5.length c0_5)) (ds := []) (tf 0 60) (by kernel_rfl) rfl rfl (cells_4 BK336.out (cellz_6 BK316.out)) (fun hHeld => ?_); refine with_tabW spec_StateOk.tab24 spec_StateOk.bits24 (fun HT_ HW_ => ?_)
             generalize wv2.drew = wv3 at BK316 BK336 HB hHeld ⊢
             by_cases c231 : ((rd_T75 l0_5 x8_5).f0) < 0
             ·rw [if_pos c231] at H
              have c231b0 : decide (((rd_T75 l0_5 x8_5).f0) < 0) = true := decide_eq_true c231
              clear c231
              obtain rfl := Option.some.inj H
              refine pvn_ HT_ (h := ?_)
              refine tvn_ HT_ HW_ hHeld (h := ?_)
              iterate 2 (refine pvn_ HT_ (h := ?_))
              refine puns_ HT_ 3 [some _, some _, some _] (h := ?_)
              iterate 2 (refine pvn_ HT_ (h := ?_))
              refine puns_ HT_ 3 [some _, some _, some _] (h := ?_)
              iterate 2 (refine pvn_ HT_ (h := ?_))
              refine puns_ HT_ 3 [some _, some _, some _] (h := ?_)
              iterate 2 (refine pvn_ HT_ (h := ?_))
              refine puns_ HT_ 4 [some _, some _, some _, some _] (h := ?_)
              iterate 2 (refine pvn_ HT_ (h := ?_))
              refine puns_ HT_ 4 [some _, some _, some _, some _] (h := ?_)
              iterate 2 (refine pvn_ HT_ (h := ?_))
              refine puns_ HT_ 4 [some _, some _, some _, some _] (h := ?_)
              iterate 2 (refine pvn_ HT_ (h := ?_))
              refine puns_ HT_ 6 [some _, some _, some _, some _, some _, some _] (h := ?_)
              iterate 2 (refine pvn_ HT_ (h := ?_))
              refine puns_ HT_ 14 [some _, some _, some _, some _, some _, some _, some _, some _, some _, some _, some _, some _, some _, some _] (h := ?_)
              refine pvn_ HT_ (h := ?_)
              refine done_ (done_of HT_.out (by kernel_rfl)) ?_
              try go_wp2
              go_ret
              exact ⟨rz_, bel⟩
             rw [if_neg c231] at H
             have c231b0 : decide (((rd_T75 l0_5 x8_5).f0) < 0) = false := decide_eq_false c231
             clear c231
             refine pvn_ HT_ (h := ?_)
             refine tvn_ HT_ HW_ hHeld (h := ?_)
             refine pvn_ HT_ (h := ?_)
             by_cases c238 : ((rd_T75 l0_5 x8_5).f0) ≥ 4
             ·rw [if_pos c238] at H
              have c238b0 : decide (4 ≤ ((rd_T75 l0_5 x8_5).f0)) = true := decide_eq_true c238
              clear c238
              obtain rfl := Option.some.inj H
              iterate 2 (refine pvn_ HT_ (h := ?_))
              refine tvn_ HT_ HW_ hHeld (h := ?_)
              iterate 3 (refine pvn_ HT_ (h := ?_))
              refine puns_ HT_ 3 [some _, some _, some _] (h := ?_)
              iterate 2 (refine pvn_ HT_ (h := ?_))
              refine puns_ HT_ 3 [some _, some _, some _] (h := ?_)
              iterate 2 (refine pvn_ HT_ (h := ?_))
              refine puns_ HT_ 4 [some _, some _, some _, some _] (h := ?_)
              iterate 2 (refine pvn_ HT_ (h := ?_))
              refine puns_ HT_ 4 [some _, some _, some _, some _] (h := ?_)
              iterate 2 (refine pvn_ HT_ (h := ?_))
              refine puns_ HT_ 4 [some _, some _, some _, some _] (h := ?_)
              iterate 2 (refine pvn_ HT_ (h := ?_))
              refine puns_ HT_ 6 [some _, some _, some _, some _, some _, some _] (h := ?_)
              iterate 2 (refine pvn_ HT_ (h := ?_))
              refine puns_ HT_ 14 [some _, some _, some _, some _, some _, some _, some _, some _, some _, some _, some _, some _, some _, some _] (h := ?_)
              refine pvn_ HT_ (h := ?_)
              refine done_ (done_of HT_.out (by kernel_rfl)) ?_
              try go_wp2
              go_ret
              exact ⟨rz_, bel⟩
             rw [if_neg c238] at H
             have c238b0 : decide (4 ≤ ((rd_T75 l0_5 x8_5).f0)) = false := decide_eq_false c238
             clear c238
             iterate 2 (refine pvn_ HT_ (h := ?_))
             refine tvn_ HT_ HW_ hHeld (h := ?_)
             iterate 2 (refine pvn_ HT_ (h := ?_))
             by_cases c245 : ((rd_T75 l0_5 x8_5).f1) < 1
             ·rw [if_pos c245] at H
              have c245b0 : decide (((rd_T75 l0_5 x8_5).f1) < 1) = true := decide_eq_true c245
              clear c245
              obtain rfl := Option.some.inj H
              iterate 2 (refine pvn_ HT_ (h := ?_))
              refine tvn_ HT_ HW_ hHeld (h := ?_)
              iterate 3 (refine pvn_ HT_ (h := ?_))
              refine puns_ HT_ 3 [some _, some _, some _] (h := ?_)
              iterate 2 (refine pvn_ HT_ (h := ?_))
              refine puns_ HT_ 4 [some _, some _, some _, some _] (h := ?_)
              iterate 2 (refine pvn_ HT_ (h := ?_))
              refine puns_ HT_ 4 [some _, some _, some _, some _] (h := ?_)
              iterate 2 (refine pvn_ HT_ (h := ?_))
              refine puns_ HT_ 4 [some _, some _, some _, some _] (h := ?_)
              iterate 2 (refine pvn_ HT_ (h := ?_))
              refine puns_ HT_ 6 [some _, some _, some _, some _, some _, some _] (h := ?_)
              iterate 2 (refine pvn_ HT_ (h := ?_))
              refine puns_ HT_ 14 [some _, some _, some _, some _, some _, some _, some _, some _, some _, some _, some _, some _, some _, some _] (h := ?_)
              refine pvn_ HT_ (h := ?_)
              refine done_ (done_of HT_.out (by kernel_rfl)) ?_
              try go_wp2
              go_ret
              exact ⟨rz_, bel⟩
             rw [if_neg c245] at H
             have c245b0 : decide (((rd_T75 l0_5 x8_5).f1) < 1) = false := decide_eq_false c245
             clear c245
             iterate 2 (refine pvn_ HT_ (h := ?_))
             refine tvn_ HT_ HW_ hHeld (h := ?_)
             iterate 2 (refine pvn_ HT_ (h := ?_))
             by_cases c252 : ((rd_T75 l0_5 x8_5).f1) > 1000000
             ·rw [if_pos c252] at H
              have c252b0 : decide (1000000 < ((rd_T75 l0_5 x8_5).f1)) = true := decide_eq_true c252
              clear c252
              obtain rfl := Option.some.inj H
              iterate 2 (refine pvn_ HT_ (h := ?_))
              refine tvn_ HT_ HW_ hHeld (h := ?_)
              iterate 3 (refine pvn_ HT_ (h := ?_))
              refine puns_ HT_ 4 [some _, some _, some _, some _] (h := ?_)
              iterate 2 (refine pvn_ HT_ (h := ?_))
              refine puns_ HT_ 4 [some _, some _, some _, some _] (h := ?_)
              iterate 2 (refine pvn_ HT_ (h := ?_))
              refine puns_ HT_ 4 [some _, some _, some _, some _] (h := ?_)
              iterate 2 (refine pvn_ HT_ (h := ?_))
              refine puns_ HT_ 6 [some _, some _, some _, some _, some _, some _] (h := ?_)
              iterate 2 (refine pvn_ HT_ (h := ?_))
              refine puns_ HT_ 14 [some _, some _, some _, some _, some _, some _, some _, some _, some _, some _, some _, some _, some _, some _] (h := ?_)
              refine pvn_ HT_ (h := ?_)
              refine done_ (done_of HT_.out (by kernel_rfl)) ?_
              try go_wp2
              go_ret
              exact ⟨rz_, bel⟩
             rw [if_neg c252] at H
             have c252b0 : decide (1000000 < ((rd_T75 l0_5 x8_5).f1)) = false := decide_eq_false c252
             clear c252
             iterate 2 (refine pvn_ HT_ (h := ?_))
             refine tvn_ HT_ HW_ hHeld (h := ?_)
             iterate 3 (refine pvn_ HT_ (h := ?_))
             by_cases c259 : ((rd_T75 l0_5 x8_5).f2.f0) < 0
             ·rw [if_pos c259] at H
              have c259b0 : decide (((rd_T75 l0_5 x8_5).f2.f0) < 0) = true := decide_eq_true c259
              clear c259
              obtain rfl := Option.some.inj H
              iterate 2 (refine pvn_ HT_ (h := ?_))
              refine tvn_ HT_ HW_ hHeld (h := ?_)
              iterate 3 (refine pvn_ HT_ (h := ?_))
              refine puns_ HT_ 4 [some _, some _, some _, some _] (h := ?_)
              iterate 2 (refine pvn_ HT_ (h := ?_))
              refine puns_ HT_ 4 [some _, some _, some _, some _] (h := ?_)
              iterate 2 (refine pvn_ HT_ (h := ?_))
              refine puns_ HT_ 6 [some _, some _, some _, some _, some _, some _] (h := ?_)
              iterate 2 (refine pvn_ HT_ (h := ?_))
              refine puns_ HT_ 14 [some _, some _, some _, some _, some _, some _, some _, some _, some _, some _, some _, some _, some _, some _] (h := ?_)
              refine pvn_ HT_ (h := ?_)
              refine done_ (done_of HT_.out (by kernel_rfl)) ?_
              try go_wp2
              go_ret
              exact ⟨rz_, bel⟩
             rw [if_neg c259] at H
             have c259b0 : decide (((rd_T75 l0_5 x8_5).f2.f0) < 0) = false := decide_eq_false c259
             clear c259
             iterate 2 (refine pvn_ HT_ (h := ?_))
             refine tvn_ HT_ HW_ hHeld (h := ?_)
             iterate 3 (refine pvn_ HT_ (h := ?_))
             by_cases c266 : ((rd_T75 l0_5 x8_5).f2.f0) > 5
             ·rw [if_pos c266] at H
              have c266b0 : decide (5 < ((rd_T75 l0_5 x8_5).f2.f0)) = true := decide_eq_true c266
              clear c266
              obtain rfl := Option.some.inj H
              iterate 2 (refine pvn_ HT_ (h := ?_))
              refine tvn_ HT_ HW_ hHeld (h := ?_)
              iterate 3 (refine pvn_ HT_ (h := ?_))
              refine puns_ HT_ 4 [some _, some _, some _, some _] (h := ?_)
              iterate 2 (refine pvn_ HT_ (h := ?_))
              refine puns_ HT_ 6 [some _, some _, some _, some _, some _, some _] (h := ?_)
              iterate 2 (refine pvn_ HT_ (h := ?_))
              refine puns_ HT_ 14 [some _, some _, some _, some _, some _, some _, some _, some _, some _, some _, some _, some _, some _, some _] (h := ?_)
              refine pvn_ HT_ (h := ?_)
              refine done_ (done_of HT_.out (by kernel_rfl)) ?_
              try go_wp2
              go_ret
              exact ⟨rz_, bel⟩
             rw [if_neg c266] at H
             have c266b0 : decide (5 < ((rd_T75 l0_5 x8_5).f2.f0)) = false := decide_eq_false c266
             clear c266
             iterate 2 (refine pvn_ HT_ (h := ?_))
             refine tvn_ HT_ HW_ hHeld (h := ?_)
             iterate 3 (refine pvn_ HT_ (h := ?_))
             by_cases c273 : ((rd_T75 l0_5 x8_5).f2.f1) < 1
             ·rw [if_pos c273] at H
              have c273b0 : decide (((rd_T75 l0_5 x8_5).f2.f1) < 1) = true := decide_eq_true c273
              clear c273
              obtain rfl := Option.some.inj H
              iterate 2 (refine pvn_ HT_ (h := ?_))
              refine tvn_ HT_ HW_ hHeld (h := ?_)
              iterate 3 (refine pvn_ HT_ (h := ?_))
              refine puns_ HT_ 6 [some _, some _, some _, some _, some _, some _] (h := ?_)
              iterate 2 (refine pvn_ HT_ (h := ?_))
              refine puns_ HT_ 14 [some _, some _, some _, some _, some _, some _, some _, some _, some _, some _, some _, some _, some _, some _] (h := ?_)
              refine pvn_ HT_ (h := ?_)
              refine done_ (done_of HT_.out (by kernel_rfl)) ?_
              try go_wp2
              go_ret
              exact ⟨rz_, bel⟩
             rw [if_neg c273] at H
             have c273b0 : decide (((rd_T75 l0_5 x8_5).f2.f1) < 1) = false := decide_eq_false c273
             clear c273
             iterate 2 (refine pvn_ HT_ (h := ?_))
             refine tvn_ HT_ HW_ hHeld (h := ?_)
             iterate 5 (refine pvn_ HT_ (h := ?_))
             by_cases c280 : ((rd_T75 l0_5 x8_5).f2.f1) > a0_0
             ·rw [if_pos c280] at H
              have c280b0 : decide (a0_0 < ((rd_T75 l0_5 x8_5).f2.f1)) = true := decide_eq_true c280
              clear c280
              obtain rfl := Option.some.inj H
              refine pv_ HT_ 40 (some 277) (tb 60 1649267441663) (h := ?_)
              refine tv_ HT_ HW_ hHeld 39 (some 276) (tf 41 19) (h := ?_)
              refine tvn_ HT_ HW_ hHeld (h := ?_)
              iterate 3 (refine pvn_ HT_ (h := ?_))
              refine puns_ HT_ 14 [some _, some _, some _, some _, some _, some _, some _, some _, some _, some _, some _, some _, some _, some _] (h := ?_)
              refine pvn_ HT_ (h := ?_)
              refine done_ (done_of HT_.out (by kernel_rfl)) ?_
              try go_wp2
              go_ret
              exact ⟨rz_, bel⟩
             rw [if_neg c280] at H
             have c280b0 : decide (a0_0 < ((rd_T75 l0_5 x8_5).f2.f1)) = false := decide_eq_false c280
             clear c280
             refine pv_ HT_ 40 (some 277) (tb 60 1649267441663) (h := ?_)
             refine tv_ HT_ HW_ hHeld 39 (some 276) (tf 41 19) (h := ?_)
             refine tvn_ HT_ HW_ hHeld (h := ?_)
             by_cases c287 : x8_5 > 0
             ·rw [if_pos c287] at H
              have c287b0 : decide (0 < x8_5) = true := decide_eq_true c287
              clear c287
              obtain ⟨ji288, hji288⟩ : ∃ j_ : Int, (wrap64 (x8_5 - 1)) = j_ := ⟨_, rfl⟩
              replace H : (if 0 ≤ (ji288) then (if (ji288) < (l0_5.length : Int) then (if ((rd_T75 l0_5 (ji288)).f0) ≥ ((rd_T75 l0_5 x8_5).f0) then (some false) else (spec_StateOk.l3 k5 (wrap64 (x8_5 + 1)) a0_0 l0_1 l0_2 a0_3 l0_4 l0_5)) else (none)) else (none)) = some r := by first | (rw [hji288] at H; exact H) | (simp only [hji288] at H ⊢; exact H)
              have hji288w : (IntKind.i64.wrap (x8_5 - 1)) = ji288 := (i64_w _).trans hji288
              by_cases c289 : 0 ≤ (ji288)
              ·rw [if_pos c289] at H
               have c289b0 : decide (0 ≤ (ji288)) = true := decide_eq_true c289
               clear c289
               by_cases c290 : (ji288) < (l0_5.length : Int)
               ·rw [if_pos c290] at H
                have c290b0 : decide ((ji288) < (l0_5.length : Int)) = true := decide_eq_true c290
                clear c290
                have p337 : 0 ≤ ((ji288) : Int) := od
                have q337 : (ji288) < (l0_5.length : Int) := od
                obtain ⟨ad337, e337, hx337_0, hx337_1, hx337_2, hx337_3⟩ := at_T75 HR0_5.out (ji288) p337 q337
                have hw337_3 := hx337_3
                have hw337_2 := hx337_2
                have hw337_1 := hx337_1
                have hw337_0 := hx337_0
                obtain rfl : ad335 = ad337 := (by injection e337)
                replace hx337_0 := hxb HB hx337_0
                replace hx337_1 := hxb HB hx337_1
                replace hx337_2 := hxb HB hx337_2
                replace hx337_3 := hxb HB hx337_3
                replace p337 := eq_true p337
                replace q337 := eq_true q337
                refine widen_ (S' := fun w' => w'.cell? ⟨gb336, 0, none⟩ = some (.int .i64 ((rd_T75 l0_5 x8_5).f0)) ∧ w'.cell? ⟨gb336, 1, none⟩ = some (.int .i64 ((rd_T75 l0_5 x8_5).f1)) ∧ w'.cell? ⟨gb336, 2, none⟩ = some (.int .i64 ((rd_T75 l0_5 x8_5).f2.f0)) ∧ w'.cell? ⟨gb336, 3, none⟩ = some (.int .i64 ((rd_T75 l0_5 x8_5).f2.f1)) ∧ w'.cell? ⟨gb316, 0, none⟩ = some (.int .i64 a0_0) ∧ w'.cell? ⟨gb316, 1, none⟩ = some (.slice A0_1 l0_1.length c0_1) ∧ w'.cell? ⟨gb316, 2, none⟩ = some (.slice A0_2 l0_2.length c0_2) ∧ w'.cell? ⟨gb316, 3, none⟩ = some (.int .i64 a0_3) ∧ w'.cell? ⟨gb316, 4, none⟩ = some (.slice A0_4 l0_4.length c0_4) ∧ w'.cell? ⟨gb316, 5, none⟩ = some (.slice (some ad335) l0_5.length c0_5) ∧ w'.cell? (ad335.add (((ji288)).toNat * 4)) = some (.int .i64 ((rd_T75 l0_5 (ji288)).f0)) ∧ w'.cell? ⟨(ad335.add (((ji288)).toNat * 4)).block, (ad335.add (((ji288)).toNat * 4)).off + 1, none⟩ = some (.int .i64 ((rd_T75 l0_5 (ji288)).f1)) ∧ w'.cell? ⟨(ad335.add (((ji288)).toNat * 4)).block, (ad335.add (((ji288)).toNat * 4)).off + 2, none⟩ = some (.int .i64 ((rd_T75 l0_5 (ji288)).f2.f0)) ∧ w'.cell? ⟨(ad335.add (((ji288)).toNat * 4)).block, (ad335.add (((ji288)).toNat * 4)).off + 3, none⟩ = some (.int .i64 ((rd_T75 l0_5 (ji288)).f2.f1))) (fun _ h_ => ⟨h_.1, h_.2.1, h_.2.2.1, h_.2.2.2.1, h_.2.2.2.2.1, h_.2.2.2.2.2.1, h_.2.2.2.2.2.2.1, h_.2.2.2.2.2.2.2.1, h_.2.2.2.2.2.2.2.2.1, h_.2.2.2.2.2.2.2.2.2.1⟩) (cells_4 BK336.out (cells_6 BK316.out ⟨(hxb HB hw337_0 :), (hxb HB hw337_1 :), (hxb HB hw337_2 :), (hxb HB hw337_3 :)⟩)) (h := ?_)
                clear hHeld; intro hHeld
                iterate 7 (refine pvn_ HT_ (h := ?_))
                refine pv_ HT_ 50 (some 287) (tb 60 1688849860263935) (h := ?_)
                refine pv_ HT_ 51 (some 288) (tb 60 3940649673949183) (h := ?_)
                refine pv_ HT_ 55 (some 292) (tb 60 39969446692913151) (h := ?_)
                refine tv_ HT_ HW_ hHeld 49 (some 286) (tb 60 40532396646334463) (h := ?_)
                refine pv_ HT_ 52 (some 289) (tb 60 45035996273704959) (h := ?_)
                refine pv_ HT_ 53 (some 290) (tb 60 54043195528445951) (h := ?_)
                refine tv_ HT_ HW_ hHeld 54 (some 291) (tf 56 4) (h := ?_)
                by_cases c291 : ((rd_T75 l0_5 (ji288)).f0) ≥ ((rd_T75 l0_5 x8_5).f0)
                ·rw [if_pos c291] at H
                 have c291b0 : decide (((rd_T75 l0_5 x8_5).f0) ≤ ((rd_T75 l0_5 (ji288)).f0)) = true := decide_eq_true c291
                 clear c291
                 obtain rfl := Option.some.inj H
                 refine tvn_ HT_ HW_ hHeld (h := ?_)
                 iterate 3 (refine pvn_ HT_ (h := ?_))
                 refine done_ (done_of HT_.out (by kernel_rfl)) ?_
                 try go_wp2
                 go_ret
                 exact ⟨by first | rfl | (simp [errW_none, errW_some] <;> rfl) | (simp only [← hji288]; first | rfl | (simp [errW_none, errW_some] <;> rfl)) | (simp [*, errW_none, errW_some] <;> rfl), bel⟩
                rw [if_neg c291] at H
                have c291b0 : decide (((rd_T75 l0_5 x8_5).f0) ≤ ((rd_T75 l0_5 (ji288)).f0)) = false := decide_eq_false c291
                clear c291
                have H' := Aside0.mk H
                clear H
                refine tvn_ HT_ HW_ hHeld (h := ?_)
                iterate 3 (refine pvn_ HT_ (h := ?_))
                refine done_ (done_of HT_.out (by kernel_rfl)) ?_
                try go_wp2
                go_roundg k5
                case measure => have := HJ1.out; have := HK2.out; have := HK3.out; have := HK4.out; have := HK5.out; omega
                case rel => exact ⟨(wrap64 (x8_5 + 1)), rs_, H', ⟨by have := HJ1.out; have := HK2.out; have := HK3.out; have := HK4.out; have := HK5.out; omega⟩, ⟨bkp BK316⟩, ⟨bel⟩⟩
               rw [if_neg c290] at H
               exact absurd H (by simp)
              rw [if_neg c289] at H
              exact absurd H (by simp)
             rw [if_neg c287] at H
             have c287b0 : decide (0 < x8_5) = false := decide_eq_false c287
             clear c287
             have H' := Aside0.mk H
             clear H
             iterate 6 (refine pvn_ HT_ (h := ?_))
             refine puns_ HT_ 10 [some _, some _, some _, some _, some _, some _, some _, some _, some _, some _] (h := ?_)
             iterate 2 (refine pvn_ HT_ (h := ?_))
             refine done_ (done_of HT_.out (by kernel_rfl)) ?_
             try go_wp2
             go_roundg k5
             case measure => have := HJ1.out; have := HK2.out; have := HK3.out; have := HK4.out; have := HK5.out; omega
             case rel => exact ⟨(wrap64 (x8_5 + 1)), rs_, H', ⟨by have := HJ1.out; have := HK2.out; have := HK3.out; have := HK4.out; have := HK5.out; omega⟩, ⟨bkp BK316⟩, ⟨bel⟩⟩
            rw [if_neg c230] at H
            exact absurd H (by simp)
           rw [if_neg c229] at H
           have c229b0 : decide (x8_5 < (l0_5.length : Int)) = false := decide_eq_false c229
           clear c229
           as_aux_lemma =>
            obtain rfl := Option.some.inj H
            obtain ⟨C310_0, C310_1, C310_2, C310_3, C310_4, C310_5, -⟩ := cells_6 BK316.out trivial
            obtain ⟨F310_0, F310_1, F310_2, F310_3, F310_4, F310_5, -⟩ := frz_6 BK316.out
            go_wp2
            go_ret
            exact ⟨rz_, bel⟩

end Go.Proofs.Ytdgegnakiljfjaa.PT
