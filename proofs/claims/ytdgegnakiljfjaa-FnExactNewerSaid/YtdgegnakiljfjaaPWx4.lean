-- Written for this claim by the session's program pp.py, out of the kit's print and the seat's translation.
import Derived.Test.YtdgegnakiljfjaaPWx0
import Derived.Test.YtdgegnakiljfjaaPWx1
import Derived.Test.YtdgegnakiljfjaaPWx2
import Derived.Test.YtdgegnakiljfjaaPWx3
namespace Go.Proofs.Ytdgegnakiljfjaa.PW
open Go.RowKit Go.Proofs.YtdgegnakiljfjaaW.PrintWords Go.Proofs.YtdgegnakiljfjaaW.PrintLast Go.Proofs.YtdgegnakiljfjaaW.PrintMore
attribute [local go_sem] max2_int min2_int max_two min_two max_three min_three max_four min_four   -- for this text's walks alone
set_option linter.unusedVariables false
set_option linter.unusedSimpArgs false

/-! ### spec_NodeOk: function 94 -/
mutual
def spec_NodeOk.j0 : Nat → Int → Bool → Int → Int → Int → List (S147) → Int → Int → Int → Int → List Bool → List Int → List Int → Option (Bool)
 | 0, _, _, _, _, _, _, _, _, _, _, _, _, _ => none
 | k + 1, x1, x100, x129000, x129001, x129002, x129003, x129004, x129005, x129006, x129007, x129008, x129009, x129010 => if x100 = true then (some false) else (spec_NodeOk.l0 k x1 0 x129000 x129001 x129002 x129003 x129004 x129005 x129006 x129007 x129008 x129009 x129010)
def spec_NodeOk.l0 : Nat → Int → Int → Int → Int → Int → List (S147) → Int → Int → Int → Int → List Bool → List Int → List Int → Option (Bool)
 | 0, _, _, _, _, _, _, _, _, _, _, _, _, _ => none
 | k + 1, x1, x5, x129000, x129001, x129002, x129003, x129004, x129005, x129006, x129007, x129008, x129009, x129010 => if x5 < (x129003.length : Int) then (if 0 ≤ x5 then ((spec_ItemOk.f k ((rd_T147 x129003 x5).f0) ((rd_T147 x129003 x5).f1.f0) ((rd_T147 x129003 x5).f1.f1) ((rd_T147 x129003 x5).f1.f2.f0) ((rd_T147 x129003 x5).f1.f2.f1) ((rd_T147 x129003 x5).f1.f2.f2) ((rd_T147 x129003 x5).f1.f2.f3)).bind fun t134 => (if t134 = true then (if ((rd_T147 x129003 x5).f0) > x129001 then (some false) else (if x5 > 0 then (if 0 ≤ (wrap64 (x5 - 1)) then (if (wrap64 (x5 - 1)) < (x129003.length : Int) then (if ((rd_T147 x129003 (wrap64 (x5 - 1))).f0) > ((rd_T147 x129003 x5).f0) then (some false) else (spec_NodeOk.l0 k x1 (wrap64 (x5 + 1)) x129000 x129001 x129002 x129003 x129004 x129005 x129006 x129007 x129008 x129009 x129010)) else (none)) else (none)) else (spec_NodeOk.l0 k x1 (wrap64 (x5 + 1)) x129000 x129001 x129002 x129003 x129004 x129005 x129006 x129007 x129008 x129009 x129010))) else (some false))) else (none)) else (if x129005 = 0 then (spec_NodeOk.j2 k x1 false x129000 x129001 x129002 x129003 x129004 x129005 x129006 x129007 x129008 x129009 x129010) else (if x129001 < 1 then (spec_NodeOk.j2 k x1 true x129000 x129001 x129002 x129003 x129004 x129005 x129006 x129007 x129008 x129009 x129010) else (spec_NodeOk.j2 k x1 (x129002 != x129000) x129000 x129001 x129002 x129003 x129004 x129005 x129006 x129007 x129008 x129009 x129010)))
def spec_NodeOk.j2 : Nat → Int → Bool → Int → Int → Int → List (S147) → Int → Int → Int → Int → List Bool → List Int → List Int → Option (Bool)
 | 0, _, _, _, _, _, _, _, _, _, _, _, _, _ => none
 | k + 1, x1, x160, x129000, x129001, x129002, x129003, x129004, x129005, x129006, x129007, x129008, x129009, x129010 => if x160 = true then (some false) else (spec_NodeOk.l1 k x1 0 x129000 x129001 x129002 x129003 x129004 x129005 x129006 x129007 x129008 x129009 x129010)
def spec_NodeOk.l1 : Nat → Int → Int → Int → Int → Int → List (S147) → Int → Int → Int → Int → List Bool → List Int → List Int → Option (Bool)
 | 0, _, _, _, _, _, _, _, _, _, _, _, _, _ => none
 | k + 1, x1, x6, x129000, x129001, x129002, x129003, x129004, x129005, x129006, x129007, x129008, x129009, x129010 => if x6 < x1 then (if x129005 = 2 then (if 0 ≤ x6 then (if x6 < (x129009.length : Int) then (if (rd x129009 x6) < 1 then (spec_NodeOk.j4 k x1 x6 true x129000 x129001 x129002 x129003 x129004 x129005 x129006 x129007 x129008 x129009 x129010) else (if (rd x129009 x6) > (wrap64 ((x129003.length : Int) + 1)) then (spec_NodeOk.j4 k x1 x6 true x129000 x129001 x129002 x129003 x129004 x129005 x129006 x129007 x129008 x129009 x129010) else (if x6 < (x129010.length : Int) then (if (rd x129010 x6) < 0 then (spec_NodeOk.j4 k x1 x6 true x129000 x129001 x129002 x129003 x129004 x129005 x129006 x129007 x129008 x129009 x129010) else (spec_NodeOk.j4 k x1 x6 (decide ((rd x129010 x6) > (x129003.length : Int))) x129000 x129001 x129002 x129003 x129004 x129005 x129006 x129007 x129008 x129009 x129010)) else (none)))) else (none)) else (none)) else (spec_NodeOk.j4 k x1 x6 false x129000 x129001 x129002 x129003 x129004 x129005 x129006 x129007 x129008 x129009 x129010)) else (if x129005 = 2 then (some (x129006 == x129000)) else (some true))
def spec_NodeOk.j4 : Nat → Int → Int → Bool → Int → Int → Int → List (S147) → Int → Int → Int → Int → List Bool → List Int → List Int → Option (Bool)
 | 0, _, _, _, _, _, _, _, _, _, _, _, _, _, _ => none
 | k + 1, x1, x6, x207, x129000, x129001, x129002, x129003, x129004, x129005, x129006, x129007, x129008, x129009, x129010 => if x207 = true then (some false) else (if x129005 = 2 then (spec_NodeOk.j5 k x1 x6 false x129000 x129001 x129002 x129003 x129004 x129005 x129006 x129007 x129008 x129009 x129010) else (if 0 ≤ x6 then (if x6 < (x129009.length : Int) then (if (rd x129009 x6) = 0 then (if x6 < (x129010.length : Int) then (spec_NodeOk.j5 k x1 x6 ((rd x129010 x6) != 0) x129000 x129001 x129002 x129003 x129004 x129005 x129006 x129007 x129008 x129009 x129010) else (none)) else (spec_NodeOk.j5 k x1 x6 true x129000 x129001 x129002 x129003 x129004 x129005 x129006 x129007 x129008 x129009 x129010)) else (none)) else (none)))
def spec_NodeOk.j5 : Nat → Int → Int → Bool → Int → Int → Int → List (S147) → Int → Int → Int → Int → List Bool → List Int → List Int → Option (Bool)
 | 0, _, _, _, _, _, _, _, _, _, _, _, _, _, _ => none
 | k + 1, x1, x6, x226, x129000, x129001, x129002, x129003, x129004, x129005, x129006, x129007, x129008, x129009, x129010 => if x226 = true then (some false) else (if x129005 = 0 then (if 0 ≤ x6 then (if x6 < (x129008.length : Int) then (if rdOf false x129008 x6 = true then (some false) else (spec_NodeOk.l1 k x1 (wrap64 (x6 + 1)) x129000 x129001 x129002 x129003 x129004 x129005 x129006 x129007 x129008 x129009 x129010)) else (none)) else (none)) else (spec_NodeOk.l1 k x1 (wrap64 (x6 + 1)) x129000 x129001 x129002 x129003 x129004 x129005 x129006 x129007 x129008 x129009 x129010))
end
def spec_NodeOk.f (k : Nat) (a0_0 : Int) (a0_1 : Int) (a0_2 : Int) (l0_3 : List (S147)) (a0_4 : Int) (a0_5 : Int) (a0_6 : Int) (a0_7 : Int) (l0_8 : List Bool) (l0_9 : List Int) (l0_10 : List Int) (a1 : Int) : Option (Bool) := (spec_l4servers.f a1).bind fun t129 => (if t129 = true then (if a0_0 < 0 then (spec_NodeOk.j0 k a1 true a0_0 a0_1 a0_2 l0_3 a0_4 a0_5 a0_6 a0_7 l0_8 l0_9 l0_10) else (if a0_0 ≥ a1 then (spec_NodeOk.j0 k a1 true a0_0 a0_1 a0_2 l0_3 a0_4 a0_5 a0_6 a0_7 l0_8 l0_9 l0_10) else ((spec_l3term.f a0_1).bind fun t130 => (if t130 = true then ((spec_l4who.f a0_2 a1).bind fun t131 => (if t131 = true then (if (l0_3.length : Int) > 400 then (spec_NodeOk.j0 k a1 true a0_0 a0_1 a0_2 l0_3 a0_4 a0_5 a0_6 a0_7 l0_8 l0_9 l0_10) else (if a0_4 < 0 then (spec_NodeOk.j0 k a1 true a0_0 a0_1 a0_2 l0_3 a0_4 a0_5 a0_6 a0_7 l0_8 l0_9 l0_10) else (if a0_4 > (l0_3.length : Int) then (spec_NodeOk.j0 k a1 true a0_0 a0_1 a0_2 l0_3 a0_4 a0_5 a0_6 a0_7 l0_8 l0_9 l0_10) else (if a0_5 < 0 then (spec_NodeOk.j0 k a1 true a0_0 a0_1 a0_2 l0_3 a0_4 a0_5 a0_6 a0_7 l0_8 l0_9 l0_10) else (if a0_5 > 2 then (spec_NodeOk.j0 k a1 true a0_0 a0_1 a0_2 l0_3 a0_4 a0_5 a0_6 a0_7 l0_8 l0_9 l0_10) else ((spec_l4who.f a0_6 a1).bind fun t132 => (if t132 = true then (if a0_7 < 0 then (spec_NodeOk.j0 k a1 true a0_0 a0_1 a0_2 l0_3 a0_4 a0_5 a0_6 a0_7 l0_8 l0_9 l0_10) else (if a0_7 > 20 then (spec_NodeOk.j0 k a1 true a0_0 a0_1 a0_2 l0_3 a0_4 a0_5 a0_6 a0_7 l0_8 l0_9 l0_10) else (if (l0_8.length : Int) = a1 then (if (l0_9.length : Int) = a1 then (spec_NodeOk.j0 k a1 ((l0_10.length : Int) != a1) a0_0 a0_1 a0_2 l0_3 a0_4 a0_5 a0_6 a0_7 l0_8 l0_9 l0_10) else (spec_NodeOk.j0 k a1 true a0_0 a0_1 a0_2 l0_3 a0_4 a0_5 a0_6 a0_7 l0_8 l0_9 l0_10)) else (spec_NodeOk.j0 k a1 true a0_0 a0_1 a0_2 l0_3 a0_4 a0_5 a0_6 a0_7 l0_8 l0_9 l0_10)))) else (spec_NodeOk.j0 k a1 true a0_0 a0_1 a0_2 l0_3 a0_4 a0_5 a0_6 a0_7 l0_8 l0_9 l0_10)))))))) else (spec_NodeOk.j0 k a1 true a0_0 a0_1 a0_2 l0_3 a0_4 a0_5 a0_6 a0_7 l0_8 l0_9 l0_10))) else (spec_NodeOk.j0 k a1 true a0_0 a0_1 a0_2 l0_3 a0_4 a0_5 a0_6 a0_7 l0_8 l0_9 l0_10))))) else (spec_NodeOk.j0 k a1 true a0_0 a0_1 a0_2 l0_3 a0_4 a0_5 a0_6 a0_7 l0_8 l0_9 l0_10))
def spec_NodeOk.T6 : Bool × List (List Nat × List Nat) := (true, [([], []), ([0], [0]), ([], []), ([1, 2], [1, 2]), ([3], [3]), ([4], [4]), ([5], [5]), ([6, 5], [6]), ([7], [7]), ([8, 7], [7, 8]), ([7], [7]), ([9, 10, 7], [7, 9, 10]), ([11, 7], [7, 11]), ([12, 7], [7, 12]), ([7], [7]), ([14, 7], [7, 14]), ([13, 15, 7], [7, 13, 15]), ([7, 16], [7, 16]), ([17, 7], [17]), ([18], [18]), ([19, 18], [18, 19]), ([20, 18, 18], [18, 20]), ([21], [21]), ([22, 21], [21, 22]), ([21], [21]), ([24, 21], [21, 24]), ([23, 25, 21], [21, 23, 25]), ([26, 21], [21, 26]), ([27, 21], [21, 27]), ([21], [21]), ([29, 21], [21, 29]), ([21], [21]), ([30, 31, 21], [21, 30, 31]), ([32, 21], [21, 32]), ([33, 21], [21, 33]), ([28, 34, 21], [21, 28, 34]), ([21, 35, 18], [18, 21, 35]), ([18, 36], [18, 36])])
def spec_NodeOk.B6 : List Nat := [0, 1, 0, 7, 15, 31, 63, 127, 255, 511, 255, 2047, 4095, 8191, 255, 16639, 65535, 131071, 262143, 524287, 1048575, 2097151, 4194303, 8388607, 4194303, 20971519, 67108863, 134217727, 268435455, 4194303, 541065215, 4194303, 3762290687, 8057257983, 16647192575, 34359738367, 68719476735, 137438953471]
theorem spec_NodeOk.tab6 : rtab .any (opsOf Try.f94 6) = spec_NodeOk.T6 := by kernel_rfl
theorem spec_NodeOk.bits6 : waitsOk spec_NodeOk.T6.2 spec_NodeOk.B6 = true := by kernel_rfl
def spec_NodeOk.T13 : Bool × List (List Nat × List Nat) := (true, [([], []), ([0], [0]), ([1], [1]), ([2], [2]), ([3], [3]), ([4, 3], [3, 4]), ([3], [3]), ([5, 6, 3], [3, 5, 6]), ([7, 3], [3, 7]), ([8, 3], [3, 8]), ([9, 3, 3], [3, 9]), ([10], [10]), ([11, 10], [10, 11]), ([10], [10]), ([12, 13, 10], [10, 12, 13]), ([14, 10], [10, 14]), ([10], [10]), ([16, 10], [10, 16]), ([17, 10], [10, 17]), ([18, 10], [10, 18]), ([15, 19, 10], [10, 15, 19]), ([10, 20, 3], [3, 10, 20]), ([21, 10, 3], [3, 21]), ([22], [22]), ([23, 22], [22, 23]), ([22], [22]), ([24, 25, 22], [22, 24, 25]), ([26, 22], [22, 26]), ([27, 22], [22, 27]), ([22, 28, 3], [3, 22, 28]), ([29, 22, 3], [3, 29]), ([30], [30]), ([31, 30], [30, 31]), ([30], [30]), ([32, 33, 30], [30, 32, 33]), ([34, 30], [30, 34]), ([30], [30]), ([36, 30], [30, 36]), ([37, 30], [30, 37]), ([35, 38, 30], [30, 35, 38]), ([30, 39, 3], [3, 30, 39]), ([3, 40], [3, 40])])
def spec_NodeOk.B13 : List Nat := [0, 1, 3, 7, 15, 31, 15, 127, 255, 511, 1023, 2047, 4095, 2047, 16383, 32767, 2047, 67583, 198655, 460799, 1048575, 2097151, 4194303, 8388607, 16777215, 8388607, 67108863, 134217727, 268435455, 536870911, 1073741823, 2147483647, 4294967295, 2147483647, 17179869183, 34359738367, 2147483647, 70866960383, 208305913855, 549755813887, 1099511627775, 2199023255551]
theorem spec_NodeOk.tab13 : rtab .any (opsOf Try.f94 13) = spec_NodeOk.T13 := by kernel_rfl
theorem spec_NodeOk.bits13 : waitsOk spec_NodeOk.T13.2 spec_NodeOk.B13 = true := by kernel_rfl
set_option maxHeartbeats 200000000 in
set_option maxRecDepth 100000 in
theorem spec_NodeOk.calls (k : Nat) (a0_0 : Int) (a0_1 : Int) (a0_2 : Int) (A0_3 : Option Addr) (c0_3 : Nat) (l0_3 : List (S147)) (a0_4 : Int) (a0_5 : Int) (a0_6 : Int) (a0_7 : Int) (A0_8 : Option Addr) (c0_8 : Nat) (l0_8 : List Bool) (A0_9 : Option Addr) (c0_9 : Nat) (l0_9 : List Int) (A0_10 : Option Addr) (c0_10 : Nat) (l0_10 : List Int) (a1 : Int) (r : Bool) (w : World) (hr0_3 : Kd.C k147 w A0_3 l0_3.length l0_3) (hc0_3 : l0_3.length ≤ c0_3) (hr0_8 : Kd.C Kd.bool w A0_8 l0_8.length l0_8) (hc0_8 : l0_8.length ≤ c0_8) (hr0_9 : Kd.C (Kd.int .i64) w A0_9 l0_9.length l0_9) (hc0_9 : l0_9.length ≤ c0_9) (hr0_10 : Kd.C (Kd.int .i64) w A0_10 l0_10.length l0_10) (hc0_10 : l0_10.length ≤ c0_10) (h : spec_NodeOk.f k a0_0 a0_1 a0_2 l0_3 a0_4 a0_5 a0_6 a0_7 l0_8 l0_9 l0_10 a1 = some r) :
  Calls Try.prog 94 #[.agg #[.int .i64 a0_0, .int .i64 a0_1, .int .i64 a0_2, .slice A0_3 l0_3.length c0_3, .int .i64 a0_4, .int .i64 a0_5, .int .i64 a0_6, .int .i64 a0_7, .slice A0_8 l0_8.length c0_8, .slice A0_9 l0_9.length c0_9, .slice A0_10 l0_10.length c0_10], .int .i64 a1] w fun e w' => e = .returned (.bool r) ∧ Below w.heap.size w w' := by
 have hu48 := Try.underlying48
 have hu147 := Try.underlying147
 have HR0_3 := Aside0.mk hr0_3
 have HC0_3 := Aside0.mk hc0_3
 clear hr0_3 hc0_3
 have HR0_8 := Aside0.mk hr0_8
 have HC0_8 := Aside0.mk hc0_8
 clear hr0_8 hc0_8
 have HR0_9 := Aside0.mk hr0_9
 have HC0_9 := Aside0.mk hc0_9
 clear hr0_9 hc0_9
 have HR0_10 := Aside0.mk hr0_10
 have HC0_10 := Aside0.mk hc0_10
 clear hr0_10 hc0_10
 have HB := Aside0.mk (Below.refl w.heap.size w)
 have H : ((spec_l4servers.f a1).bind fun t129 => (if t129 = true then (if a0_0 < 0 then (spec_NodeOk.j0 k a1 true a0_0 a0_1 a0_2 l0_3 a0_4 a0_5 a0_6 a0_7 l0_8 l0_9 l0_10) else (if a0_0 ≥ a1 then (spec_NodeOk.j0 k a1 true a0_0 a0_1 a0_2 l0_3 a0_4 a0_5 a0_6 a0_7 l0_8 l0_9 l0_10) else ((spec_l3term.f a0_1).bind fun t130 => (if t130 = true then ((spec_l4who.f a0_2 a1).bind fun t131 => (if t131 = true then (if (l0_3.length : Int) > 400 then (spec_NodeOk.j0 k a1 true a0_0 a0_1 a0_2 l0_3 a0_4 a0_5 a0_6 a0_7 l0_8 l0_9 l0_10) else (if a0_4 < 0 then (spec_NodeOk.j0 k a1 true a0_0 a0_1 a0_2 l0_3 a0_4 a0_5 a0_6 a0_7 l0_8 l0_9 l0_10) else (if a0_4 > (l0_3.length : Int) then (spec_NodeOk.j0 k a1 true a0_0 a0_1 a0_2 l0_3 a0_4 a0_5 a0_6 a0_7 l0_8 l0_9 l0_10) else (if a0_5 < 0 then (spec_NodeOk.j0 k a1 true a0_0 a0_1 a0_2 l0_3 a0_4 a0_5 a0_6 a0_7 l0_8 l0_9 l0_10) else (if a0_5 > 2 then (spec_NodeOk.j0 k a1 true a0_0 a0_1 a0_2 l0_3 a0_4 a0_5 a0_6 a0_7 l0_8 l0_9 l0_10) else ((spec_l4who.f a0_6 a1).bind fun t132 => (if t132 = true then (if a0_7 < 0 then (spec_NodeOk.j0 k a1 true a0_0 a0_1 a0_2 l0_3 a0_4 a0_5 a0_6 a0_7 l0_8 l0_9 l0_10) else (if a0_7 > 20 then (spec_NodeOk.j0 k a1 true a0_0 a0_1 a0_2 l0_3 a0_4 a0_5 a0_6 a0_7 l0_8 l0_9 l0_10) else (if (l0_8.length : Int) = a1 then (if (l0_9.length : Int) = a1 then (spec_NodeOk.j0 k a1 ((l0_10.length : Int) != a1) a0_0 a0_1 a0_2 l0_3 a0_4 a0_5 a0_6 a0_7 l0_8 l0_9 l0_10) else (spec_NodeOk.j0 k a1 true a0_0 a0_1 a0_2 l0_3 a0_4 a0_5 a0_6 a0_7 l0_8 l0_9 l0_10)) else (spec_NodeOk.j0 k a1 true a0_0 a0_1 a0_2 l0_3 a0_4 a0_5 a0_6 a0_7 l0_8 l0_9 l0_10)))) else (spec_NodeOk.j0 k a1 true a0_0 a0_1 a0_2 l0_3 a0_4 a0_5 a0_6 a0_7 l0_8 l0_9 l0_10)))))))) else (spec_NodeOk.j0 k a1 true a0_0 a0_1 a0_2 l0_3 a0_4 a0_5 a0_6 a0_7 l0_8 l0_9 l0_10))) else (spec_NodeOk.j0 k a1 true a0_0 a0_1 a0_2 l0_3 a0_4 a0_5 a0_6 a0_7 l0_8 l0_9 l0_10))))) else (spec_NodeOk.j0 k a1 true a0_0 a0_1 a0_2 l0_3 a0_4 a0_5 a0_6 a0_7 l0_8 l0_9 l0_10))) = some r := h
 clear h
 have HC3 := Aside0.mk H
 clear H
 go_enter Try.func94, Try.ntmps94
 go_upto_region 1 with (first | ((with_reducible refine gate_dst (N := 2) rfl ?_); (try (refine gate_guard (by rfl) ?_; dsimp only)); refine bx_ 2 #[.int .i64 a0_0, .int .i64 a0_1, .int .i64 a0_2, .slice A0_3 l0_3.length c0_3, .int .i64 a0_4, .int .i64 a0_5, .int .i64 a0_6, .int .i64 a0_7, .slice A0_8 l0_8.length c0_8, .slice A0_9 l0_9.length c0_9, .slice A0_10 l0_10.length c0_10] 48 (h := ?_); intro gb128 hg w4 hbox hb; have BK128 := Aside0.mk (hbox); have GW128 := Aside0.mk ((by rw [hg]; exact (below_size bel) : w.heap.size ≤ gb128)); have GE128 := Aside0.mk ((by rw [hg]; exact (below_size bel) : w.heap.size ≤ gb128)); replace HB := Aside0.mk (below_step bel hb); clear hb hbox hg))
 (try simp only [Act.put, List.setIfInBounds_toArray, List.set_cons_zero, List.set_cons_succ])
 go_cut [100] (fun v100 wc => ∃ (kq : Nat) (x100_2 : Bool), v100 = .bool x100_2 ∧ Aside0 (spec_NodeOk.j0 kq a1 x100_2 a0_0 a0_1 a0_2 l0_3 a0_4 a0_5 a0_6 a0_7 l0_8 l0_9 l0_10 = some r) ∧ Aside0 (kq ≤ k) ∧ Aside0 (wc.heap[gb128]? = some (.cells #[.int .i64 a0_0, .int .i64 a0_1, .int .i64 a0_2, (.slice A0_3 l0_3.length c0_3), .int .i64 a0_4, .int .i64 a0_5, .int .i64 a0_6, .int .i64 a0_7, (.slice A0_8 l0_8.length c0_8), (.slice A0_9 l0_9.length c0_9), (.slice A0_10 l0_10.length c0_10)] 48 (0, 0))) ∧ Aside0 (Below w.heap.size w wc))
 case first => as_aux_lemma =>
  have H := HC3.out
  clear HC3
  replace H := Option.bind_eq_some_iff.mp H
  obtain ⟨t129, A50, H⟩ := H
  replace H : (if t129 = true then (if a0_0 < 0 then (spec_NodeOk.j0 k a1 true a0_0 a0_1 a0_2 l0_3 a0_4 a0_5 a0_6 a0_7 l0_8 l0_9 l0_10) else (if a0_0 ≥ a1 then (spec_NodeOk.j0 k a1 true a0_0 a0_1 a0_2 l0_3 a0_4 a0_5 a0_6 a0_7 l0_8 l0_9 l0_10) else ((spec_l3term.f a0_1).bind fun t130 => (if t130 = true then ((spec_l4who.f a0_2 a1).bind fun t131 => (if t131 = true then (if (l0_3.length : Int) > 400 then (spec_NodeOk.j0 k a1 true a0_0 a0_1 a0_2 l0_3 a0_4 a0_5 a0_6 a0_7 l0_8 l0_9 l0_10) else (if a0_4 < 0 then (spec_NodeOk.j0 k a1 true a0_0 a0_1 a0_2 l0_3 a0_4 a0_5 a0_6 a0_7 l0_8 l0_9 l0_10) else (if a0_4 > (l0_3.length : Int) then (spec_NodeOk.j0 k a1 true a0_0 a0_1 a0_2 l0_3 a0_4 a0_5 a0_6 a0_7 l0_8 l0_9 l0_10) else (if a0_5 < 0 then (spec_NodeOk.j0 k a1 true a0_0 a0_1 a0_2 l0_3 a0_4 a0_5 a0_6 a0_7 l0_8 l0_9 l0_10) else (if a0_5 > 2 then (spec_NodeOk.j0 k a1 true a0_0 a0_1 a0_2 l0_3 a0_4 a0_5 a0_6 a0_7 l0_8 l0_9 l0_10) else ((spec_l4who.f a0_6 a1).bind fun t132 => (if t132 = true then (if a0_7 < 0 then (spec_NodeOk.j0 k a1 true a0_0 a0_1 a0_2 l0_3 a0_4 a0_5 a0_6 a0_7 l0_8 l0_9 l0_10) else (if a0_7 > 20 then (spec_NodeOk.j0 k a1 true a0_0 a0_1 a0_2 l0_3 a0_4 a0_5 a0_6 a0_7 l0_8 l0_9 l0_10) else (if (l0_8.length : Int) = a1 then (if (l0_9.length : Int) = a1 then (spec_NodeOk.j0 k a1 ((l0_10.length : Int) != a1) a0_0 a0_1 a0_2 l0_3 a0_4 a0_5 a0_6 a0_7 l0_8 l0_9 l0_10) else (spec_NodeOk.j0 k a1 true a0_0 a0_1 a0_2 l0_3 a0_4 a0_5 a0_6 a0_7 l0_8 l0_9 l0_10)) else (spec_NodeOk.j0 k a1 true a0_0 a0_1 a0_2 l0_3 a0_4 a0_5 a0_6 a0_7 l0_8 l0_9 l0_10)))) else (spec_NodeOk.j0 k a1 true a0_0 a0_1 a0_2 l0_3 a0_4 a0_5 a0_6 a0_7 l0_8 l0_9 l0_10)))))))) else (spec_NodeOk.j0 k a1 true a0_0 a0_1 a0_2 l0_3 a0_4 a0_5 a0_6 a0_7 l0_8 l0_9 l0_10))) else (spec_NodeOk.j0 k a1 true a0_0 a0_1 a0_2 l0_3 a0_4 a0_5 a0_6 a0_7 l0_8 l0_9 l0_10))))) else (spec_NodeOk.j0 k a1 true a0_0 a0_1 a0_2 l0_3 a0_4 a0_5 a0_6 a0_7 l0_8 l0_9 l0_10)) = some r := H
  have A5 := Aside0.mk A50
  clear A50
  by_cases c6 : t129 = true
  ·subst c6
   have H1 : (if a0_0 < 0 then (spec_NodeOk.j0 k a1 true a0_0 a0_1 a0_2 l0_3 a0_4 a0_5 a0_6 a0_7 l0_8 l0_9 l0_10) else (if a0_0 ≥ a1 then (spec_NodeOk.j0 k a1 true a0_0 a0_1 a0_2 l0_3 a0_4 a0_5 a0_6 a0_7 l0_8 l0_9 l0_10) else ((spec_l3term.f a0_1).bind fun t130 => (if t130 = true then ((spec_l4who.f a0_2 a1).bind fun t131 => (if t131 = true then (if (l0_3.length : Int) > 400 then (spec_NodeOk.j0 k a1 true a0_0 a0_1 a0_2 l0_3 a0_4 a0_5 a0_6 a0_7 l0_8 l0_9 l0_10) else (if a0_4 < 0 then (spec_NodeOk.j0 k a1 true a0_0 a0_1 a0_2 l0_3 a0_4 a0_5 a0_6 a0_7 l0_8 l0_9 l0_10) else (if a0_4 > (l0_3.length : Int) then (spec_NodeOk.j0 k a1 true a0_0 a0_1 a0_2 l0_3 a0_4 a0_5 a0_6 a0_7 l0_8 l0_9 l0_10) else (if a0_5 < 0 then (spec_NodeOk.j0 k a1 true a0_0 a0_1 a0_2 l0_3 a0_4 a0_5 a0_6 a0_7 l0_8 l0_9 l0_10) else (if a0_5 > 2 then (spec_NodeOk.j0 k a1 true a0_0 a0_1 a0_2 l0_3 a0_4 a0_5 a0_6 a0_7 l0_8 l0_9 l0_10) else ((spec_l4who.f a0_6 a1).bind fun t132 => (if t132 = true then (if a0_7 < 0 then (spec_NodeOk.j0 k a1 true a0_0 a0_1 a0_2 l0_3 a0_4 a0_5 a0_6 a0_7 l0_8 l0_9 l0_10) else (if a0_7 > 20 then (spec_NodeOk.j0 k a1 true a0_0 a0_1 a0_2 l0_3 a0_4 a0_5 a0_6 a0_7 l0_8 l0_9 l0_10) else (if (l0_8.length : Int) = a1 then (if (l0_9.length : Int) = a1 then (spec_NodeOk.j0 k a1 ((l0_10.length : Int) != a1) a0_0 a0_1 a0_2 l0_3 a0_4 a0_5 a0_6 a0_7 l0_8 l0_9 l0_10) else (spec_NodeOk.j0 k a1 true a0_0 a0_1 a0_2 l0_3 a0_4 a0_5 a0_6 a0_7 l0_8 l0_9 l0_10)) else (spec_NodeOk.j0 k a1 true a0_0 a0_1 a0_2 l0_3 a0_4 a0_5 a0_6 a0_7 l0_8 l0_9 l0_10)))) else (spec_NodeOk.j0 k a1 true a0_0 a0_1 a0_2 l0_3 a0_4 a0_5 a0_6 a0_7 l0_8 l0_9 l0_10)))))))) else (spec_NodeOk.j0 k a1 true a0_0 a0_1 a0_2 l0_3 a0_4 a0_5 a0_6 a0_7 l0_8 l0_9 l0_10))) else (spec_NodeOk.j0 k a1 true a0_0 a0_1 a0_2 l0_3 a0_4 a0_5 a0_6 a0_7 l0_8 l0_9 l0_10))))) = some r := by rw [if_pos rfl] at H; exact H
   clear H
   have H := H1
   clear H1
   by_cases c7 : a0_0 < 0
   ·rw [if_pos c7] at H
    have c7b0 : decide (a0_0 < 0) = true := decide_eq_true c7
    clear c7
    (first | rw [c7b0] | (simp only [i64_w, i32_w]; rw [c7b0]) | skip)
    as_aux_lemma =>
     have H' := Aside0.mk H
     clear H
     go_wp2_with (first | ((first | ((with_reducible refine gate_callee (f := 159) rfl ?_); refine gl_ (some 8) Try.func159 #[.int .i64 a1] (h := ?_); (with_reducible refine (spec_l4servers.calls a1 true _ A5.out).mono ?_); rintro e w' ⟨rfl, ⟨nd, rfl⟩⟩; refine ⟨_, rfl, ?_⟩) | (go_at_call 159; (with_reducible refine (spec_l4servers.calls a1 true _ A5.out).mono ?_); rintro e w' ⟨rfl, ⟨nd, rfl⟩⟩)); obtain ⟨hcz8_0, hcz8_1, hcz8_2, hcz8_3, hcz8_4, hcz8_5, hcz8_6, hcz8_7, hcz8_8, hcz8_9, hcz8_10, -⟩ := cells_11 BK128.out trivial; obtain ⟨hfz8_0, hfz8_1, hfz8_2, hfz8_3, hfz8_4, hfz8_5, hfz8_6, hfz8_7, hfz8_8, hfz8_9, hfz8_10, -⟩ := frz_11 BK128.out))
     go_meet
     case rel => exact ⟨_, (true), (by first | rfl | (simp; done) | (simp [*]; done)), H', ⟨by first | omega | exact Nat.le_refl _⟩, ⟨by (with_reducible repeat (first | refine blk_drewN ?_ _ | refine blk_drew ?_ | refine blk_alloc ?_ _)); exact BK128.out⟩, ⟨by repeat (first | (with_reducible first | exact HB.out | apply below_alloc | apply pw_below_drewN | apply below_drew1 | refine below_set ?_ GE128.out) | exact HB.out)⟩⟩
   ·rw [if_neg c7] at H
    have c7b0 : decide (a0_0 < 0) = false := decide_eq_false c7
    clear c7
    (first | rw [c7b0] | (simp only [i64_w, i32_w]; rw [c7b0]) | skip)
    by_cases c9 : a0_0 ≥ a1
    ·rw [if_pos c9] at H
     have c9b0 : decide (a1 ≤ a0_0) = true := decide_eq_true c9
     clear c9
     as_aux_lemma =>
      have H' := Aside0.mk H
      clear H
      go_wp2_with (first | ((first | ((with_reducible refine gate_callee (f := 159) rfl ?_); refine gl_ (some 8) Try.func159 #[.int .i64 a1] (h := ?_); (with_reducible refine (spec_l4servers.calls a1 true _ A5.out).mono ?_); rintro e w' ⟨rfl, ⟨nd, rfl⟩⟩; refine ⟨_, rfl, ?_⟩) | (go_at_call 159; (with_reducible refine (spec_l4servers.calls a1 true _ A5.out).mono ?_); rintro e w' ⟨rfl, ⟨nd, rfl⟩⟩)); obtain ⟨hcz10_0, hcz10_1, hcz10_2, hcz10_3, hcz10_4, hcz10_5, hcz10_6, hcz10_7, hcz10_8, hcz10_9, hcz10_10, -⟩ := cells_11 BK128.out trivial; obtain ⟨hfz10_0, hfz10_1, hfz10_2, hfz10_3, hfz10_4, hfz10_5, hfz10_6, hfz10_7, hfz10_8, hfz10_9, hfz10_10, -⟩ := frz_11 BK128.out))
      go_meet
      case rel => exact ⟨_, (true), (by first | rfl | (simp; done) | (simp [*]; done)), H', ⟨by first | omega | exact Nat.le_refl _⟩, ⟨by (with_reducible repeat (first | refine blk_drewN ?_ _ | refine blk_drew ?_ | refine blk_alloc ?_ _)); exact BK128.out⟩, ⟨by repeat (first | (with_reducible first | exact HB.out | apply below_alloc | apply pw_below_drewN | apply below_drew1 | refine below_set ?_ GE128.out) | exact HB.out)⟩⟩
    ·rw [if_neg c9] at H
     have c9b0 : decide (a1 ≤ a0_0) = false := decide_eq_false c9
     clear c9
     replace H := Option.bind_eq_some_iff.mp H
     obtain ⟨t130, A110, H⟩ := H
     replace H : (if t130 = true then ((spec_l4who.f a0_2 a1).bind fun t131 => (if t131 = true then (if (l0_3.length : Int) > 400 then (spec_NodeOk.j0 k a1 true a0_0 a0_1 a0_2 l0_3 a0_4 a0_5 a0_6 a0_7 l0_8 l0_9 l0_10) else (if a0_4 < 0 then (spec_NodeOk.j0 k a1 true a0_0 a0_1 a0_2 l0_3 a0_4 a0_5 a0_6 a0_7 l0_8 l0_9 l0_10) else (if a0_4 > (l0_3.length : Int) then (spec_NodeOk.j0 k a1 true a0_0 a0_1 a0_2 l0_3 a0_4 a0_5 a0_6 a0_7 l0_8 l0_9 l0_10) else (if a0_5 < 0 then (spec_NodeOk.j0 k a1 true a0_0 a0_1 a0_2 l0_3 a0_4 a0_5 a0_6 a0_7 l0_8 l0_9 l0_10) else (if a0_5 > 2 then (spec_NodeOk.j0 k a1 true a0_0 a0_1 a0_2 l0_3 a0_4 a0_5 a0_6 a0_7 l0_8 l0_9 l0_10) else ((spec_l4who.f a0_6 a1).bind fun t132 => (if t132 = true then (if a0_7 < 0 then (spec_NodeOk.j0 k a1 true a0_0 a0_1 a0_2 l0_3 a0_4 a0_5 a0_6 a0_7 l0_8 l0_9 l0_10) else (if a0_7 > 20 then (spec_NodeOk.j0 k a1 true a0_0 a0_1 a0_2 l0_3 a0_4 a0_5 a0_6 a0_7 l0_8 l0_9 l0_10) else (if (l0_8.length : Int) = a1 then (if (l0_9.length : Int) = a1 then (spec_NodeOk.j0 k a1 ((l0_10.length : Int) != a1) a0_0 a0_1 a0_2 l0_3 a0_4 a0_5 a0_6 a0_7 l0_8 l0_9 l0_10) else (spec_NodeOk.j0 k a1 true a0_0 a0_1 a0_2 l0_3 a0_4 a0_5 a0_6 a0_7 l0_8 l0_9 l0_10)) else (spec_NodeOk.j0 k a1 true a0_0 a0_1 a0_2 l0_3 a0_4 a0_5 a0_6 a0_7 l0_8 l0_9 l0_10)))) else (spec_NodeOk.j0 k a1 true a0_0 a0_1 a0_2 l0_3 a0_4 a0_5 a0_6 a0_7 l0_8 l0_9 l0_10)))))))) else (spec_NodeOk.j0 k a1 true a0_0 a0_1 a0_2 l0_3 a0_4 a0_5 a0_6 a0_7 l0_8 l0_9 l0_10))) else (spec_NodeOk.j0 k a1 true a0_0 a0_1 a0_2 l0_3 a0_4 a0_5 a0_6 a0_7 l0_8 l0_9 l0_10)) = some r := H
     have A11 := Aside0.mk A110
     clear A110
     by_cases c12 : t130 = true
     ·subst c12
      have H1 : ((spec_l4who.f a0_2 a1).bind fun t131 => (if t131 = true then (if (l0_3.length : Int) > 400 then (spec_NodeOk.j0 k a1 true a0_0 a0_1 a0_2 l0_3 a0_4 a0_5 a0_6 a0_7 l0_8 l0_9 l0_10) else (if a0_4 < 0 then (spec_NodeOk.j0 k a1 true a0_0 a0_1 a0_2 l0_3 a0_4 a0_5 a0_6 a0_7 l0_8 l0_9 l0_10) else (if a0_4 > (l0_3.length : Int) then (spec_NodeOk.j0 k a1 true a0_0 a0_1 a0_2 l0_3 a0_4 a0_5 a0_6 a0_7 l0_8 l0_9 l0_10) else (if a0_5 < 0 then (spec_NodeOk.j0 k a1 true a0_0 a0_1 a0_2 l0_3 a0_4 a0_5 a0_6 a0_7 l0_8 l0_9 l0_10) else (if a0_5 > 2 then (spec_NodeOk.j0 k a1 true a0_0 a0_1 a0_2 l0_3 a0_4 a0_5 a0_6 a0_7 l0_8 l0_9 l0_10) else ((spec_l4who.f a0_6 a1).bind fun t132 => (if t132 = true then (if a0_7 < 0 then (spec_NodeOk.j0 k a1 true a0_0 a0_1 a0_2 l0_3 a0_4 a0_5 a0_6 a0_7 l0_8 l0_9 l0_10) else (if a0_7 > 20 then (spec_NodeOk.j0 k a1 true a0_0 a0_1 a0_2 l0_3 a0_4 a0_5 a0_6 a0_7 l0_8 l0_9 l0_10) else (if (l0_8.length : Int) = a1 then (if (l0_9.length : Int) = a1 then (spec_NodeOk.j0 k a1 ((l0_10.length : Int) != a1) a0_0 a0_1 a0_2 l0_3 a0_4 a0_5 a0_6 a0_7 l0_8 l0_9 l0_10) else (spec_NodeOk.j0 k a1 true a0_0 a0_1 a0_2 l0_3 a0_4 a0_5 a0_6 a0_7 l0_8 l0_9 l0_10)) else (spec_NodeOk.j0 k a1 true a0_0 a0_1 a0_2 l0_3 a0_4 a0_5 a0_6 a0_7 l0_8 l0_9 l0_10)))) else (spec_NodeOk.j0 k a1 true a0_0 a0_1 a0_2 l0_3 a0_4 a0_5 a0_6 a0_7 l0_8 l0_9 l0_10)))))))) else (spec_NodeOk.j0 k a1 true a0_0 a0_1 a0_2 l0_3 a0_4 a0_5 a0_6 a0_7 l0_8 l0_9 l0_10))) = some r := by rw [if_pos rfl] at H; exact H
      clear H
      have H := H1
      clear H1
      replace H := Option.bind_eq_some_iff.mp H
      obtain ⟨t131, A130, H⟩ := H
      replace H : (if t131 = true then (if (l0_3.length : Int) > 400 then (spec_NodeOk.j0 k a1 true a0_0 a0_1 a0_2 l0_3 a0_4 a0_5 a0_6 a0_7 l0_8 l0_9 l0_10) else (if a0_4 < 0 then (spec_NodeOk.j0 k a1 true a0_0 a0_1 a0_2 l0_3 a0_4 a0_5 a0_6 a0_7 l0_8 l0_9 l0_10) else (if a0_4 > (l0_3.length : Int) then (spec_NodeOk.j0 k a1 true a0_0 a0_1 a0_2 l0_3 a0_4 a0_5 a0_6 a0_7 l0_8 l0_9 l0_10) else (if a0_5 < 0 then (spec_NodeOk.j0 k a1 true a0_0 a0_1 a0_2 l0_3 a0_4 a0_5 a0_6 a0_7 l0_8 l0_9 l0_10) else (if a0_5 > 2 then (spec_NodeOk.j0 k a1 true a0_0 a0_1 a0_2 l0_3 a0_4 a0_5 a0_6 a0_7 l0_8 l0_9 l0_10) else ((spec_l4who.f a0_6 a1).bind fun t132 => (if t132 = true then (if a0_7 < 0 then (spec_NodeOk.j0 k a1 true a0_0 a0_1 a0_2 l0_3 a0_4 a0_5 a0_6 a0_7 l0_8 l0_9 l0_10) else (if a0_7 > 20 then (spec_NodeOk.j0 k a1 true a0_0 a0_1 a0_2 l0_3 a0_4 a0_5 a0_6 a0_7 l0_8 l0_9 l0_10) else (if (l0_8.length : Int) = a1 then (if (l0_9.length : Int) = a1 then (spec_NodeOk.j0 k a1 ((l0_10.length : Int) != a1) a0_0 a0_1 a0_2 l0_3 a0_4 a0_5 a0_6 a0_7 l0_8 l0_9 l0_10) else (spec_NodeOk.j0 k a1 true a0_0 a0_1 a0_2 l0_3 a0_4 a0_5 a0_6 a0_7 l0_8 l0_9 l0_10)) else (spec_NodeOk.j0 k a1 true a0_0 a0_1 a0_2 l0_3 a0_4 a0_5 a0_6 a0_7 l0_8 l0_9 l0_10)))) else (spec_NodeOk.j0 k a1 true a0_0 a0_1 a0_2 l0_3 a0_4 a0_5 a0_6 a0_7 l0_8 l0_9 l0_10)))))))) else (spec_NodeOk.j0 k a1 true a0_0 a0_1 a0_2 l0_3 a0_4 a0_5 a0_6 a0_7 l0_8 l0_9 l0_10)) = some r := H
      have A13 := Aside0.mk A130
      clear A130
      by_cases c14 : t131 = true
      ·subst c14
       have H1 : (if (l0_3.length : Int) > 400 then (spec_NodeOk.j0 k a1 true a0_0 a0_1 a0_2 l0_3 a0_4 a0_5 a0_6 a0_7 l0_8 l0_9 l0_10) else (if a0_4 < 0 then (spec_NodeOk.j0 k a1 true a0_0 a0_1 a0_2 l0_3 a0_4 a0_5 a0_6 a0_7 l0_8 l0_9 l0_10) else (if a0_4 > (l0_3.length : Int) then (spec_NodeOk.j0 k a1 true a0_0 a0_1 a0_2 l0_3 a0_4 a0_5 a0_6 a0_7 l0_8 l0_9 l0_10) else (if a0_5 < 0 then (spec_NodeOk.j0 k a1 true a0_0 a0_1 a0_2 l0_3 a0_4 a0_5 a0_6 a0_7 l0_8 l0_9 l0_10) else (if a0_5 > 2 then (spec_NodeOk.j0 k a1 true a0_0 a0_1 a0_2 l0_3 a0_4 a0_5 a0_6 a0_7 l0_8 l0_9 l0_10) else ((spec_l4who.f a0_6 a1).bind fun t132 => (if t132 = true then (if a0_7 < 0 then (spec_NodeOk.j0 k a1 true a0_0 a0_1 a0_2 l0_3 a0_4 a0_5 a0_6 a0_7 l0_8 l0_9 l0_10) else (if a0_7 > 20 then (spec_NodeOk.j0 k a1 true a0_0 a0_1 a0_2 l0_3 a0_4 a0_5 a0_6 a0_7 l0_8 l0_9 l0_10) else (if (l0_8.length : Int) = a1 then (if (l0_9.length : Int) = a1 then (spec_NodeOk.j0 k a1 ((l0_10.length : Int) != a1) a0_0 a0_1 a0_2 l0_3 a0_4 a0_5 a0_6 a0_7 l0_8 l0_9 l0_10) else (spec_NodeOk.j0 k a1 true a0_0 a0_1 a0_2 l0_3 a0_4 a0_5 a0_6 a0_7 l0_8 l0_9 l0_10)) else (spec_NodeOk.j0 k a1 true a0_0 a0_1 a0_2 l0_3 a0_4 a0_5 a0_6 a0_7 l0_8 l0_9 l0_10)))) else (spec_NodeOk.j0 k a1 true a0_0 a0_1 a0_2 l0_3 a0_4 a0_5 a0_6 a0_7 l0_8 l0_9 l0_10)))))))) = some r := by rw [if_pos rfl] at H; exact H
       clear H
       have H := H1
       clear H1
       by_cases c15 : (l0_3.length : Int) > 400
       ·rw [if_pos c15] at H
        have c15b0 : decide (400 < (l0_3.length : Int)) = true := decide_eq_true c15
        have c15b1 : decide (400 < l0_3.length) = true := decide_eq_true (by omega)
        clear c15
        as_aux_lemma =>
         have H' := Aside0.mk H
         clear H
         go_wp2_with (first | ((first | ((with_reducible refine gate_callee (f := 159) rfl ?_); refine gl_ (some 8) Try.func159 #[.int .i64 a1] (h := ?_); (with_reducible refine (spec_l4servers.calls a1 true _ A5.out).mono ?_); rintro e w' ⟨rfl, ⟨nd, rfl⟩⟩; refine ⟨_, rfl, ?_⟩) | (go_at_call 159; (with_reducible refine (spec_l4servers.calls a1 true _ A5.out).mono ?_); rintro e w' ⟨rfl, ⟨nd, rfl⟩⟩)); obtain ⟨hcz16_0, hcz16_1, hcz16_2, hcz16_3, hcz16_4, hcz16_5, hcz16_6, hcz16_7, hcz16_8, hcz16_9, hcz16_10, -⟩ := cells_11 BK128.out trivial; obtain ⟨hfz16_0, hfz16_1, hfz16_2, hfz16_3, hfz16_4, hfz16_5, hfz16_6, hfz16_7, hfz16_8, hfz16_9, hfz16_10, -⟩ := frz_11 BK128.out) | (go_at_call 108; (with_reducible refine (spec_l3term.calls a0_1 true _ A11.out).mono ?_); rintro e w' ⟨rfl, ⟨nd, rfl⟩⟩) | (go_at_call 160; (with_reducible refine (spec_l4who.calls a0_2 a1 true _ A13.out).mono ?_); rintro e w' ⟨rfl, ⟨nd, rfl⟩⟩))
         go_meet
         case rel => exact ⟨_, (true), (by first | rfl | (simp; done) | (simp [*]; done)), H', ⟨by first | omega | exact Nat.le_refl _⟩, ⟨by (with_reducible repeat (first | refine blk_drewN ?_ _ | refine blk_drew ?_ | refine blk_alloc ?_ _)); exact BK128.out⟩, ⟨by repeat (first | (with_reducible first | exact HB.out | apply below_alloc | apply pw_below_drewN | apply below_drew1 | refine below_set ?_ GE128.out) | exact HB.out)⟩⟩
       ·rw [if_neg c15] at H
        have c15b0 : decide (400 < (l0_3.length : Int)) = false := decide_eq_false c15
        have c15b1 : decide (400 < l0_3.length) = false := decide_eq_false (by omega)
        clear c15
        by_cases c17 : a0_4 < 0
        ·rw [if_pos c17] at H
         have c17b0 : decide (a0_4 < 0) = true := decide_eq_true c17
         clear c17
         as_aux_lemma =>
          have H' := Aside0.mk H
          clear H
          go_wp2_with (first | ((first | ((with_reducible refine gate_callee (f := 159) rfl ?_); refine gl_ (some 8) Try.func159 #[.int .i64 a1] (h := ?_); (with_reducible refine (spec_l4servers.calls a1 true _ A5.out).mono ?_); rintro e w' ⟨rfl, ⟨nd, rfl⟩⟩; refine ⟨_, rfl, ?_⟩) | (go_at_call 159; (with_reducible refine (spec_l4servers.calls a1 true _ A5.out).mono ?_); rintro e w' ⟨rfl, ⟨nd, rfl⟩⟩)); obtain ⟨hcz18_0, hcz18_1, hcz18_2, hcz18_3, hcz18_4, hcz18_5, hcz18_6, hcz18_7, hcz18_8, hcz18_9, hcz18_10, -⟩ := cells_11 BK128.out trivial; obtain ⟨hfz18_0, hfz18_1, hfz18_2, hfz18_3, hfz18_4, hfz18_5, hfz18_6, hfz18_7, hfz18_8, hfz18_9, hfz18_10, -⟩ := frz_11 BK128.out) | (go_at_call 108; (with_reducible refine (spec_l3term.calls a0_1 true _ A11.out).mono ?_); rintro e w' ⟨rfl, ⟨nd, rfl⟩⟩) | (go_at_call 160; (with_reducible refine (spec_l4who.calls a0_2 a1 true _ A13.out).mono ?_); rintro e w' ⟨rfl, ⟨nd, rfl⟩⟩))
          go_meet
          case rel => exact ⟨_, (true), (by first | rfl | (simp; done) | (simp [*]; done)), H', ⟨by first | omega | exact Nat.le_refl _⟩, ⟨by (with_reducible repeat (first | refine blk_drewN ?_ _ | refine blk_drew ?_ | refine blk_alloc ?_ _)); exact BK128.out⟩, ⟨by repeat (first | (with_reducible first | exact HB.out | apply below_alloc | apply pw_below_drewN | apply below_drew1 | refine below_set ?_ GE128.out) | exact HB.out)⟩⟩
        ·rw [if_neg c17] at H
         have c17b0 : decide (a0_4 < 0) = false := decide_eq_false c17
         clear c17
         by_cases c19 : a0_4 > (l0_3.length : Int)
         ·rw [if_pos c19] at H
          have c19b0 : decide ((l0_3.length : Int) < a0_4) = true := decide_eq_true c19
          clear c19
          as_aux_lemma =>
           have H' := Aside0.mk H
           clear H
           go_wp2_with (first | ((first | ((with_reducible refine gate_callee (f := 159) rfl ?_); refine gl_ (some 8) Try.func159 #[.int .i64 a1] (h := ?_); (with_reducible refine (spec_l4servers.calls a1 true _ A5.out).mono ?_); rintro e w' ⟨rfl, ⟨nd, rfl⟩⟩; refine ⟨_, rfl, ?_⟩) | (go_at_call 159; (with_reducible refine (spec_l4servers.calls a1 true _ A5.out).mono ?_); rintro e w' ⟨rfl, ⟨nd, rfl⟩⟩)); obtain ⟨hcz20_0, hcz20_1, hcz20_2, hcz20_3, hcz20_4, hcz20_5, hcz20_6, hcz20_7, hcz20_8, hcz20_9, hcz20_10, -⟩ := cells_11 BK128.out trivial; obtain ⟨hfz20_0, hfz20_1, hfz20_2, hfz20_3, hfz20_4, hfz20_5, hfz20_6, hfz20_7, hfz20_8, hfz20_9, hfz20_10, -⟩ := frz_11 BK128.out) | (go_at_call 108; (with_reducible refine (spec_l3term.calls a0_1 true _ A11.out).mono ?_); rintro e w' ⟨rfl, ⟨nd, rfl⟩⟩) | (go_at_call 160; (with_reducible refine (spec_l4who.calls a0_2 a1 true _ A13.out).mono ?_); rintro e w' ⟨rfl, ⟨nd, rfl⟩⟩))
           go_meet
           case rel => exact ⟨_, (true), (by first | rfl | (simp; done) | (simp [*]; done)), H', ⟨by first | omega | exact Nat.le_refl _⟩, ⟨by (with_reducible repeat (first | refine blk_drewN ?_ _ | refine blk_drew ?_ | refine blk_alloc ?_ _)); exact BK128.out⟩, ⟨by repeat (first | (with_reducible first | exact HB.out | apply below_alloc | apply pw_below_drewN | apply below_drew1 | refine below_set ?_ GE128.out) | exact HB.out)⟩⟩
         ·rw [if_neg c19] at H
          have c19b0 : decide ((l0_3.length : Int) < a0_4) = false := decide_eq_false c19
          clear c19
          by_cases c21 : a0_5 < 0
          ·rw [if_pos c21] at H
           have c21b0 : decide (a0_5 < 0) = true := decide_eq_true c21
           clear c21
           as_aux_lemma =>
            have H' := Aside0.mk H
            clear H
            go_wp2_with (first | ((first | ((with_reducible refine gate_callee (f := 159) rfl ?_); refine gl_ (some 8) Try.func159 #[.int .i64 a1] (h := ?_); (with_reducible refine (spec_l4servers.calls a1 true _ A5.out).mono ?_); rintro e w' ⟨rfl, ⟨nd, rfl⟩⟩; refine ⟨_, rfl, ?_⟩) | (go_at_call 159; (with_reducible refine (spec_l4servers.calls a1 true _ A5.out).mono ?_); rintro e w' ⟨rfl, ⟨nd, rfl⟩⟩)); obtain ⟨hcz22_0, hcz22_1, hcz22_2, hcz22_3, hcz22_4, hcz22_5, hcz22_6, hcz22_7, hcz22_8, hcz22_9, hcz22_10, -⟩ := cells_11 BK128.out trivial; obtain ⟨hfz22_0, hfz22_1, hfz22_2, hfz22_3, hfz22_4, hfz22_5, hfz22_6, hfz22_7, hfz22_8, hfz22_9, hfz22_10, -⟩ := frz_11 BK128.out) | (go_at_call 108; (with_reducible refine (spec_l3term.calls a0_1 true _ A11.out).mono ?_); rintro e w' ⟨rfl, ⟨nd, rfl⟩⟩) | (go_at_call 160; (with_reducible refine (spec_l4who.calls a0_2 a1 true _ A13.out).mono ?_); rintro e w' ⟨rfl, ⟨nd, rfl⟩⟩))
            go_meet
            case rel => exact ⟨_, (true), (by first | rfl | (simp; done) | (simp [*]; done)), H', ⟨by first | omega | exact Nat.le_refl _⟩, ⟨by (with_reducible repeat (first | refine blk_drewN ?_ _ | refine blk_drew ?_ | refine blk_alloc ?_ _)); exact BK128.out⟩, ⟨by repeat (first | (with_reducible first | exact HB.out | apply below_alloc | apply pw_below_drewN | apply below_drew1 | refine below_set ?_ GE128.out) | exact HB.out)⟩⟩
          ·rw [if_neg c21] at H
           have c21b0 : decide (a0_5 < 0) = false := decide_eq_false c21
           clear c21
           by_cases c23 : a0_5 > 2
           ·rw [if_pos c23] at H
            have c23b0 : decide (2 < a0_5) = true := decide_eq_true c23
            clear c23
            as_aux_lemma =>
             have H' := Aside0.mk H
             clear H
             go_wp2_with (first | ((first | ((with_reducible refine gate_callee (f := 159) rfl ?_); refine gl_ (some 8) Try.func159 #[.int .i64 a1] (h := ?_); (with_reducible refine (spec_l4servers.calls a1 true _ A5.out).mono ?_); rintro e w' ⟨rfl, ⟨nd, rfl⟩⟩; refine ⟨_, rfl, ?_⟩) | (go_at_call 159; (with_reducible refine (spec_l4servers.calls a1 true _ A5.out).mono ?_); rintro e w' ⟨rfl, ⟨nd, rfl⟩⟩)); obtain ⟨hcz24_0, hcz24_1, hcz24_2, hcz24_3, hcz24_4, hcz24_5, hcz24_6, hcz24_7, hcz24_8, hcz24_9, hcz24_10, -⟩ := cells_11 BK128.out trivial; obtain ⟨hfz24_0, hfz24_1, hfz24_2, hfz24_3, hfz24_4, hfz24_5, hfz24_6, hfz24_7, hfz24_8, hfz24_9, hfz24_10, -⟩ := frz_11 BK128.out) | (go_at_call 108; (with_reducible refine (spec_l3term.calls a0_1 true _ A11.out).mono ?_); rintro e w' ⟨rfl, ⟨nd, rfl⟩⟩) | (go_at_call 160; (with_reducible refine (spec_l4who.calls a0_2 a1 true _ A13.out).mono ?_); rintro e w' ⟨rfl, ⟨nd, rfl⟩⟩))
             go_meet
             case rel => exact ⟨_, (true), (by first | rfl | (simp; done) | (simp [*]; done)), H', ⟨by first | omega | exact Nat.le_refl _⟩, ⟨by (with_reducible repeat (first | refine blk_drewN ?_ _ | refine blk_drew ?_ | refine blk_alloc ?_ _)); exact BK128.out⟩, ⟨by repeat (first | (with_reducible first | exact HB.out | apply below_alloc | apply pw_below_drewN | apply below_drew1 | refine below_set ?_ GE128.out) | exact HB.out)⟩⟩
           ·rw [if_neg c23] at H
            have c23b0 : decide (2 < a0_5) = false := decide_eq_false c23
            clear c23
            replace H := Option.bind_eq_some_iff.mp H
            obtain ⟨t132, A250, H⟩ := H
            replace H : (if t132 = true then (if a0_7 < 0 then (spec_NodeOk.j0 k a1 true a0_0 a0_1 a0_2 l0_3 a0_4 a0_5 a0_6 a0_7 l0_8 l0_9 l0_10) else (if a0_7 > 20 then (spec_NodeOk.j0 k a1 true a0_0 a0_1 a0_2 l0_3 a0_4 a0_5 a0_6 a0_7 l0_8 l0_9 l0_10) else (if (l0_8.length : Int) = a1 then (if (l0_9.length : Int) = a1 then (spec_NodeOk.j0 k a1 ((l0_10.length : Int) != a1) a0_0 a0_1 a0_2 l0_3 a0_4 a0_5 a0_6 a0_7 l0_8 l0_9 l0_10) else (spec_NodeOk.j0 k a1 true a0_0 a0_1 a0_2 l0_3 a0_4 a0_5 a0_6 a0_7 l0_8 l0_9 l0_10)) else (spec_NodeOk.j0 k a1 true a0_0 a0_1 a0_2 l0_3 a0_4 a0_5 a0_6 a0_7 l0_8 l0_9 l0_10)))) else (spec_NodeOk.j0 k a1 true a0_0 a0_1 a0_2 l0_3 a0_4 a0_5 a0_6 a0_7 l0_8 l0_9 l0_10)) = some r := H
            have A25 := Aside0.mk A250
            clear A250
            by_cases c26 : t132 = true
            ·subst c26
             have H1 : (if a0_7 < 0 then (spec_NodeOk.j0 k a1 true a0_0 a0_1 a0_2 l0_3 a0_4 a0_5 a0_6 a0_7 l0_8 l0_9 l0_10) else (if a0_7 > 20 then (spec_NodeOk.j0 k a1 true a0_0 a0_1 a0_2 l0_3 a0_4 a0_5 a0_6 a0_7 l0_8 l0_9 l0_10) else (if (l0_8.length : Int) = a1 then (if (l0_9.length : Int) = a1 then (spec_NodeOk.j0 k a1 ((l0_10.length : Int) != a1) a0_0 a0_1 a0_2 l0_3 a0_4 a0_5 a0_6 a0_7 l0_8 l0_9 l0_10) else (spec_NodeOk.j0 k a1 true a0_0 a0_1 a0_2 l0_3 a0_4 a0_5 a0_6 a0_7 l0_8 l0_9 l0_10)) else (spec_NodeOk.j0 k a1 true a0_0 a0_1 a0_2 l0_3 a0_4 a0_5 a0_6 a0_7 l0_8 l0_9 l0_10)))) = some r := by rw [if_pos rfl] at H; exact H
             clear H
             have H := H1
             clear H1
             by_cases c27 : a0_7 < 0
             ·rw [if_pos c27] at H
              have c27b0 : decide (a0_7 < 0) = true := decide_eq_true c27
              clear c27
              as_aux_lemma =>
               have H' := Aside0.mk H
               clear H
               go_wp2_with (first | ((first | ((with_reducible refine gate_callee (f := 159) rfl ?_); refine gl_ (some 8) Try.func159 #[.int .i64 a1] (h := ?_); (with_reducible refine (spec_l4servers.calls a1 true _ A5.out).mono ?_); rintro e w' ⟨rfl, ⟨nd, rfl⟩⟩; refine ⟨_, rfl, ?_⟩) | (go_at_call 159; (with_reducible refine (spec_l4servers.calls a1 true _ A5.out).mono ?_); rintro e w' ⟨rfl, ⟨nd, rfl⟩⟩)); obtain ⟨hcz28_0, hcz28_1, hcz28_2, hcz28_3, hcz28_4, hcz28_5, hcz28_6, hcz28_7, hcz28_8, hcz28_9, hcz28_10, -⟩ := cells_11 BK128.out trivial; obtain ⟨hfz28_0, hfz28_1, hfz28_2, hfz28_3, hfz28_4, hfz28_5, hfz28_6, hfz28_7, hfz28_8, hfz28_9, hfz28_10, -⟩ := frz_11 BK128.out) | (go_at_call 108; (with_reducible refine (spec_l3term.calls a0_1 true _ A11.out).mono ?_); rintro e w' ⟨rfl, ⟨nd, rfl⟩⟩) | (go_at_call 160; (with_reducible refine (spec_l4who.calls a0_2 a1 true _ A13.out).mono ?_); rintro e w' ⟨rfl, ⟨nd, rfl⟩⟩) | (go_at_call 160; (with_reducible refine (spec_l4who.calls a0_6 a1 true _ A25.out).mono ?_); rintro e w' ⟨rfl, ⟨nd, rfl⟩⟩))
               go_meet
               case rel => exact ⟨_, (true), (by first | rfl | (simp; done) | (simp [*]; done)), H', ⟨by first | omega | exact Nat.le_refl _⟩, ⟨by (with_reducible repeat (first | refine blk_drewN ?_ _ | refine blk_drew ?_ | refine blk_alloc ?_ _)); exact BK128.out⟩, ⟨by repeat (first | (with_reducible first | exact HB.out | apply below_alloc | apply pw_below_drewN | apply below_drew1 | refine below_set ?_ GE128.out) | exact HB.out)⟩⟩
             ·rw [if_neg c27] at H
              have c27b0 : decide (a0_7 < 0) = false := decide_eq_false c27
              clear c27
              by_cases c29 : a0_7 > 20
              ·rw [if_pos c29] at H
               have c29b0 : decide (20 < a0_7) = true := decide_eq_true c29
               clear c29
               as_aux_lemma =>
                have H' := Aside0.mk H
                clear H
                go_wp2_with (first | ((first | ((with_reducible refine gate_callee (f := 159) rfl ?_); refine gl_ (some 8) Try.func159 #[.int .i64 a1] (h := ?_); (with_reducible refine (spec_l4servers.calls a1 true _ A5.out).mono ?_); rintro e w' ⟨rfl, ⟨nd, rfl⟩⟩; refine ⟨_, rfl, ?_⟩) | (go_at_call 159; (with_reducible refine (spec_l4servers.calls a1 true _ A5.out).mono ?_); rintro e w' ⟨rfl, ⟨nd, rfl⟩⟩)); obtain ⟨hcz30_0, hcz30_1, hcz30_2, hcz30_3, hcz30_4, hcz30_5, hcz30_6, hcz30_7, hcz30_8, hcz30_9, hcz30_10, -⟩ := cells_11 BK128.out trivial; obtain ⟨hfz30_0, hfz30_1, hfz30_2, hfz30_3, hfz30_4, hfz30_5, hfz30_6, hfz30_7, hfz30_8, hfz30_9, hfz30_10, -⟩ := frz_11 BK128.out) | (go_at_call 108; (with_reducible refine (spec_l3term.calls a0_1 true _ A11.out).mono ?_); rintro e w' ⟨rfl, ⟨nd, rfl⟩⟩) | (go_at_call 160; (with_reducible refine (spec_l4who.calls a0_2 a1 true _ A13.out).mono ?_); rintro e w' ⟨rfl, ⟨nd, rfl⟩⟩) | (go_at_call 160; (with_reducible refine (spec_l4who.calls a0_6 a1 true _ A25.out).mono ?_); rintro e w' ⟨rfl, ⟨nd, rfl⟩⟩))
                go_meet
                case rel => exact ⟨_, (true), (by first | rfl | (simp; done) | (simp [*]; done)), H', ⟨by first | omega | exact Nat.le_refl _⟩, ⟨by (with_reducible repeat (first | refine blk_drewN ?_ _ | refine blk_drew ?_ | refine blk_alloc ?_ _)); exact BK128.out⟩, ⟨by repeat (first | (with_reducible first | exact HB.out | apply below_alloc | apply pw_below_drewN | apply below_drew1 | refine below_set ?_ GE128.out) | exact HB.out)⟩⟩
              ·rw [if_neg c29] at H
               have c29b0 : decide (20 < a0_7) = false := decide_eq_false c29
               clear c29
               by_cases c31 : (l0_8.length : Int) = a1
               ·rw [if_pos c31] at H
                have c31b0 : ((l0_8.length : Int) == a1) = true := beq_iff_eq.mpr c31
                have c31b1 : ((l0_8.length : Int) != a1) = false := bne_eq_false_iff_eq.mpr c31
                clear c31
                by_cases c32 : (l0_9.length : Int) = a1
                ·rw [if_pos c32] at H
                 have c32b0 : ((l0_9.length : Int) == a1) = true := beq_iff_eq.mpr c32
                 have c32b1 : ((l0_9.length : Int) != a1) = false := bne_eq_false_iff_eq.mpr c32
                 clear c32
                 as_aux_lemma =>
                  have H' := Aside0.mk H
                  clear H
                  go_wp2_with (first | ((first | ((with_reducible refine gate_callee (f := 159) rfl ?_); refine gl_ (some 8) Try.func159 #[.int .i64 a1] (h := ?_); (with_reducible refine (spec_l4servers.calls a1 true _ A5.out).mono ?_); rintro e w' ⟨rfl, ⟨nd, rfl⟩⟩; refine ⟨_, rfl, ?_⟩) | (go_at_call 159; (with_reducible refine (spec_l4servers.calls a1 true _ A5.out).mono ?_); rintro e w' ⟨rfl, ⟨nd, rfl⟩⟩)); obtain ⟨hcz33_0, hcz33_1, hcz33_2, hcz33_3, hcz33_4, hcz33_5, hcz33_6, hcz33_7, hcz33_8, hcz33_9, hcz33_10, -⟩ := cells_11 BK128.out trivial; obtain ⟨hfz33_0, hfz33_1, hfz33_2, hfz33_3, hfz33_4, hfz33_5, hfz33_6, hfz33_7, hfz33_8, hfz33_9, hfz33_10, -⟩ := frz_11 BK128.out) | (go_at_call 108; (with_reducible refine (spec_l3term.calls a0_1 true _ A11.out).mono ?_); rintro e w' ⟨rfl, ⟨nd, rfl⟩⟩) | (go_at_call 160; (with_reducible refine (spec_l4who.calls a0_2 a1 true _ A13.out).mono ?_); rintro e w' ⟨rfl, ⟨nd, rfl⟩⟩) | (go_at_call 160; (with_reducible refine (spec_l4who.calls a0_6 a1 true _ A25.out).mono ?_); rintro e w' ⟨rfl, ⟨nd, rfl⟩⟩))
                  go_meet
                  case rel => exact ⟨_, (((l0_10.length : Int) != a1)), (by first | rfl | (simp; done) | (simp [*]; done)), H', ⟨by first | omega | exact Nat.le_refl _⟩, ⟨by (with_reducible repeat (first | refine blk_drewN ?_ _ | refine blk_drew ?_ | refine blk_alloc ?_ _)); exact BK128.out⟩, ⟨by repeat (first | (with_reducible first | exact HB.out | apply below_alloc | apply pw_below_drewN | apply below_drew1 | refine below_set ?_ GE128.out) | exact HB.out)⟩⟩
                ·rw [if_neg c32] at H
                 have c32b0 : ((l0_9.length : Int) == a1) = false := beq_eq_false_iff_ne.mpr c32
                 have c32b1 : ((l0_9.length : Int) != a1) = true := bne_iff_ne.mpr c32
                 as_aux_lemma =>
                  have H' := Aside0.mk H
                  clear H
                  go_wp2_with (first | ((first | ((with_reducible refine gate_callee (f := 159) rfl ?_); refine gl_ (some 8) Try.func159 #[.int .i64 a1] (h := ?_); (with_reducible refine (spec_l4servers.calls a1 true _ A5.out).mono ?_); rintro e w' ⟨rfl, ⟨nd, rfl⟩⟩; refine ⟨_, rfl, ?_⟩) | (go_at_call 159; (with_reducible refine (spec_l4servers.calls a1 true _ A5.out).mono ?_); rintro e w' ⟨rfl, ⟨nd, rfl⟩⟩)); obtain ⟨hcz34_0, hcz34_1, hcz34_2, hcz34_3, hcz34_4, hcz34_5, hcz34_6, hcz34_7, hcz34_8, hcz34_9, hcz34_10, -⟩ := cells_11 BK128.out trivial; obtain ⟨hfz34_0, hfz34_1, hfz34_2, hfz34_3, hfz34_4, hfz34_5, hfz34_6, hfz34_7, hfz34_8, hfz34_9, hfz34_10, -⟩ := frz_11 BK128.out) | (go_at_call 108; (with_reducible refine (spec_l3term.calls a0_1 true _ A11.out).mono ?_); rintro e w' ⟨rfl, ⟨nd, rfl⟩⟩) | (go_at_call 160; (with_reducible refine (spec_l4who.calls a0_2 a1 true _ A13.out).mono ?_); rintro e w' ⟨rfl, ⟨nd, rfl⟩⟩) | (go_at_call 160; (with_reducible refine (spec_l4who.calls a0_6 a1 true _ A25.out).mono ?_); rintro e w' ⟨rfl, ⟨nd, rfl⟩⟩))
                  go_meet
                  case rel => exact ⟨_, (true), (by first | rfl | (simp; done) | (simp [*]; done)), H', ⟨by first | omega | exact Nat.le_refl _⟩, ⟨by (with_reducible repeat (first | refine blk_drewN ?_ _ | refine blk_drew ?_ | refine blk_alloc ?_ _)); exact BK128.out⟩, ⟨by repeat (first | (with_reducible first | exact HB.out | apply below_alloc | apply pw_below_drewN | apply below_drew1 | refine below_set ?_ GE128.out) | exact HB.out)⟩⟩
               ·rw [if_neg c31] at H
                have c31b0 : ((l0_8.length : Int) == a1) = false := beq_eq_false_iff_ne.mpr c31
                have c31b1 : ((l0_8.length : Int) != a1) = true := bne_iff_ne.mpr c31
                as_aux_lemma =>
                 have H' := Aside0.mk H
                 clear H
                 go_wp2_with (first | ((first | ((with_reducible refine gate_callee (f := 159) rfl ?_); refine gl_ (some 8) Try.func159 #[.int .i64 a1] (h := ?_); (with_reducible refine (spec_l4servers.calls a1 true _ A5.out).mono ?_); rintro e w' ⟨rfl, ⟨nd, rfl⟩⟩; refine ⟨_, rfl, ?_⟩) | (go_at_call 159; (with_reducible refine (spec_l4servers.calls a1 true _ A5.out).mono ?_); rintro e w' ⟨rfl, ⟨nd, rfl⟩⟩)); obtain ⟨hcz35_0, hcz35_1, hcz35_2, hcz35_3, hcz35_4, hcz35_5, hcz35_6, hcz35_7, hcz35_8, hcz35_9, hcz35_10, -⟩ := cells_11 BK128.out trivial; obtain ⟨hfz35_0, hfz35_1, hfz35_2, hfz35_3, hfz35_4, hfz35_5, hfz35_6, hfz35_7, hfz35_8, hfz35_9, hfz35_10, -⟩ := frz_11 BK128.out) | (go_at_call 108; (with_reducible refine (spec_l3term.calls a0_1 true _ A11.out).mono ?_); rintro e w' ⟨rfl, ⟨nd, rfl⟩⟩) | (go_at_call 160; (with_reducible refine (spec_l4who.calls a0_2 a1 true _ A13.out).mono ?_); rintro e w' ⟨rfl, ⟨nd, rfl⟩⟩) | (go_at_call 160; (with_reducible refine (spec_l4who.calls a0_6 a1 true _ A25.out).mono ?_); rintro e w' ⟨rfl, ⟨nd, rfl⟩⟩))
                 go_meet
                 case rel => exact ⟨_, (true), (by first | rfl | (simp; done) | (simp [*]; done)), H', ⟨by first | omega | exact Nat.le_refl _⟩, ⟨by (with_reducible repeat (first | refine blk_drewN ?_ _ | refine blk_drew ?_ | refine blk_alloc ?_ _)); exact BK128.out⟩, ⟨by repeat (first | (with_reducible first | exact HB.out | apply below_alloc | apply pw_below_drewN | apply below_drew1 | refine below_set ?_ GE128.out) | exact HB.out)⟩⟩
            ·replace c26 := Bool.eq_false_iff.mpr c26
             subst c26
             have H1 : (spec_NodeOk.j0 k a1 true a0_0 a0_1 a0_2 l0_3 a0_4 a0_5 a0_6 a0_7 l0_8 l0_9 l0_10) = some r := by rw [if_neg (show ¬ (false = true) by decide)] at H; exact H
             clear H
             have H := H1
             clear H1
             as_aux_lemma =>
              have H' := Aside0.mk H
              clear H
              go_wp2_with (first | ((first | ((with_reducible refine gate_callee (f := 159) rfl ?_); refine gl_ (some 8) Try.func159 #[.int .i64 a1] (h := ?_); (with_reducible refine (spec_l4servers.calls a1 true _ A5.out).mono ?_); rintro e w' ⟨rfl, ⟨nd, rfl⟩⟩; refine ⟨_, rfl, ?_⟩) | (go_at_call 159; (with_reducible refine (spec_l4servers.calls a1 true _ A5.out).mono ?_); rintro e w' ⟨rfl, ⟨nd, rfl⟩⟩)); obtain ⟨hcz36_0, hcz36_1, hcz36_2, hcz36_3, hcz36_4, hcz36_5, hcz36_6, hcz36_7, hcz36_8, hcz36_9, hcz36_10, -⟩ := cells_11 BK128.out trivial; obtain ⟨hfz36_0, hfz36_1, hfz36_2, hfz36_3, hfz36_4, hfz36_5, hfz36_6, hfz36_7, hfz36_8, hfz36_9, hfz36_10, -⟩ := frz_11 BK128.out) | (go_at_call 108; (with_reducible refine (spec_l3term.calls a0_1 true _ A11.out).mono ?_); rintro e w' ⟨rfl, ⟨nd, rfl⟩⟩) | (go_at_call 160; (with_reducible refine (spec_l4who.calls a0_2 a1 true _ A13.out).mono ?_); rintro e w' ⟨rfl, ⟨nd, rfl⟩⟩) | (go_at_call 160; (with_reducible refine (spec_l4who.calls a0_6 a1 false _ A25.out).mono ?_); rintro e w' ⟨rfl, ⟨nd, rfl⟩⟩))
              go_meet
              case rel => exact ⟨_, (true), (by first | rfl | (simp; done) | (simp [*]; done)), H', ⟨by first | omega | exact Nat.le_refl _⟩, ⟨by (with_reducible repeat (first | refine blk_drewN ?_ _ | refine blk_drew ?_ | refine blk_alloc ?_ _)); exact BK128.out⟩, ⟨by repeat (first | (with_reducible first | exact HB.out | apply below_alloc | apply pw_below_drewN | apply below_drew1 | refine below_set ?_ GE128.out) | exact HB.out)⟩⟩
      ·replace c14 := Bool.eq_false_iff.mpr c14
       subst c14
       have H1 : (spec_NodeOk.j0 k a1 true a0_0 a0_1 a0_2 l0_3 a0_4 a0_5 a0_6 a0_7 l0_8 l0_9 l0_10) = some r := by rw [if_neg (show ¬ (false = true) by decide)] at H; exact H
       clear H
       have H := H1
       clear H1
       as_aux_lemma =>
        have H' := Aside0.mk H
        clear H
        go_wp2_with (first | ((first | ((with_reducible refine gate_callee (f := 159) rfl ?_); refine gl_ (some 8) Try.func159 #[.int .i64 a1] (h := ?_); (with_reducible refine (spec_l4servers.calls a1 true _ A5.out).mono ?_); rintro e w' ⟨rfl, ⟨nd, rfl⟩⟩; refine ⟨_, rfl, ?_⟩) | (go_at_call 159; (with_reducible refine (spec_l4servers.calls a1 true _ A5.out).mono ?_); rintro e w' ⟨rfl, ⟨nd, rfl⟩⟩)); obtain ⟨hcz37_0, hcz37_1, hcz37_2, hcz37_3, hcz37_4, hcz37_5, hcz37_6, hcz37_7, hcz37_8, hcz37_9, hcz37_10, -⟩ := cells_11 BK128.out trivial; obtain ⟨hfz37_0, hfz37_1, hfz37_2, hfz37_3, hfz37_4, hfz37_5, hfz37_6, hfz37_7, hfz37_8, hfz37_9, hfz37_10, -⟩ := frz_11 BK128.out) | (go_at_call 108; (with_reducible refine (spec_l3term.calls a0_1 true _ A11.out).mono ?_); rintro e w' ⟨rfl, ⟨nd, rfl⟩⟩) | (go_at_call 160; (with_reducible refine (spec_l4who.calls a0_2 a1 false _ A13.out).mono ?_); rintro e w' ⟨rfl, ⟨nd, rfl⟩⟩))
        go_meet
        case rel => exact ⟨_, (true), (by first | rfl | (simp; done) | (simp [*]; done)), H', ⟨by first | omega | exact Nat.le_refl _⟩, ⟨by (with_reducible repeat (first | refine blk_drewN ?_ _ | refine blk_drew ?_ | refine blk_alloc ?_ _)); exact BK128.out⟩, ⟨by repeat (first | (with_reducible first | exact HB.out | apply below_alloc | apply pw_below_drewN | apply below_drew1 | refine below_set ?_ GE128.out) | exact HB.out)⟩⟩
     ·replace c12 := Bool.eq_false_iff.mpr c12
      subst c12
      have H1 : (spec_NodeOk.j0 k a1 true a0_0 a0_1 a0_2 l0_3 a0_4 a0_5 a0_6 a0_7 l0_8 l0_9 l0_10) = some r := by rw [if_neg (show ¬ (false = true) by decide)] at H; exact H
      clear H
      have H := H1
      clear H1
      as_aux_lemma =>
       have H' := Aside0.mk H
       clear H
       go_wp2_with (first | ((first | ((with_reducible refine gate_callee (f := 159) rfl ?_); refine gl_ (some 8) Try.func159 #[.int .i64 a1] (h := ?_); (with_reducible refine (spec_l4servers.calls a1 true _ A5.out).mono ?_); rintro e w' ⟨rfl, ⟨nd, rfl⟩⟩; refine ⟨_, rfl, ?_⟩) | (go_at_call 159; (with_reducible refine (spec_l4servers.calls a1 true _ A5.out).mono ?_); rintro e w' ⟨rfl, ⟨nd, rfl⟩⟩)); obtain ⟨hcz38_0, hcz38_1, hcz38_2, hcz38_3, hcz38_4, hcz38_5, hcz38_6, hcz38_7, hcz38_8, hcz38_9, hcz38_10, -⟩ := cells_11 BK128.out trivial; obtain ⟨hfz38_0, hfz38_1, hfz38_2, hfz38_3, hfz38_4, hfz38_5, hfz38_6, hfz38_7, hfz38_8, hfz38_9, hfz38_10, -⟩ := frz_11 BK128.out) | (go_at_call 108; (with_reducible refine (spec_l3term.calls a0_1 false _ A11.out).mono ?_); rintro e w' ⟨rfl, ⟨nd, rfl⟩⟩))
       go_meet
       case rel => exact ⟨_, (true), (by first | rfl | (simp; done) | (simp [*]; done)), H', ⟨by first | omega | exact Nat.le_refl _⟩, ⟨by (with_reducible repeat (first | refine blk_drewN ?_ _ | refine blk_drew ?_ | refine blk_alloc ?_ _)); exact BK128.out⟩, ⟨by repeat (first | (with_reducible first | exact HB.out | apply below_alloc | apply pw_below_drewN | apply below_drew1 | refine below_set ?_ GE128.out) | exact HB.out)⟩⟩
  ·replace c6 := Bool.eq_false_iff.mpr c6
   subst c6
   have H1 : (spec_NodeOk.j0 k a1 true a0_0 a0_1 a0_2 l0_3 a0_4 a0_5 a0_6 a0_7 l0_8 l0_9 l0_10) = some r := by rw [if_neg (show ¬ (false = true) by decide)] at H; exact H
   clear H
   have H := H1
   clear H1
   as_aux_lemma =>
    have H' := Aside0.mk H
    clear H
    go_wp2_with (first | ((first | ((with_reducible refine gate_callee (f := 159) rfl ?_); refine gl_ (some 8) Try.func159 #[.int .i64 a1] (h := ?_); (with_reducible refine (spec_l4servers.calls a1 false _ A5.out).mono ?_); rintro e w' ⟨rfl, ⟨nd, rfl⟩⟩; refine ⟨_, rfl, ?_⟩) | (go_at_call 159; (with_reducible refine (spec_l4servers.calls a1 false _ A5.out).mono ?_); rintro e w' ⟨rfl, ⟨nd, rfl⟩⟩))))
    go_meet
    case rel => exact ⟨_, (true), (by first | rfl | (simp; done) | (simp [*]; done)), H', ⟨by first | omega | exact Nat.le_refl _⟩, ⟨by (with_reducible repeat (first | refine blk_drewN ?_ _ | refine blk_drew ?_ | refine blk_alloc ?_ _)); exact BK128.out⟩, ⟨by repeat (first | (with_reducible first | exact HB.out | apply below_alloc | apply pw_below_drewN | apply below_drew1 | refine below_set ?_ GE128.out) | exact HB.out)⟩⟩
 case rest => as_aux_lemma =>
  clear HC3
  try clear c1; try clear c2; try clear p2; try clear c3; try clear c6; try clear c7; try clear c7b0; try clear c9; try clear c9b0; try clear c12; try clear c14; try clear c15; try clear c15b0; try clear c15b1; try clear c17; try clear c17b0; try clear c19; try clear c19b0; try clear c21; try clear c21b0; try clear c23; try clear c23b0; try clear c26; try clear c27; try clear c27b0; try clear c29; try clear c29b0; try clear c31; try clear c31b0; try clear c31b1; try clear c32; try clear c32b0; try clear c32b1; try clear hcz10_0; try clear hcz10_1; try clear hcz10_10; try clear hcz10_2; try clear hcz10_3; try clear hcz10_4; try clear hcz10_5; try clear hcz10_6; try clear hcz10_7; try clear hcz10_8; try clear hcz10_9; try clear hcz16_0; try clear hcz16_1; try clear hcz16_10; try clear hcz16_2; try clear hcz16_3; try clear hcz16_4; try clear hcz16_5; try clear hcz16_6; try clear hcz16_7; try clear hcz16_8; try clear hcz16_9; try clear hcz18_0; try clear hcz18_1; try clear hcz18_10; try clear hcz18_2; try clear hcz18_3; try clear hcz18_4; try clear hcz18_5; try clear hcz18_6; try clear hcz18_7; try clear hcz18_8; try clear hcz18_9; try clear hcz20_0; try clear hcz20_1; try clear hcz20_10; try clear hcz20_2; try clear hcz20_3; try clear hcz20_4; try clear hcz20_5; try clear hcz20_6; try clear hcz20_7; try clear hcz20_8; try clear hcz20_9; try clear hcz22_0; try clear hcz22_1; try clear hcz22_10; try clear hcz22_2; try clear hcz22_3; try clear hcz22_4; try clear hcz22_5; try clear hcz22_6; try clear hcz22_7; try clear hcz22_8; try clear hcz22_9; try clear hcz24_0; try clear hcz24_1; try clear hcz24_10; try clear hcz24_2; try clear hcz24_3; try clear hcz24_4; try clear hcz24_5; try clear hcz24_6; try clear hcz24_7; try clear hcz24_8; try clear hcz24_9; try clear hcz28_0; try clear hcz28_1; try clear hcz28_10; try clear hcz28_2; try clear hcz28_3; try clear hcz28_4; try clear hcz28_5; try clear hcz28_6; try clear hcz28_7; try clear hcz28_8; try clear hcz28_9; try clear hcz30_0; try clear hcz30_1; try clear hcz30_10; try clear hcz30_2; try clear hcz30_3; try clear hcz30_4; try clear hcz30_5; try clear hcz30_6; try clear hcz30_7; try clear hcz30_8; try clear hcz30_9; try clear hcz33_0; try clear hcz33_1; try clear hcz33_10; try clear hcz33_2; try clear hcz33_3; try clear hcz33_4; try clear hcz33_5; try clear hcz33_6; try clear hcz33_7; try clear hcz33_8; try clear hcz33_9; try clear hcz34_0; try clear hcz34_1; try clear hcz34_10; try clear hcz34_2; try clear hcz34_3; try clear hcz34_4; try clear hcz34_5; try clear hcz34_6; try clear hcz34_7; try clear hcz34_8; try clear hcz34_9; try clear hcz35_0; try clear hcz35_1; try clear hcz35_10; try clear hcz35_2; try clear hcz35_3; try clear hcz35_4; try clear hcz35_5; try clear hcz35_6; try clear hcz35_7; try clear hcz35_8; try clear hcz35_9; try clear hcz36_0; try clear hcz36_1; try clear hcz36_10; try clear hcz36_2; try clear hcz36_3; try clear hcz36_4; try clear hcz36_5; try clear hcz36_6; try clear hcz36_7; try clear hcz36_8; try clear hcz36_9; try clear hcz37_0; try clear hcz37_1; try clear hcz37_10; try clear hcz37_2; try clear hcz37_3; try clear hcz37_4; try clear hcz37_5; try clear hcz37_6; try clear hcz37_7; try clear hcz37_8; try clear hcz37_9; try clear hcz38_0; try clear hcz38_1; try clear hcz38_10; try clear hcz38_2; try clear hcz38_3; try clear hcz38_4; try clear hcz38_5; try clear hcz38_6; try clear hcz38_7; try clear hcz38_8; try clear hcz38_9; try clear hcz8_0; try clear hcz8_1; try clear hcz8_10; try clear hcz8_2; try clear hcz8_3; try clear hcz8_4; try clear hcz8_5; try clear hcz8_6; try clear hcz8_7; try clear hcz8_8; try clear hcz8_9; try clear hfz10_0; try clear hfz10_1; try clear hfz10_10; try clear hfz10_2; try clear hfz10_3; try clear hfz10_4; try clear hfz10_5; try clear hfz10_6; try clear hfz10_7; try clear hfz10_8; try clear hfz10_9; try clear hfz16_0; try clear hfz16_1; try clear hfz16_10; try clear hfz16_2; try clear hfz16_3; try clear hfz16_4; try clear hfz16_5; try clear hfz16_6; try clear hfz16_7; try clear hfz16_8; try clear hfz16_9; try clear hfz18_0; try clear hfz18_1; try clear hfz18_10; try clear hfz18_2; try clear hfz18_3; try clear hfz18_4; try clear hfz18_5; try clear hfz18_6; try clear hfz18_7; try clear hfz18_8; try clear hfz18_9; try clear hfz20_0; try clear hfz20_1; try clear hfz20_10; try clear hfz20_2; try clear hfz20_3; try clear hfz20_4; try clear hfz20_5; try clear hfz20_6; try clear hfz20_7; try clear hfz20_8; try clear hfz20_9; try clear hfz22_0; try clear hfz22_1; try clear hfz22_10; try clear hfz22_2; try clear hfz22_3; try clear hfz22_4; try clear hfz22_5; try clear hfz22_6; try clear hfz22_7; try clear hfz22_8; try clear hfz22_9; try clear hfz24_0; try clear hfz24_1; try clear hfz24_10; try clear hfz24_2; try clear hfz24_3; try clear hfz24_4; try clear hfz24_5; try clear hfz24_6; try clear hfz24_7; try clear hfz24_8; try clear hfz24_9; try clear hfz28_0; try clear hfz28_1; try clear hfz28_10; try clear hfz28_2; try clear hfz28_3; try clear hfz28_4; try clear hfz28_5; try clear hfz28_6; try clear hfz28_7; try clear hfz28_8; try clear hfz28_9; try clear hfz30_0; try clear hfz30_1; try clear hfz30_10; try clear hfz30_2; try clear hfz30_3; try clear hfz30_4; try clear hfz30_5; try clear hfz30_6; try clear hfz30_7; try clear hfz30_8; try clear hfz30_9; try clear hfz33_0; try clear hfz33_1; try clear hfz33_10; try clear hfz33_2; try clear hfz33_3; try clear hfz33_4; try clear hfz33_5; try clear hfz33_6; try clear hfz33_7; try clear hfz33_8; try clear hfz33_9; try clear hfz34_0; try clear hfz34_1; try clear hfz34_10; try clear hfz34_2; try clear hfz34_3; try clear hfz34_4; try clear hfz34_5; try clear hfz34_6; try clear hfz34_7; try clear hfz34_8; try clear hfz34_9; try clear hfz35_0; try clear hfz35_1; try clear hfz35_10; try clear hfz35_2; try clear hfz35_3; try clear hfz35_4; try clear hfz35_5; try clear hfz35_6; try clear hfz35_7; try clear hfz35_8; try clear hfz35_9; try clear hfz36_0; try clear hfz36_1; try clear hfz36_10; try clear hfz36_2; try clear hfz36_3; try clear hfz36_4; try clear hfz36_5; try clear hfz36_6; try clear hfz36_7; try clear hfz36_8; try clear hfz36_9; try clear hfz37_0; try clear hfz37_1; try clear hfz37_10; try clear hfz37_2; try clear hfz37_3; try clear hfz37_4; try clear hfz37_5; try clear hfz37_6; try clear hfz37_7; try clear hfz37_8; try clear hfz37_9; try clear hfz38_0; try clear hfz38_1; try clear hfz38_10; try clear hfz38_2; try clear hfz38_3; try clear hfz38_4; try clear hfz38_5; try clear hfz38_6; try clear hfz38_7; try clear hfz38_8; try clear hfz38_9; try clear hfz8_0; try clear hfz8_1; try clear hfz8_10; try clear hfz8_2; try clear hfz8_3; try clear hfz8_4; try clear hfz8_5; try clear hfz8_6; try clear hfz8_7; try clear hfz8_8; try clear hfz8_9
  obtain ⟨kq, x100_2, rfl, HA, HJ2, BK128, HB⟩ := hcut
  cases kq with
  | zero => exact absurd HA.out (by simp [spec_NodeOk.j0])
  | succ kj2 =>
   have H := HA.out
   clear HA
   simp only [spec_NodeOk.j0] at H
   by_cases c39 : x100_2 = true
   ·subst c39
    have H1 : (some false) = some r := by rw [if_pos rfl] at H; exact H
    clear H
    have H := H1
    clear H1
    as_aux_lemma =>
     obtain rfl := Option.some.inj H
     go_wp2
     go_ret
     exact ⟨by first | rfl | (simp [errW_none, errW_some] <;> rfl) | (simp [*, errW_none, errW_some] <;> rfl), by repeat (first | (with_reducible first | exact HB.out | apply below_alloc | apply pw_below_drewN | apply below_drew1 | refine below_set ?_ GE128.out) | exact HB.out)⟩
   ·replace c39 := Bool.eq_false_iff.mpr c39
    subst c39
    have H1 : (spec_NodeOk.l0 kj2 a1 0 a0_0 a0_1 a0_2 l0_3 a0_4 a0_5 a0_6 a0_7 l0_8 l0_9 l0_10) = some r := by rw [if_neg (show ¬ (false = true) by decide)] at H; exact H
    clear H
    have H := H1
    clear H1
    have H' := Aside0.mk H
    clear H
    go_wp2
    go_loopg [5] kj2 (fun kq v5 w' => ∃ (x5_2 : Int), v5 = .int .i64 x5_2 ∧ Aside0 (spec_NodeOk.l0 kq a1 x5_2 a0_0 a0_1 a0_2 l0_3 a0_4 a0_5 a0_6 a0_7 l0_8 l0_9 l0_10 = some r) ∧ Aside0 (kq ≤ kj2) ∧ Aside0 (w'.heap[gb128]? = some (.cells #[.int .i64 a0_0, .int .i64 a0_1, .int .i64 a0_2, (.slice A0_3 l0_3.length c0_3), .int .i64 a0_4, .int .i64 a0_5, .int .i64 a0_6, .int .i64 a0_7, (.slice A0_8 l0_8.length c0_8), (.slice A0_9 l0_9.length c0_9), (.slice A0_10 l0_10.length c0_10)] 48 (0, 0))) ∧ Aside0 (Below w.heap.size w w'))
    case atStart => exact ⟨(0), (by first | rfl | (simp; done) | (simp [*]; done)), H', ⟨Nat.le_refl _⟩, ⟨by (with_reducible repeat (first | refine blk_drewN ?_ _ | refine blk_drew ?_ | refine blk_alloc ?_ _)); exact BK128.out⟩, ⟨by repeat (first | (with_reducible first | exact HB.out | apply below_alloc | apply pw_below_drewN | apply below_drew1 | refine below_set ?_ GE128.out) | exact HB.out)⟩⟩
    case round => as_aux_lemma =>
     clear H'
     try clear c1; try clear c2; try clear p2; try clear c3; try clear c6; try clear c7; try clear c7b0; try clear c9; try clear c9b0; try clear c12; try clear c14; try clear c15; try clear c15b0; try clear c15b1; try clear c17; try clear c17b0; try clear c19; try clear c19b0; try clear c21; try clear c21b0; try clear c23; try clear c23b0; try clear c26; try clear c27; try clear c27b0; try clear c29; try clear c29b0; try clear c31; try clear c31b0; try clear c31b1; try clear c32; try clear c32b0; try clear c32b1; try clear c39; try clear hcz10_0; try clear hcz10_1; try clear hcz10_10; try clear hcz10_2; try clear hcz10_3; try clear hcz10_4; try clear hcz10_5; try clear hcz10_6; try clear hcz10_7; try clear hcz10_8; try clear hcz10_9; try clear hcz16_0; try clear hcz16_1; try clear hcz16_10; try clear hcz16_2; try clear hcz16_3; try clear hcz16_4; try clear hcz16_5; try clear hcz16_6; try clear hcz16_7; try clear hcz16_8; try clear hcz16_9; try clear hcz18_0; try clear hcz18_1; try clear hcz18_10; try clear hcz18_2; try clear hcz18_3; try clear hcz18_4; try clear hcz18_5; try clear hcz18_6; try clear hcz18_7; try clear hcz18_8; try clear hcz18_9; try clear hcz20_0; try clear hcz20_1; try clear hcz20_10; try clear hcz20_2; try clear hcz20_3; try clear hcz20_4; try clear hcz20_5; try clear hcz20_6; try clear hcz20_7; try clear hcz20_8; try clear hcz20_9; try clear hcz22_0; try clear hcz22_1; try clear hcz22_10; try clear hcz22_2; try clear hcz22_3; try clear hcz22_4; try clear hcz22_5; try clear hcz22_6; try clear hcz22_7; try clear hcz22_8; try clear hcz22_9; try clear hcz24_0; try clear hcz24_1; try clear hcz24_10; try clear hcz24_2; try clear hcz24_3; try clear hcz24_4; try clear hcz24_5; try clear hcz24_6; try clear hcz24_7; try clear hcz24_8; try clear hcz24_9; try clear hcz28_0; try clear hcz28_1; try clear hcz28_10; try clear hcz28_2; try clear hcz28_3; try clear hcz28_4; try clear hcz28_5; try clear hcz28_6; try clear hcz28_7; try clear hcz28_8; try clear hcz28_9; try clear hcz30_0; try clear hcz30_1; try clear hcz30_10; try clear hcz30_2; try clear hcz30_3; try clear hcz30_4; try clear hcz30_5; try clear hcz30_6; try clear hcz30_7; try clear hcz30_8; try clear hcz30_9; try clear hcz33_0; try clear hcz33_1; try clear hcz33_10; try clear hcz33_2; try clear hcz33_3; try clear hcz33_4; try clear hcz33_5; try clear hcz33_6; try clear hcz33_7; try clear hcz33_8; try clear hcz33_9; try clear hcz34_0; try clear hcz34_1; try clear hcz34_10; try clear hcz34_2; try clear hcz34_3; try clear hcz34_4; try clear hcz34_5; try clear hcz34_6; try clear hcz34_7; try clear hcz34_8; try clear hcz34_9; try clear hcz35_0; try clear hcz35_1; try clear hcz35_10; try clear hcz35_2; try clear hcz35_3; try clear hcz35_4; try clear hcz35_5; try clear hcz35_6; try clear hcz35_7; try clear hcz35_8; try clear hcz35_9; try clear hcz36_0; try clear hcz36_1; try clear hcz36_10; try clear hcz36_2; try clear hcz36_3; try clear hcz36_4; try clear hcz36_5; try clear hcz36_6; try clear hcz36_7; try clear hcz36_8; try clear hcz36_9; try clear hcz37_0; try clear hcz37_1; try clear hcz37_10; try clear hcz37_2; try clear hcz37_3; try clear hcz37_4; try clear hcz37_5; try clear hcz37_6; try clear hcz37_7; try clear hcz37_8; try clear hcz37_9; try clear hcz38_0; try clear hcz38_1; try clear hcz38_10; try clear hcz38_2; try clear hcz38_3; try clear hcz38_4; try clear hcz38_5; try clear hcz38_6; try clear hcz38_7; try clear hcz38_8; try clear hcz38_9; try clear hcz8_0; try clear hcz8_1; try clear hcz8_10; try clear hcz8_2; try clear hcz8_3; try clear hcz8_4; try clear hcz8_5; try clear hcz8_6; try clear hcz8_7; try clear hcz8_8; try clear hcz8_9; try clear hfz10_0; try clear hfz10_1; try clear hfz10_10; try clear hfz10_2; try clear hfz10_3; try clear hfz10_4; try clear hfz10_5; try clear hfz10_6; try clear hfz10_7; try clear hfz10_8; try clear hfz10_9; try clear hfz16_0; try clear hfz16_1; try clear hfz16_10; try clear hfz16_2; try clear hfz16_3; try clear hfz16_4; try clear hfz16_5; try clear hfz16_6; try clear hfz16_7; try clear hfz16_8; try clear hfz16_9; try clear hfz18_0; try clear hfz18_1; try clear hfz18_10; try clear hfz18_2; try clear hfz18_3; try clear hfz18_4; try clear hfz18_5; try clear hfz18_6; try clear hfz18_7; try clear hfz18_8; try clear hfz18_9; try clear hfz20_0; try clear hfz20_1; try clear hfz20_10; try clear hfz20_2; try clear hfz20_3; try clear hfz20_4; try clear hfz20_5; try clear hfz20_6; try clear hfz20_7; try clear hfz20_8; try clear hfz20_9; try clear hfz22_0; try clear hfz22_1; try clear hfz22_10; try clear hfz22_2; try clear hfz22_3; try clear hfz22_4; try clear hfz22_5; try clear hfz22_6; try clear hfz22_7; try clear hfz22_8; try clear hfz22_9; try clear hfz24_0; try clear hfz24_1; try clear hfz24_10; try clear hfz24_2; try clear hfz24_3; try clear hfz24_4; try clear hfz24_5; try clear hfz24_6; try clear hfz24_7; try clear hfz24_8; try clear hfz24_9; try clear hfz28_0; try clear hfz28_1; try clear hfz28_10; try clear hfz28_2; try clear hfz28_3; try clear hfz28_4; try clear hfz28_5; try clear hfz28_6; try clear hfz28_7; try clear hfz28_8; try clear hfz28_9; try clear hfz30_0; try clear hfz30_1; try clear hfz30_10; try clear hfz30_2; try clear hfz30_3; try clear hfz30_4; try clear hfz30_5; try clear hfz30_6; try clear hfz30_7; try clear hfz30_8; try clear hfz30_9; try clear hfz33_0; try clear hfz33_1; try clear hfz33_10; try clear hfz33_2; try clear hfz33_3; try clear hfz33_4; try clear hfz33_5; try clear hfz33_6; try clear hfz33_7; try clear hfz33_8; try clear hfz33_9; try clear hfz34_0; try clear hfz34_1; try clear hfz34_10; try clear hfz34_2; try clear hfz34_3; try clear hfz34_4; try clear hfz34_5; try clear hfz34_6; try clear hfz34_7; try clear hfz34_8; try clear hfz34_9; try clear hfz35_0; try clear hfz35_1; try clear hfz35_10; try clear hfz35_2; try clear hfz35_3; try clear hfz35_4; try clear hfz35_5; try clear hfz35_6; try clear hfz35_7; try clear hfz35_8; try clear hfz35_9; try clear hfz36_0; try clear hfz36_1; try clear hfz36_10; try clear hfz36_2; try clear hfz36_3; try clear hfz36_4; try clear hfz36_5; try clear hfz36_6; try clear hfz36_7; try clear hfz36_8; try clear hfz36_9; try clear hfz37_0; try clear hfz37_1; try clear hfz37_10; try clear hfz37_2; try clear hfz37_3; try clear hfz37_4; try clear hfz37_5; try clear hfz37_6; try clear hfz37_7; try clear hfz37_8; try clear hfz37_9; try clear hfz38_0; try clear hfz38_1; try clear hfz38_10; try clear hfz38_2; try clear hfz38_3; try clear hfz38_4; try clear hfz38_5; try clear hfz38_6; try clear hfz38_7; try clear hfz38_8; try clear hfz38_9; try clear hfz8_0; try clear hfz8_1; try clear hfz8_10; try clear hfz8_2; try clear hfz8_3; try clear hfz8_4; try clear hfz8_5; try clear hfz8_6; try clear hfz8_7; try clear hfz8_8; try clear hfz8_9; try clear p2
     obtain ⟨x5_2, rfl, HA, HK2, BK128, HB⟩ := hrel
     cases gk with
     | zero => exact absurd HA.out (by simp [spec_NodeOk.l0])
     | succ k2 =>
      have H := HA.out
      clear HA
      simp only [spec_NodeOk.l0] at H
      by_cases c40 : x5_2 < (l0_3.length : Int)
      ·rw [if_pos c40] at H
       have c40b0 : decide (x5_2 < (l0_3.length : Int)) = true := decide_eq_true c40
       clear c40
       by_cases c41 : 0 ≤ x5_2
       ·rw [if_pos c41] at H
        have c41b0 : decide (0 ≤ x5_2) = true := decide_eq_true c41
        clear c41
        replace H := Option.bind_eq_some_iff.mp H
        obtain ⟨t134, A420, H⟩ := H
        replace H : (if t134 = true then (if ((rd_T147 l0_3 x5_2).f0) > a0_1 then (some false) else (if x5_2 > 0 then (if 0 ≤ (wrap64 (x5_2 - 1)) then (if (wrap64 (x5_2 - 1)) < (l0_3.length : Int) then (if ((rd_T147 l0_3 (wrap64 (x5_2 - 1))).f0) > ((rd_T147 l0_3 x5_2).f0) then (some false) else (spec_NodeOk.l0 k2 a1 (wrap64 (x5_2 + 1)) a0_0 a0_1 a0_2 l0_3 a0_4 a0_5 a0_6 a0_7 l0_8 l0_9 l0_10)) else (none)) else (none)) else (spec_NodeOk.l0 k2 a1 (wrap64 (x5_2 + 1)) a0_0 a0_1 a0_2 l0_3 a0_4 a0_5 a0_6 a0_7 l0_8 l0_9 l0_10))) else (some false)) = some r := H
        have A42 := Aside0.mk A420
        clear A420
        by_cases c43 : t134 = true
        ·subst c43
         have H1 : (if ((rd_T147 l0_3 x5_2).f0) > a0_1 then (some false) else (if x5_2 > 0 then (if 0 ≤ (wrap64 (x5_2 - 1)) then (if (wrap64 (x5_2 - 1)) < (l0_3.length : Int) then (if ((rd_T147 l0_3 (wrap64 (x5_2 - 1))).f0) > ((rd_T147 l0_3 x5_2).f0) then (some false) else (spec_NodeOk.l0 k2 a1 (wrap64 (x5_2 + 1)) a0_0 a0_1 a0_2 l0_3 a0_4 a0_5 a0_6 a0_7 l0_8 l0_9 l0_10)) else (none)) else (none)) else (spec_NodeOk.l0 k2 a1 (wrap64 (x5_2 + 1)) a0_0 a0_1 a0_2 l0_3 a0_4 a0_5 a0_6 a0_7 l0_8 l0_9 l0_10))) = some r := by rw [if_pos rfl] at H; exact H
         clear H
         have H := H1
         clear H1
         by_cases c44 : ((rd_T147 l0_3 x5_2).f0) > a0_1
         ·rw [if_pos c44] at H
          have c44b0 : decide (a0_1 < ((rd_T147 l0_3 x5_2).f0)) = true := decide_eq_true c44
          clear c44
          as_aux_lemma =>
           obtain rfl := Option.some.inj H
           obtain ⟨hcz45_0, hcz45_1, hcz45_2, hcz45_3, hcz45_4, hcz45_5, hcz45_6, hcz45_7, hcz45_8, hcz45_9, hcz45_10, -⟩ := cells_11 BK128.out trivial
           obtain ⟨hfz45_0, hfz45_1, hfz45_2, hfz45_3, hfz45_4, hfz45_5, hfz45_6, hfz45_7, hfz45_8, hfz45_9, hfz45_10, -⟩ := frz_11 BK128.out
           try go_wp2
           replace BK128 := Aside0.mk (blk_drew BK128.out)
           replace HB := Aside0.mk (below_drew1 HB.out)
           have p133 : 0 ≤ (x5_2 : Int) := od
           have q133 : x5_2 < (l0_3.length : Int) := od
           obtain ⟨ad133, A133_4, c133_4, A133_5, c133_5, e133, hx133_0, hx133_1, hx133_2, hx133_3, hx133_4, hx133_5, hx133_6, hl133_4, hi133_4, hl133_5, hi133_5⟩ := at_T147 HR0_3.out x5_2 p133 q133
           have hw133_6 := hx133_6
           have hw133_5 := hx133_5
           have hw133_4 := hx133_4
           have hw133_3 := hx133_3
           have hw133_2 := hx133_2
           have hw133_1 := hx133_1
           have hw133_0 := hx133_0
           cases e133
           replace hx133_0 := hxb HB hx133_0
           replace hx133_1 := hxb HB hx133_1
           replace hx133_2 := hxb HB hx133_2
           replace hx133_3 := hxb HB hx133_3
           replace hx133_4 := hxb HB hx133_4
           replace hx133_5 := hxb HB hx133_5
           replace hx133_6 := hxb HB hx133_6
           have HR133_4 := Aside0.mk hi133_4
           have HC133_4 := Aside0.mk hl133_4
           clear hi133_4 hl133_4
           have HR133_5 := Aside0.mk hi133_5
           have HC133_5 := Aside0.mk hl133_5
           clear hi133_5 hl133_5
           replace p133 := eq_true p133
           replace q133 := eq_true q133
           have p135 : 0 ≤ (x5_2 : Int) := od
           have q135 : x5_2 < (l0_3.length : Int) := od
           obtain ⟨ad135, A135_4, c135_4, A135_5, c135_5, e135, hx135_0, hx135_1, hx135_2, hx135_3, hx135_4, hx135_5, hx135_6, hl135_4, hi135_4, hl135_5, hi135_5⟩ := at_T147 HR0_3.out x5_2 p135 q135
           have hw135_6 := hx135_6
           have hw135_5 := hx135_5
           have hw135_4 := hx135_4
           have hw135_3 := hx135_3
           have hw135_2 := hx135_2
           have hw135_1 := hx135_1
           have hw135_0 := hx135_0
           obtain rfl : ad133 = ad135 := (by injection e135)
           replace hx135_0 := hxb HB hx135_0
           replace hx135_1 := hxb HB hx135_1
           replace hx135_2 := hxb HB hx135_2
           replace hx135_3 := hxb HB hx135_3
           replace hx135_4 := hxb HB hx135_4
           replace hx135_5 := hxb HB hx135_5
           replace hx135_6 := hxb HB hx135_6
           have HR135_4 := Aside0.mk hi135_4
           have HC135_4 := Aside0.mk hl135_4
           clear hi135_4 hl135_4
           have HR135_5 := Aside0.mk hi135_5
           have HC135_5 := Aside0.mk hl135_5
           clear hi135_5 hl135_5
           replace p135 := eq_true p135
           replace q135 := eq_true q135
           refine start_ (n := 38) (S := fun w' => w'.cell? ⟨gb128, 0, none⟩ = some (.int .i64 a0_0) ∧ w'.cell? ⟨gb128, 1, none⟩ = some (.int .i64 a0_1) ∧ w'.cell? ⟨gb128, 2, none⟩ = some (.int .i64 a0_2) ∧ w'.cell? ⟨gb128, 3, none⟩ = some (.slice (some ad133) l0_3.length c0_3) ∧ w'.cell? ⟨gb128, 4, none⟩ = some (.int .i64 a0_4) ∧ w'.cell? ⟨gb128, 5, none⟩ = some (.int .i64 a0_5) ∧ w'.cell? ⟨gb128, 6, none⟩ = some (.int .i64 a0_6) ∧ w'.cell? ⟨gb128, 7, none⟩ = some (.int .i64 a0_7) ∧ w'.cell? ⟨gb128, 8, none⟩ = some (.slice A0_8 l0_8.length c0_8) ∧ w'.cell? ⟨gb128, 9, none⟩ = some (.slice A0_9 l0_9.length c0_9) ∧ w'.cell? ⟨gb128, 10, none⟩ = some (.slice A0_10 l0_10.length c0_10) ∧ w'.cell? (ad133.add ((x5_2).toNat * 7)) = some (.int .i64 ((rd_T147 l0_3 x5_2).f0)) ∧ w'.cell? ⟨(ad133.add ((x5_2).toNat * 7)).block, (ad133.add ((x5_2).toNat * 7)).off + 1, none⟩ = some (.int .i64 ((rd_T147 l0_3 x5_2).f1.f0)) ∧ w'.cell? ⟨(ad133.add ((x5_2).toNat * 7)).block, (ad133.add ((x5_2).toNat * 7)).off + 2, none⟩ = some (.int .i64 ((rd_T147 l0_3 x5_2).f1.f1)) ∧ w'.cell? ⟨(ad133.add ((x5_2).toNat * 7)).block, (ad133.add ((x5_2).toNat * 7)).off + 3, none⟩ = some (.int .i64 ((rd_T147 l0_3 x5_2).f1.f2.f0)) ∧ w'.cell? ⟨(ad133.add ((x5_2).toNat * 7)).block, (ad133.add ((x5_2).toNat * 7)).off + 4, none⟩ = some (.slice A133_4 ((rd_T147 l0_3 x5_2).f1.f2.f1).length c133_4) ∧ w'.cell? ⟨(ad133.add ((x5_2).toNat * 7)).block, (ad133.add ((x5_2).toNat * 7)).off + 5, none⟩ = some (.slice A133_5 ((rd_T147 l0_3 x5_2).f1.f2.f2).length c133_5) ∧ w'.cell? ⟨(ad133.add ((x5_2).toNat * 7)).block, (ad133.add ((x5_2).toNat * 7)).off + 6, none⟩ = some (.int .i64 ((rd_T147 l0_3 x5_2).f1.f2.f3)) ∧ w'.cell? (ad133.add ((x5_2).toNat * 7)) = some (.int .i64 ((rd_T147 l0_3 x5_2).f0)) ∧ w'.cell? ⟨(ad133.add ((x5_2).toNat * 7)).block, (ad133.add ((x5_2).toNat * 7)).off + 1, none⟩ = some (.int .i64 ((rd_T147 l0_3 x5_2).f1.f0)) ∧ w'.cell? ⟨(ad133.add ((x5_2).toNat * 7)).block, (ad133.add ((x5_2).toNat * 7)).off + 2, none⟩ = some (.int .i64 ((rd_T147 l0_3 x5_2).f1.f1)) ∧ w'.cell? ⟨(ad133.add ((x5_2).toNat * 7)).block, (ad133.add ((x5_2).toNat * 7)).off + 3, none⟩ = some (.int .i64 ((rd_T147 l0_3 x5_2).f1.f2.f0)) ∧ w'.cell? ⟨(ad133.add ((x5_2).toNat * 7)).block, (ad133.add ((x5_2).toNat * 7)).off + 4, none⟩ = some (.slice A135_4 ((rd_T147 l0_3 x5_2).f1.f2.f1).length c135_4) ∧ w'.cell? ⟨(ad133.add ((x5_2).toNat * 7)).block, (ad133.add ((x5_2).toNat * 7)).off + 5, none⟩ = some (.slice A135_5 ((rd_T147 l0_3 x5_2).f1.f2.f2).length c135_5) ∧ w'.cell? ⟨(ad133.add ((x5_2).toNat * 7)).block, (ad133.add ((x5_2).toNat * 7)).off + 6, none⟩ = some (.int .i64 ((rd_T147 l0_3 x5_2).f1.f2.f3))) (ds := []) (tf 0 38) (by kernel_rfl) rfl rfl (cells_11 BK128.out ⟨(hxb HB hw133_0 :), (hxb HB hw133_1 :), (hxb HB hw133_2 :), (hxb HB hw133_3 :), (hxb HB hw133_4 :), (hxb HB hw133_5 :), (hxb HB hw133_6 :), (hxb HB hw135_0 :), (hxb HB hw135_1 :), (hxb HB hw135_2 :), (hxb HB hw135_3 :), (hxb HB hw135_4 :), (hxb HB hw135_5 :), (hxb HB hw135_6 :)⟩) (fun hHeld => ?_); refine with_tabW spec_NodeOk.tab6 spec_NodeOk.bits6 (fun HT_ HW_ => ?_)
           generalize wr.drew = w46 at BK128 HB HR133_4 HR133_5 HR135_4 HR135_5 hx133_0 hx133_1 hx133_2 hx133_3 hx133_4 hx133_5 hx133_6 hx135_0 hx135_1 hx135_2 hx135_3 hx135_4 hx135_5 hx135_6 hHeld ⊢
           refine pv_ HT_ 0 (some 108) (tf 1 37) (h := ?_)
           refine pv_ HT_ 2 (some 110) (tb 38 5) (h := ?_)
           refine tv_ HT_ HW_ hHeld 1 (some 109) (tf 3 35) (h := ?_)
           refine pv_ HT_ 3 (some 111) (tf 4 34) (h := ?_)
           refine tv_ HT_ HW_ hHeld 4 (some 112) (tf 5 33) (h := ?_)
           refine one_ (i := 5) (N := some 113) (tf 6 32) rfl rfl (one_of HT_.out (by kernel_rfl)) (by decide) (fun K hK => ?_)
           refine gs_ Try.func110 #[.agg #[.int .i64 ((rd_T147 l0_3 x5_2).f0), .int .i64 ((rd_T147 l0_3 x5_2).f1.f0), .int .i64 ((rd_T147 l0_3 x5_2).f1.f1), .int .i64 ((rd_T147 l0_3 x5_2).f1.f2.f0), .slice A133_4 ((rd_T147 l0_3 x5_2).f1.f2.f1).length c133_4, .slice A133_5 ((rd_T147 l0_3 x5_2).f1.f2.f2).length c133_5, .int .i64 ((rd_T147 l0_3 x5_2).f1.f2.f3)]] (h := ?_)
           with_reducible refine (spec_ItemOk.calls k2 ((rd_T147 l0_3 x5_2).f0) ((rd_T147 l0_3 x5_2).f1.f0) ((rd_T147 l0_3 x5_2).f1.f1) ((rd_T147 l0_3 x5_2).f1.f2.f0) _ _ ((rd_T147 l0_3 x5_2).f1.f2.f1) _ _ ((rd_T147 l0_3 x5_2).f1.f2.f2) ((rd_T147 l0_3 x5_2).f1.f2.f3) true _ ?side1 ?side2 ?side3 ?side4 A42.out).mono ?_
           (case side1 => exact kcb)
           (case side2 => exact HC133_4.out)
           (case side3 => exact kcb)
           (case side4 => exact HC133_5.out)
           rintro e w47 ⟨rfl, hb⟩
           refine ⟨_, rfl, ?_⟩
           replace BK128 := Aside0.mk (blb BK128 hb)
           replace HB := Aside0.mk (below_step bel hb)
           (try clear hb)
           (try clear hb2)
           (try clear hk)
           (try clear hi)
           refine hK.out _ _ (cells_11 BK128.out ⟨(hxb HB hw133_0 :), (hxb HB hw133_1 :), (hxb HB hw133_2 :), (hxb HB hw133_3 :), (hxb HB hw133_4 :), (hxb HB hw133_5 :), (hxb HB hw133_6 :), (hxb HB hw135_0 :), (hxb HB hw135_1 :), (hxb HB hw135_2 :), (hxb HB hw135_3 :), (hxb HB hw135_4 :), (hxb HB hw135_5 :), (hxb HB hw135_6 :)⟩) (fun hHeld => ?_)
           clear hK K
           refine norm_ (a' := ?_) ?_ ?_
           rotate_left
           ·show Act.put _ (some 113) _ = _
            simp only [Act.put, List.setIfInBounds_toArray, List.set_cons_zero, List.set_cons_succ, i64_w, i32_w]
            rfl
           refine pv_ HT_ 6 (some 114) (tf 7 31) (h := ?_)
           refine pv_ HT_ 7 (some 115) (tf 8 30) (h := ?_)
           refine pv_ HT_ 8 (some 116) (tf 9 29) (h := ?_)
           refine pv_ HT_ 10 (some 118) (tb 38 1535) (h := ?_)
           refine pv_ HT_ 14 (some 122) (tb 38 17919) (h := ?_)
           refine tv_ HT_ HW_ hHeld 9 (some 117) (tb 38 18431) (h := ?_)
           refine pv_ HT_ 11 (some 119) (tb 38 20479) (h := ?_)
           refine pv_ HT_ 12 (some 120) (tb 38 24575) (h := ?_)
           refine tv_ HT_ HW_ hHeld 13 (some 121) (tf 15 23) (h := ?_)
           refine tv_ HT_ HW_ hHeld 15 (some 123) (tf 16 22) (h := ?_)
           refine pv_ HT_ 16 (some 124) (tf 17 21) (h := ?_)
           refine pv_ HT_ 17 (some 125) (tf 18 20) (h := ?_)
           refine pv_ HT_ 18 (some 126) (tf 19 19) (h := ?_)
           refine pu_ HT_ 19 (some 127) (tf 20 18) (h := ?_)
           refine pu_ HT_ 20 (some 128) (tf 21 17) (h := ?_)
           refine pu_ HT_ 21 (some 129) (tf 22 16) (h := ?_)
           refine pu_ HT_ 22 (some 130) (tf 23 15) (h := ?_)
           refine pu_ HT_ 23 (some 131) (tf 24 14) (h := ?_)
           refine pu_ HT_ 24 (some 132) (tf 25 13) (h := ?_)
           refine pu_ HT_ 25 (some 133) (tf 26 12) (h := ?_)
           refine pu_ HT_ 26 (some 134) (tf 27 11) (h := ?_)
           refine pu_ HT_ 27 (some 135) (tf 28 10) (h := ?_)
           refine pu_ HT_ 28 (some 136) (tf 29 9) (h := ?_)
           refine pu_ HT_ 29 (some 137) (tf 30 8) (h := ?_)
           refine pu_ HT_ 30 (some 138) (tf 31 7) (h := ?_)
           refine pu_ HT_ 31 (some 139) (tf 32 6) (h := ?_)
           refine pu_ HT_ 32 (some 140) (tf 33 5) (h := ?_)
           refine pu_ HT_ 33 (some 141) (tf 34 4) (h := ?_)
           refine pu_ HT_ 34 (some 142) (tf 35 3) (h := ?_)
           refine pu_ HT_ 35 (some 143) (tf 36 2) (h := ?_)
           refine pu_ HT_ 36 (some 144) (tf 37 1) (h := ?_)
           refine pv_ HT_ 37 (some 145) (tf 38 0) (h := ?_)
           refine done_ (done_of HT_.out (by kernel_rfl)) ?_
           try go_wp2
           go_ret
           exact ⟨by first | rfl | (simp [errW_none, errW_some] <;> rfl) | (simp [*, errW_none, errW_some] <;> rfl), by repeat (first | (with_reducible first | exact HB.out | apply below_alloc | apply pw_below_drewN | apply below_drew1 | refine below_set ?_ GE128.out) | exact HB.out)⟩
         ·rw [if_neg c44] at H
          have c44b0 : decide (a0_1 < ((rd_T147 l0_3 x5_2).f0)) = false := decide_eq_false c44
          clear c44
          by_cases c48 : x5_2 > 0
          ·rw [if_pos c48] at H
           have c48b0 : decide (0 < x5_2) = true := decide_eq_true c48
           clear c48
           obtain ⟨ji49, hji49⟩ : ∃ j_ : Int, (wrap64 (x5_2 - 1)) = j_ := ⟨_, rfl⟩
           replace H : (if 0 ≤ (ji49) then (if (ji49) < (l0_3.length : Int) then (if ((rd_T147 l0_3 (ji49)).f0) > ((rd_T147 l0_3 x5_2).f0) then (some false) else (spec_NodeOk.l0 k2 a1 (wrap64 (x5_2 + 1)) a0_0 a0_1 a0_2 l0_3 a0_4 a0_5 a0_6 a0_7 l0_8 l0_9 l0_10)) else (none)) else (none)) = some r := by first | (rw [hji49] at H; exact H) | (simp only [hji49] at H ⊢; exact H)
           (try rw [hji49] at A42)
           have hji49w : (IntKind.i64.wrap (x5_2 - 1)) = ji49 := (i64_w _).trans hji49
           by_cases c50 : 0 ≤ (ji49)
           ·rw [if_pos c50] at H
            have c50b0 : decide (0 ≤ (ji49)) = true := decide_eq_true c50
            clear c50
            by_cases c51 : (ji49) < (l0_3.length : Int)
            ·rw [if_pos c51] at H
             have c51b0 : decide ((ji49) < (l0_3.length : Int)) = true := decide_eq_true c51
             clear c51
             by_cases c52 : ((rd_T147 l0_3 (ji49)).f0) > ((rd_T147 l0_3 x5_2).f0)
             ·rw [if_pos c52] at H
              have c52b0 : decide (((rd_T147 l0_3 x5_2).f0) < ((rd_T147 l0_3 (ji49)).f0)) = true := decide_eq_true c52
              clear c52
              as_aux_lemma =>
               obtain rfl := Option.some.inj H
               obtain ⟨hcz53_0, hcz53_1, hcz53_2, hcz53_3, hcz53_4, hcz53_5, hcz53_6, hcz53_7, hcz53_8, hcz53_9, hcz53_10, -⟩ := cells_11 BK128.out trivial
               obtain ⟨hfz53_0, hfz53_1, hfz53_2, hfz53_3, hfz53_4, hfz53_5, hfz53_6, hfz53_7, hfz53_8, hfz53_9, hfz53_10, -⟩ := frz_11 BK128.out
               try go_wp2
               replace BK128 := Aside0.mk (blk_drew BK128.out)
               replace HB := Aside0.mk (below_drew1 HB.out)
               have p133 : 0 ≤ (x5_2 : Int) := od
               have q133 : x5_2 < (l0_3.length : Int) := od
               obtain ⟨ad133, A133_4, c133_4, A133_5, c133_5, e133, hx133_0, hx133_1, hx133_2, hx133_3, hx133_4, hx133_5, hx133_6, hl133_4, hi133_4, hl133_5, hi133_5⟩ := at_T147 HR0_3.out x5_2 p133 q133
               have hw133_6 := hx133_6
               have hw133_5 := hx133_5
               have hw133_4 := hx133_4
               have hw133_3 := hx133_3
               have hw133_2 := hx133_2
               have hw133_1 := hx133_1
               have hw133_0 := hx133_0
               cases e133
               replace hx133_0 := hxb HB hx133_0
               replace hx133_1 := hxb HB hx133_1
               replace hx133_2 := hxb HB hx133_2
               replace hx133_3 := hxb HB hx133_3
               replace hx133_4 := hxb HB hx133_4
               replace hx133_5 := hxb HB hx133_5
               replace hx133_6 := hxb HB hx133_6
               have HR133_4 := Aside0.mk hi133_4
               have HC133_4 := Aside0.mk hl133_4
               clear hi133_4 hl133_4
               have HR133_5 := Aside0.mk hi133_5
               have HC133_5 := Aside0.mk hl133_5
               clear hi133_5 hl133_5
               replace p133 := eq_true p133
               replace q133 := eq_true q133
               have p135 : 0 ≤ (x5_2 : Int) := od
               have q135 : x5_2 < (l0_3.length : Int) := od
               obtain ⟨ad135, A135_4, c135_4, A135_5, c135_5, e135, hx135_0, hx135_1, hx135_2, hx135_3, hx135_4, hx135_5, hx135_6, hl135_4, hi135_4, hl135_5, hi135_5⟩ := at_T147 HR0_3.out x5_2 p135 q135
               have hw135_6 := hx135_6
               have hw135_5 := hx135_5
               have hw135_4 := hx135_4
               have hw135_3 := hx135_3
               have hw135_2 := hx135_2
               have hw135_1 := hx135_1
               have hw135_0 := hx135_0
               obtain rfl : ad133 = ad135 := (by injection e135)
               replace hx135_0 := hxb HB hx135_0
               replace hx135_1 := hxb HB hx135_1
               replace hx135_2 := hxb HB hx135_2
               replace hx135_3 := hxb HB hx135_3
               replace hx135_4 := hxb HB hx135_4
               replace hx135_5 := hxb HB hx135_5
               replace hx135_6 := hxb HB hx135_6
               have HR135_4 := Aside0.mk hi135_4
               have HC135_4 := Aside0.mk hl135_4
               clear hi135_4 hl135_4
               have HR135_5 := Aside0.mk hi135_5
               have HC135_5 := Aside0.mk hl135_5
               clear hi135_5 hl135_5
               replace p135 := eq_true p135
               replace q135 := eq_true q135
               have p136 : 0 ≤ ((ji49) : Int) := od
               have q136 : (ji49) < (l0_3.length : Int) := od
               obtain ⟨ad136, A136_4, c136_4, A136_5, c136_5, e136, hx136_0, hx136_1, hx136_2, hx136_3, hx136_4, hx136_5, hx136_6, hl136_4, hi136_4, hl136_5, hi136_5⟩ := at_T147 HR0_3.out (ji49) p136 q136
               have hw136_6 := hx136_6
               have hw136_5 := hx136_5
               have hw136_4 := hx136_4
               have hw136_3 := hx136_3
               have hw136_2 := hx136_2
               have hw136_1 := hx136_1
               have hw136_0 := hx136_0
               obtain rfl : ad133 = ad136 := (by injection e136)
               replace hx136_0 := hxb HB hx136_0
               replace hx136_1 := hxb HB hx136_1
               replace hx136_2 := hxb HB hx136_2
               replace hx136_3 := hxb HB hx136_3
               replace hx136_4 := hxb HB hx136_4
               replace hx136_5 := hxb HB hx136_5
               replace hx136_6 := hxb HB hx136_6
               have HR136_4 := Aside0.mk hi136_4
               have HC136_4 := Aside0.mk hl136_4
               clear hi136_4 hl136_4
               have HR136_5 := Aside0.mk hi136_5
               have HC136_5 := Aside0.mk hl136_5
               clear hi136_5 hl136_5
               replace p136 := eq_true p136
               replace q136 := eq_true q136
               have p137 : 0 ≤ (x5_2 : Int) := od
               have q137 : x5_2 < (l0_3.length : Int) := od
               obtain ⟨ad137, A137_4, c137_4, A137_5, c137_5, e137, hx137_0, hx137_1, hx137_2, hx137_3, hx137_4, hx137_5, hx137_6, hl137_4, hi137_4, hl137_5, hi137_5⟩ := at_T147 HR0_3.out x5_2 p137 q137
               have hw137_6 := hx137_6
               have hw137_5 := hx137_5
               have hw137_4 := hx137_4
               have hw137_3 := hx137_3
               have hw137_2 := hx137_2
               have hw137_1 := hx137_1
               have hw137_0 := hx137_0
               obtain rfl : ad133 = ad137 := (by injection e137)
               replace hx137_0 := hxb HB hx137_0
               replace hx137_1 := hxb HB hx137_1
               replace hx137_2 := hxb HB hx137_2
               replace hx137_3 := hxb HB hx137_3
               replace hx137_4 := hxb HB hx137_4
               replace hx137_5 := hxb HB hx137_5
               replace hx137_6 := hxb HB hx137_6
               have HR137_4 := Aside0.mk hi137_4
               have HC137_4 := Aside0.mk hl137_4
               clear hi137_4 hl137_4
               have HR137_5 := Aside0.mk hi137_5
               have HC137_5 := Aside0.mk hl137_5
               clear hi137_5 hl137_5
               replace p137 := eq_true p137
               replace q137 := eq_true q137
               have ea_ := Option.some.inj (hx135_4.symm.trans hx137_4)
               injection ea_ with ea_ en_ ec_
               subst ea_
               subst ec_
               clear en_
               have ea_ := Option.some.inj (hx135_5.symm.trans hx137_5)
               injection ea_ with ea_ en_ ec_
               subst ea_
               subst ec_
               clear en_
               refine start_ (n := 38) (S := fun w' => w'.cell? ⟨gb128, 0, none⟩ = some (.int .i64 a0_0) ∧ w'.cell? ⟨gb128, 1, none⟩ = some (.int .i64 a0_1) ∧ w'.cell? ⟨gb128, 2, none⟩ = some (.int .i64 a0_2) ∧ w'.cell? ⟨gb128, 3, none⟩ = some (.slice (some ad133) l0_3.length c0_3) ∧ w'.cell? ⟨gb128, 4, none⟩ = some (.int .i64 a0_4) ∧ w'.cell? ⟨gb128, 5, none⟩ = some (.int .i64 a0_5) ∧ w'.cell? ⟨gb128, 6, none⟩ = some (.int .i64 a0_6) ∧ w'.cell? ⟨gb128, 7, none⟩ = some (.int .i64 a0_7) ∧ w'.cell? ⟨gb128, 8, none⟩ = some (.slice A0_8 l0_8.length c0_8) ∧ w'.cell? ⟨gb128, 9, none⟩ = some (.slice A0_9 l0_9.length c0_9) ∧ w'.cell? ⟨gb128, 10, none⟩ = some (.slice A0_10 l0_10.length c0_10) ∧ w'.cell? (ad133.add ((x5_2).toNat * 7)) = some (.int .i64 ((rd_T147 l0_3 x5_2).f0)) ∧ w'.cell? ⟨(ad133.add ((x5_2).toNat * 7)).block, (ad133.add ((x5_2).toNat * 7)).off + 1, none⟩ = some (.int .i64 ((rd_T147 l0_3 x5_2).f1.f0)) ∧ w'.cell? ⟨(ad133.add ((x5_2).toNat * 7)).block, (ad133.add ((x5_2).toNat * 7)).off + 2, none⟩ = some (.int .i64 ((rd_T147 l0_3 x5_2).f1.f1)) ∧ w'.cell? ⟨(ad133.add ((x5_2).toNat * 7)).block, (ad133.add ((x5_2).toNat * 7)).off + 3, none⟩ = some (.int .i64 ((rd_T147 l0_3 x5_2).f1.f2.f0)) ∧ w'.cell? ⟨(ad133.add ((x5_2).toNat * 7)).block, (ad133.add ((x5_2).toNat * 7)).off + 4, none⟩ = some (.slice A133_4 ((rd_T147 l0_3 x5_2).f1.f2.f1).length c133_4) ∧ w'.cell? ⟨(ad133.add ((x5_2).toNat * 7)).block, (ad133.add ((x5_2).toNat * 7)).off + 5, none⟩ = some (.slice A133_5 ((rd_T147 l0_3 x5_2).f1.f2.f2).length c133_5) ∧ w'.cell? ⟨(ad133.add ((x5_2).toNat * 7)).block, (ad133.add ((x5_2).toNat * 7)).off + 6, none⟩ = some (.int .i64 ((rd_T147 l0_3 x5_2).f1.f2.f3)) ∧ w'.cell? (ad133.add ((x5_2).toNat * 7)) = some (.int .i64 ((rd_T147 l0_3 x5_2).f0)) ∧ w'.cell? ⟨(ad133.add ((x5_2).toNat * 7)).block, (ad133.add ((x5_2).toNat * 7)).off + 1, none⟩ = some (.int .i64 ((rd_T147 l0_3 x5_2).f1.f0)) ∧ w'.cell? ⟨(ad133.add ((x5_2).toNat * 7)).block, (ad133.add ((x5_2).toNat * 7)).off + 2, none⟩ = some (.int .i64 ((rd_T147 l0_3 x5_2).f1.f1)) ∧ w'.cell? ⟨(ad133.add ((x5_2).toNat * 7)).block, (ad133.add ((x5_2).toNat * 7)).off + 3, none⟩ = some (.int .i64 ((rd_T147 l0_3 x5_2).f1.f2.f0)) ∧ w'.cell? ⟨(ad133.add ((x5_2).toNat * 7)).block, (ad133.add ((x5_2).toNat * 7)).off + 4, none⟩ = some (.slice A135_4 ((rd_T147 l0_3 x5_2).f1.f2.f1).length c135_4) ∧ w'.cell? ⟨(ad133.add ((x5_2).toNat * 7)).block, (ad133.add ((x5_2).toNat * 7)).off + 5, none⟩ = some (.slice A135_5 ((rd_T147 l0_3 x5_2).f1.f2.f2).length c135_5) ∧ w'.cell? ⟨(ad133.add ((x5_2).toNat * 7)).block, (ad133.add ((x5_2).toNat * 7)).off + 6, none⟩ = some (.int .i64 ((rd_T147 l0_3 x5_2).f1.f2.f3)) ∧ w'.cell? (ad133.add (((ji49)).toNat * 7)) = some (.int .i64 ((rd_T147 l0_3 (ji49)).f0)) ∧ w'.cell? ⟨(ad133.add (((ji49)).toNat * 7)).block, (ad133.add (((ji49)).toNat * 7)).off + 1, none⟩ = some (.int .i64 ((rd_T147 l0_3 (ji49)).f1.f0)) ∧ w'.cell? ⟨(ad133.add (((ji49)).toNat * 7)).block, (ad133.add (((ji49)).toNat * 7)).off + 2, none⟩ = some (.int .i64 ((rd_T147 l0_3 (ji49)).f1.f1)) ∧ w'.cell? ⟨(ad133.add (((ji49)).toNat * 7)).block, (ad133.add (((ji49)).toNat * 7)).off + 3, none⟩ = some (.int .i64 ((rd_T147 l0_3 (ji49)).f1.f2.f0)) ∧ w'.cell? ⟨(ad133.add (((ji49)).toNat * 7)).block, (ad133.add (((ji49)).toNat * 7)).off + 4, none⟩ = some (.slice A136_4 ((rd_T147 l0_3 (ji49)).f1.f2.f1).length c136_4) ∧ w'.cell? ⟨(ad133.add (((ji49)).toNat * 7)).block, (ad133.add (((ji49)).toNat * 7)).off + 5, none⟩ = some (.slice A136_5 ((rd_T147 l0_3 (ji49)).f1.f2.f2).length c136_5) ∧ w'.cell? ⟨(ad133.add (((ji49)).toNat * 7)).block, (ad133.add (((ji49)).toNat * 7)).off + 6, none⟩ = some (.int .i64 ((rd_T147 l0_3 (ji49)).f1.f2.f3)) ∧ w'.cell? (ad133.add ((x5_2).toNat * 7)) = some (.int .i64 ((rd_T147 l0_3 x5_2).f0)) ∧ w'.cell? ⟨(ad133.add ((x5_2).toNat * 7)).block, (ad133.add ((x5_2).toNat * 7)).off + 1, none⟩ = some (.int .i64 ((rd_T147 l0_3 x5_2).f1.f0)) ∧ w'.cell? ⟨(ad133.add ((x5_2).toNat * 7)).block, (ad133.add ((x5_2).toNat * 7)).off + 2, none⟩ = some (.int .i64 ((rd_T147 l0_3 x5_2).f1.f1)) ∧ w'.cell? ⟨(ad133.add ((x5_2).toNat * 7)).block, (ad133.add ((x5_2).toNat * 7)).off + 3, none⟩ = some (.int .i64 ((rd_T147 l0_3 x5_2).f1.f2.f0)) ∧ w'.cell? ⟨(ad133.add ((x5_2).toNat * 7)).block, (ad133.add ((x5_2).toNat * 7)).off + 4, none⟩ = some (.slice A135_4 ((rd_T147 l0_3 x5_2).f1.f2.f1).length c135_4) ∧ w'.cell? ⟨(ad133.add ((x5_2).toNat * 7)).block, (ad133.add ((x5_2).toNat * 7)).off + 5, none⟩ = some (.slice A135_5 ((rd_T147 l0_3 x5_2).f1.f2.f2).length c135_5) ∧ w'.cell? ⟨(ad133.add ((x5_2).toNat * 7)).block, (ad133.add ((x5_2).toNat * 7)).off + 6, none⟩ = some (.int .i64 ((rd_T147 l0_3 x5_2).f1.f2.f3))) (ds := []) (tf 0 38) (by kernel_rfl) rfl rfl (cells_11 BK128.out ⟨(hxb HB hw133_0 :), (hxb HB hw133_1 :), (hxb HB hw133_2 :), (hxb HB hw133_3 :), (hxb HB hw133_4 :), (hxb HB hw133_5 :), (hxb HB hw133_6 :), (hxb HB hw135_0 :), (hxb HB hw135_1 :), (hxb HB hw135_2 :), (hxb HB hw135_3 :), (hxb HB hw135_4 :), (hxb HB hw135_5 :), (hxb HB hw135_6 :), (hxb HB hw136_0 :), (hxb HB hw136_1 :), (hxb HB hw136_2 :), (hxb HB hw136_3 :), (hxb HB hw136_4 :), (hxb HB hw136_5 :), (hxb HB hw136_6 :), (hxb HB hw137_0 :), (hxb HB hw137_1 :), (hxb HB hw137_2 :), (hxb HB hw137_3 :), (hxb HB hw137_4 :), (hxb HB hw137_5 :), (hxb HB hw137_6 :)⟩) (fun hHeld => ?_); refine with_tabW spec_NodeOk.tab6 spec_NodeOk.bits6 (fun HT_ HW_ => ?_)
               generalize wr.drew = w54 at BK128 HB HR133_4 HR133_5 HR135_4 HR135_5 HR136_4 HR136_5 HR137_4 HR137_5 hx133_0 hx133_1 hx133_2 hx133_3 hx133_4 hx133_5 hx133_6 hx135_0 hx135_1 hx135_2 hx135_3 hx135_4 hx135_5 hx135_6 hx136_0 hx136_1 hx136_2 hx136_3 hx136_4 hx136_5 hx136_6 hx137_0 hx137_1 hx137_2 hx137_3 hx137_4 hx137_5 hx137_6 hHeld ⊢
               refine pv_ HT_ 0 (some 108) (tf 1 37) (h := ?_)
               refine pv_ HT_ 2 (some 110) (tb 38 5) (h := ?_)
               refine tv_ HT_ HW_ hHeld 1 (some 109) (tf 3 35) (h := ?_)
               refine pv_ HT_ 3 (some 111) (tf 4 34) (h := ?_)
               refine tv_ HT_ HW_ hHeld 4 (some 112) (tf 5 33) (h := ?_)
               refine one_ (i := 5) (N := some 113) (tf 6 32) rfl rfl (one_of HT_.out (by kernel_rfl)) (by decide) (fun K hK => ?_)
               refine gs_ Try.func110 #[.agg #[.int .i64 ((rd_T147 l0_3 x5_2).f0), .int .i64 ((rd_T147 l0_3 x5_2).f1.f0), .int .i64 ((rd_T147 l0_3 x5_2).f1.f1), .int .i64 ((rd_T147 l0_3 x5_2).f1.f2.f0), .slice A133_4 ((rd_T147 l0_3 x5_2).f1.f2.f1).length c133_4, .slice A133_5 ((rd_T147 l0_3 x5_2).f1.f2.f2).length c133_5, .int .i64 ((rd_T147 l0_3 x5_2).f1.f2.f3)]] (h := ?_)
               with_reducible refine (spec_ItemOk.calls k2 ((rd_T147 l0_3 x5_2).f0) ((rd_T147 l0_3 x5_2).f1.f0) ((rd_T147 l0_3 x5_2).f1.f1) ((rd_T147 l0_3 x5_2).f1.f2.f0) _ _ ((rd_T147 l0_3 x5_2).f1.f2.f1) _ _ ((rd_T147 l0_3 x5_2).f1.f2.f2) ((rd_T147 l0_3 x5_2).f1.f2.f3) true _ ?side1 ?side2 ?side3 ?side4 A42.out).mono ?_
               (case side1 => exact kcb)
               (case side2 => exact HC133_4.out)
               (case side3 => exact kcb)
               (case side4 => exact HC133_5.out)
               rintro e w55 ⟨rfl, hb⟩
               refine ⟨_, rfl, ?_⟩
               replace BK128 := Aside0.mk (blb BK128 hb)
               replace HB := Aside0.mk (below_step bel hb)
               (try clear hb)
               (try clear hb2)
               (try clear hk)
               (try clear hi)
               refine hK.out _ _ (cells_11 BK128.out ⟨(hxb HB hw133_0 :), (hxb HB hw133_1 :), (hxb HB hw133_2 :), (hxb HB hw133_3 :), (hxb HB hw133_4 :), (hxb HB hw133_5 :), (hxb HB hw133_6 :), (hxb HB hw135_0 :), (hxb HB hw135_1 :), (hxb HB hw135_2 :), (hxb HB hw135_3 :), (hxb HB hw135_4 :), (hxb HB hw135_5 :), (hxb HB hw135_6 :), (hxb HB hw136_0 :), (hxb HB hw136_1 :), (hxb HB hw136_2 :), (hxb HB hw136_3 :), (hxb HB hw136_4 :), (hxb HB hw136_5 :), (hxb HB hw136_6 :), (hxb HB hw137_0 :), (hxb HB hw137_1 :), (hxb HB hw137_2 :), (hxb HB hw137_3 :), (hxb HB hw137_4 :), (hxb HB hw137_5 :), (hxb HB hw137_6 :)⟩) (fun hHeld => ?_)
               clear hK K
               refine norm_ (a' := ?_) ?_ ?_
               rotate_left
               ·show Act.put _ (some 113) _ = _
                simp only [Act.put, List.setIfInBounds_toArray, List.set_cons_zero, List.set_cons_succ, i64_w, i32_w]
                rfl
               refine pv_ HT_ 6 (some 114) (tf 7 31) (h := ?_)
               refine pv_ HT_ 7 (some 115) (tf 8 30) (h := ?_)
               refine pv_ HT_ 8 (some 116) (tf 9 29) (h := ?_)
               refine pv_ HT_ 10 (some 118) (tb 38 1535) (h := ?_)
               refine pv_ HT_ 14 (some 122) (tb 38 17919) (h := ?_)
               refine tv_ HT_ HW_ hHeld 9 (some 117) (tb 38 18431) (h := ?_)
               refine pv_ HT_ 11 (some 119) (tb 38 20479) (h := ?_)
               refine pv_ HT_ 12 (some 120) (tb 38 24575) (h := ?_)
               refine tv_ HT_ HW_ hHeld 13 (some 121) (tf 15 23) (h := ?_)
               refine tv_ HT_ HW_ hHeld 15 (some 123) (tf 16 22) (h := ?_)
               refine pv_ HT_ 16 (some 124) (tf 17 21) (h := ?_)
               refine pv_ HT_ 17 (some 125) (tf 18 20) (h := ?_)
               refine pv_ HT_ 18 (some 126) (tf 19 19) (h := ?_)
               refine pv_ HT_ 19 (some 127) (tf 20 18) (h := ?_)
               refine pv_ HT_ 20 (some 128) (tf 21 17) (h := ?_)
               refine pv_ HT_ 21 (some 129) (tf 22 16) (h := ?_)
               refine pv_ HT_ 22 (some 130) (tf 23 15) (h := ?_)
               refine pv_ HT_ 24 (some 132) (tb 38 25165823) (h := ?_)
               refine pv_ HT_ 25 (some 133) (tb 38 58720255) (h := ?_)
               refine pv_ HT_ 29 (some 137) (tb 38 595591167) (h := ?_)
               refine pv_ HT_ 31 (some 139) (tb 38 2743074815) (h := ?_)
               refine tv_ HT_ HW_ hHeld 23 (some 131) (tb 38 2751463423) (h := ?_)
               refine pv_ HT_ 26 (some 134) (tb 38 2818572287) (h := ?_)
               refine pv_ HT_ 27 (some 135) (tb 38 2952790015) (h := ?_)
               refine tv_ HT_ HW_ hHeld 28 (some 136) (tb 38 3221225471) (h := ?_)
               refine tv_ HT_ HW_ hHeld 30 (some 138) (tf 32 6) (h := ?_)
               refine pv_ HT_ 32 (some 140) (tf 33 5) (h := ?_)
               refine pv_ HT_ 33 (some 141) (tf 34 4) (h := ?_)
               refine tv_ HT_ HW_ hHeld 34 (some 142) (tf 35 3) (h := ?_)
               refine pv_ HT_ 35 (some 143) (tf 36 2) (h := ?_)
               refine pv_ HT_ 36 (some 144) (tf 37 1) (h := ?_)
               refine pv_ HT_ 37 (some 145) (tf 38 0) (h := ?_)
               refine done_ (done_of HT_.out (by kernel_rfl)) ?_
               try go_wp2
               go_ret
               exact ⟨by first | rfl | (simp [errW_none, errW_some] <;> rfl) | (simp only [← hji49]; first | rfl | (simp [errW_none, errW_some] <;> rfl)) | (simp [*, errW_none, errW_some] <;> rfl), by repeat (first | (with_reducible first | exact HB.out | apply below_alloc | apply pw_below_drewN | apply below_drew1 | refine below_set ?_ GE128.out) | exact HB.out)⟩
             ·rw [if_neg c52] at H
              have c52b0 : decide (((rd_T147 l0_3 x5_2).f0) < ((rd_T147 l0_3 (ji49)).f0)) = false := decide_eq_false c52
              clear c52
              as_aux_lemma =>
               have H' := Aside0.mk H
               clear H
               obtain ⟨hcz56_0, hcz56_1, hcz56_2, hcz56_3, hcz56_4, hcz56_5, hcz56_6, hcz56_7, hcz56_8, hcz56_9, hcz56_10, -⟩ := cells_11 BK128.out trivial
               obtain ⟨hfz56_0, hfz56_1, hfz56_2, hfz56_3, hfz56_4, hfz56_5, hfz56_6, hfz56_7, hfz56_8, hfz56_9, hfz56_10, -⟩ := frz_11 BK128.out
               try go_wp2
               replace BK128 := Aside0.mk (blk_drew BK128.out)
               replace HB := Aside0.mk (below_drew1 HB.out)
               have p133 : 0 ≤ (x5_2 : Int) := od
               have q133 : x5_2 < (l0_3.length : Int) := od
               obtain ⟨ad133, A133_4, c133_4, A133_5, c133_5, e133, hx133_0, hx133_1, hx133_2, hx133_3, hx133_4, hx133_5, hx133_6, hl133_4, hi133_4, hl133_5, hi133_5⟩ := at_T147 HR0_3.out x5_2 p133 q133
               have hw133_6 := hx133_6
               have hw133_5 := hx133_5
               have hw133_4 := hx133_4
               have hw133_3 := hx133_3
               have hw133_2 := hx133_2
               have hw133_1 := hx133_1
               have hw133_0 := hx133_0
               cases e133
               replace hx133_0 := hxb HB hx133_0
               replace hx133_1 := hxb HB hx133_1
               replace hx133_2 := hxb HB hx133_2
               replace hx133_3 := hxb HB hx133_3
               replace hx133_4 := hxb HB hx133_4
               replace hx133_5 := hxb HB hx133_5
               replace hx133_6 := hxb HB hx133_6
               have HR133_4 := Aside0.mk hi133_4
               have HC133_4 := Aside0.mk hl133_4
               clear hi133_4 hl133_4
               have HR133_5 := Aside0.mk hi133_5
               have HC133_5 := Aside0.mk hl133_5
               clear hi133_5 hl133_5
               replace p133 := eq_true p133
               replace q133 := eq_true q133
               have p135 : 0 ≤ (x5_2 : Int) := od
               have q135 : x5_2 < (l0_3.length : Int) := od
               obtain ⟨ad135, A135_4, c135_4, A135_5, c135_5, e135, hx135_0, hx135_1, hx135_2, hx135_3, hx135_4, hx135_5, hx135_6, hl135_4, hi135_4, hl135_5, hi135_5⟩ := at_T147 HR0_3.out x5_2 p135 q135
               have hw135_6 := hx135_6
               have hw135_5 := hx135_5
               have hw135_4 := hx135_4
               have hw135_3 := hx135_3
               have hw135_2 := hx135_2
               have hw135_1 := hx135_1
               have hw135_0 := hx135_0
               obtain rfl : ad133 = ad135 := (by injection e135)
               replace hx135_0 := hxb HB hx135_0
               replace hx135_1 := hxb HB hx135_1
               replace hx135_2 := hxb HB hx135_2
               replace hx135_3 := hxb HB hx135_3
               replace hx135_4 := hxb HB hx135_4
               replace hx135_5 := hxb HB hx135_5
               replace hx135_6 := hxb HB hx135_6
               have HR135_4 := Aside0.mk hi135_4
               have HC135_4 := Aside0.mk hl135_4
               clear hi135_4 hl135_4
               have HR135_5 := Aside0.mk hi135_5
               have HC135_5 := Aside0.mk hl135_5
               clear hi135_5 hl135_5
               replace p135 := eq_true p135
               replace q135 := eq_true q135
               have p136 : 0 ≤ ((ji49) : Int) := od
               have q136 : (ji49) < (l0_3.length : Int) := od
               obtain ⟨ad136, A136_4, c136_4, A136_5, c136_5, e136, hx136_0, hx136_1, hx136_2, hx136_3, hx136_4, hx136_5, hx136_6, hl136_4, hi136_4, hl136_5, hi136_5⟩ := at_T147 HR0_3.out (ji49) p136 q136
               have hw136_6 := hx136_6
               have hw136_5 := hx136_5
               have hw136_4 := hx136_4
               have hw136_3 := hx136_3
               have hw136_2 := hx136_2
               have hw136_1 := hx136_1
               have hw136_0 := hx136_0
               obtain rfl : ad133 = ad136 := (by injection e136)
               replace hx136_0 := hxb HB hx136_0
               replace hx136_1 := hxb HB hx136_1
               replace hx136_2 := hxb HB hx136_2
               replace hx136_3 := hxb HB hx136_3
               replace hx136_4 := hxb HB hx136_4
               replace hx136_5 := hxb HB hx136_5
               replace hx136_6 := hxb HB hx136_6
               have HR136_4 := Aside0.mk hi136_4
               have HC136_4 := Aside0.mk hl136_4
               clear hi136_4 hl136_4
               have HR136_5 := Aside0.mk hi136_5
               have HC136_5 := Aside0.mk hl136_5
               clear hi136_5 hl136_5
               replace p136 := eq_true p136
               replace q136 := eq_true q136
               have p137 : 0 ≤ (x5_2 : Int) := od
               have q137 : x5_2 < (l0_3.length : Int) := od
               obtain ⟨ad137, A137_4, c137_4, A137_5, c137_5, e137, hx137_0, hx137_1, hx137_2, hx137_3, hx137_4, hx137_5, hx137_6, hl137_4, hi137_4, hl137_5, hi137_5⟩ := at_T147 HR0_3.out x5_2 p137 q137
               have hw137_6 := hx137_6
               have hw137_5 := hx137_5
               have hw137_4 := hx137_4
               have hw137_3 := hx137_3
               have hw137_2 := hx137_2
               have hw137_1 := hx137_1
               have hw137_0 := hx137_0
               obtain rfl : ad133 = ad137 := (by injection e137)
               replace hx137_0 := hxb HB hx137_0
               replace hx137_1 := hxb HB hx137_1
               replace hx137_2 := hxb HB hx137_2
               replace hx137_3 := hxb HB hx137_3
               replace hx137_4 := hxb HB hx137_4
               replace hx137_5 := hxb HB hx137_5
               replace hx137_6 := hxb HB hx137_6
               have HR137_4 := Aside0.mk hi137_4
               have HC137_4 := Aside0.mk hl137_4
               clear hi137_4 hl137_4
               have HR137_5 := Aside0.mk hi137_5
               have HC137_5 := Aside0.mk hl137_5
               clear hi137_5 hl137_5
               replace p137 := eq_true p137
               replace q137 := eq_true q137
               have ea_ := Option.some.inj (hx135_4.symm.trans hx137_4)
               injection ea_ with ea_ en_ ec_
               subst ea_
               subst ec_
               clear en_
               have ea_ := Option.some.inj (hx135_5.symm.trans hx137_5)
               injection ea_ with ea_ en_ ec_
               subst ea_
               subst ec_
               clear en_
               refine start_ (n := 38) (S := fun w' => w'.cell? ⟨gb128, 0, none⟩ = some (.int .i64 a0_0) ∧ w'.cell? ⟨gb128, 1, none⟩ = some (.int .i64 a0_1) ∧ w'.cell? ⟨gb128, 2, none⟩ = some (.int .i64 a0_2) ∧ w'.cell? ⟨gb128, 3, none⟩ = some (.slice (some ad133) l0_3.length c0_3) ∧ w'.cell? ⟨gb128, 4, none⟩ = some (.int .i64 a0_4) ∧ w'.cell? ⟨gb128, 5, none⟩ = some (.int .i64 a0_5) ∧ w'.cell? ⟨gb128, 6, none⟩ = some (.int .i64 a0_6) ∧ w'.cell? ⟨gb128, 7, none⟩ = some (.int .i64 a0_7) ∧ w'.cell? ⟨gb128, 8, none⟩ = some (.slice A0_8 l0_8.length c0_8) ∧ w'.cell? ⟨gb128, 9, none⟩ = some (.slice A0_9 l0_9.length c0_9) ∧ w'.cell? ⟨gb128, 10, none⟩ = some (.slice A0_10 l0_10.length c0_10) ∧ w'.cell? (ad133.add ((x5_2).toNat * 7)) = some (.int .i64 ((rd_T147 l0_3 x5_2).f0)) ∧ w'.cell? ⟨(ad133.add ((x5_2).toNat * 7)).block, (ad133.add ((x5_2).toNat * 7)).off + 1, none⟩ = some (.int .i64 ((rd_T147 l0_3 x5_2).f1.f0)) ∧ w'.cell? ⟨(ad133.add ((x5_2).toNat * 7)).block, (ad133.add ((x5_2).toNat * 7)).off + 2, none⟩ = some (.int .i64 ((rd_T147 l0_3 x5_2).f1.f1)) ∧ w'.cell? ⟨(ad133.add ((x5_2).toNat * 7)).block, (ad133.add ((x5_2).toNat * 7)).off + 3, none⟩ = some (.int .i64 ((rd_T147 l0_3 x5_2).f1.f2.f0)) ∧ w'.cell? ⟨(ad133.add ((x5_2).toNat * 7)).block, (ad133.add ((x5_2).toNat * 7)).off + 4, none⟩ = some (.slice A133_4 ((rd_T147 l0_3 x5_2).f1.f2.f1).length c133_4) ∧ w'.cell? ⟨(ad133.add ((x5_2).toNat * 7)).block, (ad133.add ((x5_2).toNat * 7)).off + 5, none⟩ = some (.slice A133_5 ((rd_T147 l0_3 x5_2).f1.f2.f2).length c133_5) ∧ w'.cell? ⟨(ad133.add ((x5_2).toNat * 7)).block, (ad133.add ((x5_2).toNat * 7)).off + 6, none⟩ = some (.int .i64 ((rd_T147 l0_3 x5_2).f1.f2.f3)) ∧ w'.cell? (ad133.add ((x5_2).toNat * 7)) = some (.int .i64 ((rd_T147 l0_3 x5_2).f0)) ∧ w'.cell? ⟨(ad133.add ((x5_2).toNat * 7)).block, (ad133.add ((x5_2).toNat * 7)).off + 1, none⟩ = some (.int .i64 ((rd_T147 l0_3 x5_2).f1.f0)) ∧ w'.cell? ⟨(ad133.add ((x5_2).toNat * 7)).block, (ad133.add ((x5_2).toNat * 7)).off + 2, none⟩ = some (.int .i64 ((rd_T147 l0_3 x5_2).f1.f1)) ∧ w'.cell? ⟨(ad133.add ((x5_2).toNat * 7)).block, (ad133.add ((x5_2).toNat * 7)).off + 3, none⟩ = some (.int .i64 ((rd_T147 l0_3 x5_2).f1.f2.f0)) ∧ w'.cell? ⟨(ad133.add ((x5_2).toNat * 7)).block, (ad133.add ((x5_2).toNat * 7)).off + 4, none⟩ = some (.slice A135_4 ((rd_T147 l0_3 x5_2).f1.f2.f1).length c135_4) ∧ w'.cell? ⟨(ad133.add ((x5_2).toNat * 7)).block, (ad133.add ((x5_2).toNat * 7)).off + 5, none⟩ = some (.slice A135_5 ((rd_T147 l0_3 x5_2).f1.f2.f2).length c135_5) ∧ w'.cell? ⟨(ad133.add ((x5_2).toNat * 7)).block, (ad133.add ((x5_2).toNat * 7)).off + 6, none⟩ = some (.int .i64 ((rd_T147 l0_3 x5_2).f1.f2.f3)) ∧ w'.cell? (ad133.add (((ji49)).toNat * 7)) = some (.int .i64 ((rd_T147 l0_3 (ji49)).f0)) ∧ w'.cell? ⟨(ad133.add (((ji49)).toNat * 7)).block, (ad133.add (((ji49)).toNat * 7)).off + 1, none⟩ = some (.int .i64 ((rd_T147 l0_3 (ji49)).f1.f0)) ∧ w'.cell? ⟨(ad133.add (((ji49)).toNat * 7)).block, (ad133.add (((ji49)).toNat * 7)).off + 2, none⟩ = some (.int .i64 ((rd_T147 l0_3 (ji49)).f1.f1)) ∧ w'.cell? ⟨(ad133.add (((ji49)).toNat * 7)).block, (ad133.add (((ji49)).toNat * 7)).off + 3, none⟩ = some (.int .i64 ((rd_T147 l0_3 (ji49)).f1.f2.f0)) ∧ w'.cell? ⟨(ad133.add (((ji49)).toNat * 7)).block, (ad133.add (((ji49)).toNat * 7)).off + 4, none⟩ = some (.slice A136_4 ((rd_T147 l0_3 (ji49)).f1.f2.f1).length c136_4) ∧ w'.cell? ⟨(ad133.add (((ji49)).toNat * 7)).block, (ad133.add (((ji49)).toNat * 7)).off + 5, none⟩ = some (.slice A136_5 ((rd_T147 l0_3 (ji49)).f1.f2.f2).length c136_5) ∧ w'.cell? ⟨(ad133.add (((ji49)).toNat * 7)).block, (ad133.add (((ji49)).toNat * 7)).off + 6, none⟩ = some (.int .i64 ((rd_T147 l0_3 (ji49)).f1.f2.f3)) ∧ w'.cell? (ad133.add ((x5_2).toNat * 7)) = some (.int .i64 ((rd_T147 l0_3 x5_2).f0)) ∧ w'.cell? ⟨(ad133.add ((x5_2).toNat * 7)).block, (ad133.add ((x5_2).toNat * 7)).off + 1, none⟩ = some (.int .i64 ((rd_T147 l0_3 x5_2).f1.f0)) ∧ w'.cell? ⟨(ad133.add ((x5_2).toNat * 7)).block, (ad133.add ((x5_2).toNat * 7)).off + 2, none⟩ = some (.int .i64 ((rd_T147 l0_3 x5_2).f1.f1)) ∧ w'.cell? ⟨(ad133.add ((x5_2).toNat * 7)).block, (ad133.add ((x5_2).toNat * 7)).off + 3, none⟩ = some (.int .i64 ((rd_T147 l0_3 x5_2).f1.f2.f0)) ∧ w'.cell? ⟨(ad133.add ((x5_2).toNat * 7)).block, (ad133.add ((x5_2).toNat * 7)).off + 4, none⟩ = some (.slice A135_4 ((rd_T147 l0_3 x5_2).f1.f2.f1).length c135_4) ∧ w'.cell? ⟨(ad133.add ((x5_2).toNat * 7)).block, (ad133.add ((x5_2).toNat * 7)).off + 5, none⟩ = some (.slice A135_5 ((rd_T147 l0_3 x5_2).f1.f2.f2).length c135_5) ∧ w'.cell? ⟨(ad133.add ((x5_2).toNat * 7)).block, (ad133.add ((x5_2).toNat * 7)).off + 6, none⟩ = some (.int .i64 ((rd_T147 l0_3 x5_2).f1.f2.f3))) (ds := []) (tf 0 38) (by kernel_rfl) rfl rfl (cells_11 BK128.out ⟨(hxb HB hw133_0 :), (hxb HB hw133_1 :), (hxb HB hw133_2 :), (hxb HB hw133_3 :), (hxb HB hw133_4 :), (hxb HB hw133_5 :), (hxb HB hw133_6 :), (hxb HB hw135_0 :), (hxb HB hw135_1 :), (hxb HB hw135_2 :), (hxb HB hw135_3 :), (hxb HB hw135_4 :), (hxb HB hw135_5 :), (hxb HB hw135_6 :), (hxb HB hw136_0 :), (hxb HB hw136_1 :), (hxb HB hw136_2 :), (hxb HB hw136_3 :), (hxb HB hw136_4 :), (hxb HB hw136_5 :), (hxb HB hw136_6 :), (hxb HB hw137_0 :), (hxb HB hw137_1 :), (hxb HB hw137_2 :), (hxb HB hw137_3 :), (hxb HB hw137_4 :), (hxb HB hw137_5 :), (hxb HB hw137_6 :)⟩) (fun hHeld => ?_); refine with_tabW spec_NodeOk.tab6 spec_NodeOk.bits6 (fun HT_ HW_ => ?_)
               generalize wr.drew = w57 at BK128 HB HR133_4 HR133_5 HR135_4 HR135_5 HR136_4 HR136_5 HR137_4 HR137_5 hx133_0 hx133_1 hx133_2 hx133_3 hx133_4 hx133_5 hx133_6 hx135_0 hx135_1 hx135_2 hx135_3 hx135_4 hx135_5 hx135_6 hx136_0 hx136_1 hx136_2 hx136_3 hx136_4 hx136_5 hx136_6 hx137_0 hx137_1 hx137_2 hx137_3 hx137_4 hx137_5 hx137_6 hHeld ⊢
               refine pv_ HT_ 0 (some 108) (tf 1 37) (h := ?_)
               refine pv_ HT_ 2 (some 110) (tb 38 5) (h := ?_)
               refine tv_ HT_ HW_ hHeld 1 (some 109) (tf 3 35) (h := ?_)
               refine pv_ HT_ 3 (some 111) (tf 4 34) (h := ?_)
               refine tv_ HT_ HW_ hHeld 4 (some 112) (tf 5 33) (h := ?_)
               refine one_ (i := 5) (N := some 113) (tf 6 32) rfl rfl (one_of HT_.out (by kernel_rfl)) (by decide) (fun K hK => ?_)
               refine gs_ Try.func110 #[.agg #[.int .i64 ((rd_T147 l0_3 x5_2).f0), .int .i64 ((rd_T147 l0_3 x5_2).f1.f0), .int .i64 ((rd_T147 l0_3 x5_2).f1.f1), .int .i64 ((rd_T147 l0_3 x5_2).f1.f2.f0), .slice A133_4 ((rd_T147 l0_3 x5_2).f1.f2.f1).length c133_4, .slice A133_5 ((rd_T147 l0_3 x5_2).f1.f2.f2).length c133_5, .int .i64 ((rd_T147 l0_3 x5_2).f1.f2.f3)]] (h := ?_)
               with_reducible refine (spec_ItemOk.calls k2 ((rd_T147 l0_3 x5_2).f0) ((rd_T147 l0_3 x5_2).f1.f0) ((rd_T147 l0_3 x5_2).f1.f1) ((rd_T147 l0_3 x5_2).f1.f2.f0) _ _ ((rd_T147 l0_3 x5_2).f1.f2.f1) _ _ ((rd_T147 l0_3 x5_2).f1.f2.f2) ((rd_T147 l0_3 x5_2).f1.f2.f3) true _ ?side1 ?side2 ?side3 ?side4 A42.out).mono ?_
               (case side1 => exact kcb)
               (case side2 => exact HC133_4.out)
               (case side3 => exact kcb)
               (case side4 => exact HC133_5.out)
               rintro e w58 ⟨rfl, hb⟩
               refine ⟨_, rfl, ?_⟩
               replace BK128 := Aside0.mk (blb BK128 hb)
               replace HB := Aside0.mk (below_step bel hb)
               (try clear hb)
               (try clear hb2)
               (try clear hk)
               (try clear hi)
               refine hK.out _ _ (cells_11 BK128.out ⟨(hxb HB hw133_0 :), (hxb HB hw133_1 :), (hxb HB hw133_2 :), (hxb HB hw133_3 :), (hxb HB hw133_4 :), (hxb HB hw133_5 :), (hxb HB hw133_6 :), (hxb HB hw135_0 :), (hxb HB hw135_1 :), (hxb HB hw135_2 :), (hxb HB hw135_3 :), (hxb HB hw135_4 :), (hxb HB hw135_5 :), (hxb HB hw135_6 :), (hxb HB hw136_0 :), (hxb HB hw136_1 :), (hxb HB hw136_2 :), (hxb HB hw136_3 :), (hxb HB hw136_4 :), (hxb HB hw136_5 :), (hxb HB hw136_6 :), (hxb HB hw137_0 :), (hxb HB hw137_1 :), (hxb HB hw137_2 :), (hxb HB hw137_3 :), (hxb HB hw137_4 :), (hxb HB hw137_5 :), (hxb HB hw137_6 :)⟩) (fun hHeld => ?_)
               clear hK K
               refine norm_ (a' := ?_) ?_ ?_
               rotate_left
               ·show Act.put _ (some 113) _ = _
                simp only [Act.put, List.setIfInBounds_toArray, List.set_cons_zero, List.set_cons_succ, i64_w, i32_w]
                rfl
               refine pv_ HT_ 6 (some 114) (tf 7 31) (h := ?_)
               refine pv_ HT_ 7 (some 115) (tf 8 30) (h := ?_)
               refine pv_ HT_ 8 (some 116) (tf 9 29) (h := ?_)
               refine pv_ HT_ 10 (some 118) (tb 38 1535) (h := ?_)
               refine pv_ HT_ 14 (some 122) (tb 38 17919) (h := ?_)
               refine tv_ HT_ HW_ hHeld 9 (some 117) (tb 38 18431) (h := ?_)
               refine pv_ HT_ 11 (some 119) (tb 38 20479) (h := ?_)
               refine pv_ HT_ 12 (some 120) (tb 38 24575) (h := ?_)
               refine tv_ HT_ HW_ hHeld 13 (some 121) (tf 15 23) (h := ?_)
               refine tv_ HT_ HW_ hHeld 15 (some 123) (tf 16 22) (h := ?_)
               refine pv_ HT_ 16 (some 124) (tf 17 21) (h := ?_)
               refine pv_ HT_ 17 (some 125) (tf 18 20) (h := ?_)
               refine pv_ HT_ 18 (some 126) (tf 19 19) (h := ?_)
               refine pv_ HT_ 19 (some 127) (tf 20 18) (h := ?_)
               refine pv_ HT_ 20 (some 128) (tf 21 17) (h := ?_)
               refine pv_ HT_ 21 (some 129) (tf 22 16) (h := ?_)
               refine pv_ HT_ 22 (some 130) (tf 23 15) (h := ?_)
               refine pv_ HT_ 24 (some 132) (tb 38 25165823) (h := ?_)
               refine pv_ HT_ 25 (some 133) (tb 38 58720255) (h := ?_)
               refine pv_ HT_ 29 (some 137) (tb 38 595591167) (h := ?_)
               refine pv_ HT_ 31 (some 139) (tb 38 2743074815) (h := ?_)
               refine tv_ HT_ HW_ hHeld 23 (some 131) (tb 38 2751463423) (h := ?_)
               refine pv_ HT_ 26 (some 134) (tb 38 2818572287) (h := ?_)
               refine pv_ HT_ 27 (some 135) (tb 38 2952790015) (h := ?_)
               refine tv_ HT_ HW_ hHeld 28 (some 136) (tb 38 3221225471) (h := ?_)
               refine tv_ HT_ HW_ hHeld 30 (some 138) (tf 32 6) (h := ?_)
               refine pv_ HT_ 32 (some 140) (tf 33 5) (h := ?_)
               refine pv_ HT_ 33 (some 141) (tf 34 4) (h := ?_)
               refine tv_ HT_ HW_ hHeld 34 (some 142) (tf 35 3) (h := ?_)
               refine pv_ HT_ 35 (some 143) (tf 36 2) (h := ?_)
               refine pv_ HT_ 36 (some 144) (tf 37 1) (h := ?_)
               refine pv_ HT_ 37 (some 145) (tf 38 0) (h := ?_)
               refine done_ (done_of HT_.out (by kernel_rfl)) ?_
               try go_wp2
               go_roundg k2
               case measure => have := HJ2.out; have := HK2.out; omega
               case rel => exact ⟨(wrap64 (x5_2 + 1)), (by first | rfl | (simp; done) | (simp [*]; done)), H', ⟨by have := HJ2.out; have := HK2.out; omega⟩, ⟨by (with_reducible repeat (first | refine blk_drewN ?_ _ | refine blk_drew ?_ | refine blk_alloc ?_ _)); exact BK128.out⟩, ⟨by repeat (first | (with_reducible first | exact HB.out | apply below_alloc | apply pw_below_drewN | apply below_drew1 | refine below_set ?_ GE128.out) | exact HB.out)⟩⟩
            ·rw [if_neg c51] at H
             exact absurd H (by simp)
           ·rw [if_neg c50] at H
            exact absurd H (by simp)
          ·rw [if_neg c48] at H
           have c48b0 : decide (0 < x5_2) = false := decide_eq_false c48
           clear c48
           as_aux_lemma =>
            have H' := Aside0.mk H
            clear H
            obtain ⟨hcz59_0, hcz59_1, hcz59_2, hcz59_3, hcz59_4, hcz59_5, hcz59_6, hcz59_7, hcz59_8, hcz59_9, hcz59_10, -⟩ := cells_11 BK128.out trivial
            obtain ⟨hfz59_0, hfz59_1, hfz59_2, hfz59_3, hfz59_4, hfz59_5, hfz59_6, hfz59_7, hfz59_8, hfz59_9, hfz59_10, -⟩ := frz_11 BK128.out
            try go_wp2
            replace BK128 := Aside0.mk (blk_drew BK128.out)
            replace HB := Aside0.mk (below_drew1 HB.out)
            have p133 : 0 ≤ (x5_2 : Int) := od
            have q133 : x5_2 < (l0_3.length : Int) := od
            obtain ⟨ad133, A133_4, c133_4, A133_5, c133_5, e133, hx133_0, hx133_1, hx133_2, hx133_3, hx133_4, hx133_5, hx133_6, hl133_4, hi133_4, hl133_5, hi133_5⟩ := at_T147 HR0_3.out x5_2 p133 q133
            have hw133_6 := hx133_6
            have hw133_5 := hx133_5
            have hw133_4 := hx133_4
            have hw133_3 := hx133_3
            have hw133_2 := hx133_2
            have hw133_1 := hx133_1
            have hw133_0 := hx133_0
            cases e133
            replace hx133_0 := hxb HB hx133_0
            replace hx133_1 := hxb HB hx133_1
            replace hx133_2 := hxb HB hx133_2
            replace hx133_3 := hxb HB hx133_3
            replace hx133_4 := hxb HB hx133_4
            replace hx133_5 := hxb HB hx133_5
            replace hx133_6 := hxb HB hx133_6
            have HR133_4 := Aside0.mk hi133_4
            have HC133_4 := Aside0.mk hl133_4
            clear hi133_4 hl133_4
            have HR133_5 := Aside0.mk hi133_5
            have HC133_5 := Aside0.mk hl133_5
            clear hi133_5 hl133_5
            replace p133 := eq_true p133
            replace q133 := eq_true q133
            have p135 : 0 ≤ (x5_2 : Int) := od
            have q135 : x5_2 < (l0_3.length : Int) := od
            obtain ⟨ad135, A135_4, c135_4, A135_5, c135_5, e135, hx135_0, hx135_1, hx135_2, hx135_3, hx135_4, hx135_5, hx135_6, hl135_4, hi135_4, hl135_5, hi135_5⟩ := at_T147 HR0_3.out x5_2 p135 q135
            have hw135_6 := hx135_6
            have hw135_5 := hx135_5
            have hw135_4 := hx135_4
            have hw135_3 := hx135_3
            have hw135_2 := hx135_2
            have hw135_1 := hx135_1
            have hw135_0 := hx135_0
            obtain rfl : ad133 = ad135 := (by injection e135)
            replace hx135_0 := hxb HB hx135_0
            replace hx135_1 := hxb HB hx135_1
            replace hx135_2 := hxb HB hx135_2
            replace hx135_3 := hxb HB hx135_3
            replace hx135_4 := hxb HB hx135_4
            replace hx135_5 := hxb HB hx135_5
            replace hx135_6 := hxb HB hx135_6
            have HR135_4 := Aside0.mk hi135_4
            have HC135_4 := Aside0.mk hl135_4
            clear hi135_4 hl135_4
            have HR135_5 := Aside0.mk hi135_5
            have HC135_5 := Aside0.mk hl135_5
            clear hi135_5 hl135_5
            replace p135 := eq_true p135
            replace q135 := eq_true q135
            refine start_ (n := 38) (S := fun w' => w'.cell? ⟨gb128, 0, none⟩ = some (.int .i64 a0_0) ∧ w'.cell? ⟨gb128, 1, none⟩ = some (.int .i64 a0_1) ∧ w'.cell? ⟨gb128, 2, none⟩ = some (.int .i64 a0_2) ∧ w'.cell? ⟨gb128, 3, none⟩ = some (.slice (some ad133) l0_3.length c0_3) ∧ w'.cell? ⟨gb128, 4, none⟩ = some (.int .i64 a0_4) ∧ w'.cell? ⟨gb128, 5, none⟩ = some (.int .i64 a0_5) ∧ w'.cell? ⟨gb128, 6, none⟩ = some (.int .i64 a0_6) ∧ w'.cell? ⟨gb128, 7, none⟩ = some (.int .i64 a0_7) ∧ w'.cell? ⟨gb128, 8, none⟩ = some (.slice A0_8 l0_8.length c0_8) ∧ w'.cell? ⟨gb128, 9, none⟩ = some (.slice A0_9 l0_9.length c0_9) ∧ w'.cell? ⟨gb128, 10, none⟩ = some (.slice A0_10 l0_10.length c0_10) ∧ w'.cell? (ad133.add ((x5_2).toNat * 7)) = some (.int .i64 ((rd_T147 l0_3 x5_2).f0)) ∧ w'.cell? ⟨(ad133.add ((x5_2).toNat * 7)).block, (ad133.add ((x5_2).toNat * 7)).off + 1, none⟩ = some (.int .i64 ((rd_T147 l0_3 x5_2).f1.f0)) ∧ w'.cell? ⟨(ad133.add ((x5_2).toNat * 7)).block, (ad133.add ((x5_2).toNat * 7)).off + 2, none⟩ = some (.int .i64 ((rd_T147 l0_3 x5_2).f1.f1)) ∧ w'.cell? ⟨(ad133.add ((x5_2).toNat * 7)).block, (ad133.add ((x5_2).toNat * 7)).off + 3, none⟩ = some (.int .i64 ((rd_T147 l0_3 x5_2).f1.f2.f0)) ∧ w'.cell? ⟨(ad133.add ((x5_2).toNat * 7)).block, (ad133.add ((x5_2).toNat * 7)).off + 4, none⟩ = some (.slice A133_4 ((rd_T147 l0_3 x5_2).f1.f2.f1).length c133_4) ∧ w'.cell? ⟨(ad133.add ((x5_2).toNat * 7)).block, (ad133.add ((x5_2).toNat * 7)).off + 5, none⟩ = some (.slice A133_5 ((rd_T147 l0_3 x5_2).f1.f2.f2).length c133_5) ∧ w'.cell? ⟨(ad133.add ((x5_2).toNat * 7)).block, (ad133.add ((x5_2).toNat * 7)).off + 6, none⟩ = some (.int .i64 ((rd_T147 l0_3 x5_2).f1.f2.f3)) ∧ w'.cell? (ad133.add ((x5_2).toNat * 7)) = some (.int .i64 ((rd_T147 l0_3 x5_2).f0)) ∧ w'.cell? ⟨(ad133.add ((x5_2).toNat * 7)).block, (ad133.add ((x5_2).toNat * 7)).off + 1, none⟩ = some (.int .i64 ((rd_T147 l0_3 x5_2).f1.f0)) ∧ w'.cell? ⟨(ad133.add ((x5_2).toNat * 7)).block, (ad133.add ((x5_2).toNat * 7)).off + 2, none⟩ = some (.int .i64 ((rd_T147 l0_3 x5_2).f1.f1)) ∧ w'.cell? ⟨(ad133.add ((x5_2).toNat * 7)).block, (ad133.add ((x5_2).toNat * 7)).off + 3, none⟩ = some (.int .i64 ((rd_T147 l0_3 x5_2).f1.f2.f0)) ∧ w'.cell? ⟨(ad133.add ((x5_2).toNat * 7)).block, (ad133.add ((x5_2).toNat * 7)).off + 4, none⟩ = some (.slice A135_4 ((rd_T147 l0_3 x5_2).f1.f2.f1).length c135_4) ∧ w'.cell? ⟨(ad133.add ((x5_2).toNat * 7)).block, (ad133.add ((x5_2).toNat * 7)).off + 5, none⟩ = some (.slice A135_5 ((rd_T147 l0_3 x5_2).f1.f2.f2).length c135_5) ∧ w'.cell? ⟨(ad133.add ((x5_2).toNat * 7)).block, (ad133.add ((x5_2).toNat * 7)).off + 6, none⟩ = some (.int .i64 ((rd_T147 l0_3 x5_2).f1.f2.f3))) (ds := []) (tf 0 38) (by kernel_rfl) rfl rfl (cells_11 BK128.out ⟨(hxb HB hw133_0 :), (hxb HB hw133_1 :), (hxb HB hw133_2 :), (hxb HB hw133_3 :), (hxb HB hw133_4 :), (hxb HB hw133_5 :), (hxb HB hw133_6 :), (hxb HB hw135_0 :), (hxb HB hw135_1 :), (hxb HB hw135_2 :), (hxb HB hw135_3 :), (hxb HB hw135_4 :), (hxb HB hw135_5 :), (hxb HB hw135_6 :)⟩) (fun hHeld => ?_); refine with_tabW spec_NodeOk.tab6 spec_NodeOk.bits6 (fun HT_ HW_ => ?_)
            generalize wr.drew = w60 at BK128 HB HR133_4 HR133_5 HR135_4 HR135_5 hx133_0 hx133_1 hx133_2 hx133_3 hx133_4 hx133_5 hx133_6 hx135_0 hx135_1 hx135_2 hx135_3 hx135_4 hx135_5 hx135_6 hHeld ⊢
            refine pv_ HT_ 0 (some 108) (tf 1 37) (h := ?_)
            refine pv_ HT_ 2 (some 110) (tb 38 5) (h := ?_)
            refine tv_ HT_ HW_ hHeld 1 (some 109) (tf 3 35) (h := ?_)
            refine pv_ HT_ 3 (some 111) (tf 4 34) (h := ?_)
            refine tv_ HT_ HW_ hHeld 4 (some 112) (tf 5 33) (h := ?_)
            refine one_ (i := 5) (N := some 113) (tf 6 32) rfl rfl (one_of HT_.out (by kernel_rfl)) (by decide) (fun K hK => ?_)
            refine gs_ Try.func110 #[.agg #[.int .i64 ((rd_T147 l0_3 x5_2).f0), .int .i64 ((rd_T147 l0_3 x5_2).f1.f0), .int .i64 ((rd_T147 l0_3 x5_2).f1.f1), .int .i64 ((rd_T147 l0_3 x5_2).f1.f2.f0), .slice A133_4 ((rd_T147 l0_3 x5_2).f1.f2.f1).length c133_4, .slice A133_5 ((rd_T147 l0_3 x5_2).f1.f2.f2).length c133_5, .int .i64 ((rd_T147 l0_3 x5_2).f1.f2.f3)]] (h := ?_)
            with_reducible refine (spec_ItemOk.calls k2 ((rd_T147 l0_3 x5_2).f0) ((rd_T147 l0_3 x5_2).f1.f0) ((rd_T147 l0_3 x5_2).f1.f1) ((rd_T147 l0_3 x5_2).f1.f2.f0) _ _ ((rd_T147 l0_3 x5_2).f1.f2.f1) _ _ ((rd_T147 l0_3 x5_2).f1.f2.f2) ((rd_T147 l0_3 x5_2).f1.f2.f3) true _ ?side1 ?side2 ?side3 ?side4 A42.out).mono ?_
            (case side1 => exact kcb)
            (case side2 => exact HC133_4.out)
            (case side3 => exact kcb)
            (case side4 => exact HC133_5.out)
            rintro e w61 ⟨rfl, hb⟩
            refine ⟨_, rfl, ?_⟩
            replace BK128 := Aside0.mk (blb BK128 hb)
            replace HB := Aside0.mk (below_step bel hb)
            (try clear hb)
            (try clear hb2)
            (try clear hk)
            (try clear hi)
            refine hK.out _ _ (cells_11 BK128.out ⟨(hxb HB hw133_0 :), (hxb HB hw133_1 :), (hxb HB hw133_2 :), (hxb HB hw133_3 :), (hxb HB hw133_4 :), (hxb HB hw133_5 :), (hxb HB hw133_6 :), (hxb HB hw135_0 :), (hxb HB hw135_1 :), (hxb HB hw135_2 :), (hxb HB hw135_3 :), (hxb HB hw135_4 :), (hxb HB hw135_5 :), (hxb HB hw135_6 :)⟩) (fun hHeld => ?_)
            clear hK K
            refine norm_ (a' := ?_) ?_ ?_
            rotate_left
            ·show Act.put _ (some 113) _ = _
             simp only [Act.put, List.setIfInBounds_toArray, List.set_cons_zero, List.set_cons_succ, i64_w, i32_w]
             rfl
            refine pv_ HT_ 6 (some 114) (tf 7 31) (h := ?_)
            refine pv_ HT_ 7 (some 115) (tf 8 30) (h := ?_)
            refine pv_ HT_ 8 (some 116) (tf 9 29) (h := ?_)
            refine pv_ HT_ 10 (some 118) (tb 38 1535) (h := ?_)
            refine pv_ HT_ 14 (some 122) (tb 38 17919) (h := ?_)
            refine tv_ HT_ HW_ hHeld 9 (some 117) (tb 38 18431) (h := ?_)
            refine pv_ HT_ 11 (some 119) (tb 38 20479) (h := ?_)
            refine pv_ HT_ 12 (some 120) (tb 38 24575) (h := ?_)
            refine tv_ HT_ HW_ hHeld 13 (some 121) (tf 15 23) (h := ?_)
            refine tv_ HT_ HW_ hHeld 15 (some 123) (tf 16 22) (h := ?_)
            refine pv_ HT_ 16 (some 124) (tf 17 21) (h := ?_)
            refine pv_ HT_ 17 (some 125) (tf 18 20) (h := ?_)
            refine pv_ HT_ 18 (some 126) (tf 19 19) (h := ?_)
            refine pv_ HT_ 19 (some 127) (tf 20 18) (h := ?_)
            refine pv_ HT_ 20 (some 128) (tf 21 17) (h := ?_)
            refine pv_ HT_ 21 (some 129) (tf 22 16) (h := ?_)
            refine pu_ HT_ 22 (some 130) (tf 23 15) (h := ?_)
            refine pu_ HT_ 23 (some 131) (tf 24 14) (h := ?_)
            refine pu_ HT_ 24 (some 132) (tf 25 13) (h := ?_)
            refine pu_ HT_ 25 (some 133) (tf 26 12) (h := ?_)
            refine pu_ HT_ 26 (some 134) (tf 27 11) (h := ?_)
            refine pu_ HT_ 27 (some 135) (tf 28 10) (h := ?_)
            refine pu_ HT_ 28 (some 136) (tf 29 9) (h := ?_)
            refine pu_ HT_ 29 (some 137) (tf 30 8) (h := ?_)
            refine pu_ HT_ 30 (some 138) (tf 31 7) (h := ?_)
            refine pu_ HT_ 31 (some 139) (tf 32 6) (h := ?_)
            refine pu_ HT_ 32 (some 140) (tf 33 5) (h := ?_)
            refine pu_ HT_ 33 (some 141) (tf 34 4) (h := ?_)
            refine pu_ HT_ 34 (some 142) (tf 35 3) (h := ?_)
            refine pu_ HT_ 35 (some 143) (tf 36 2) (h := ?_)
            refine pv_ HT_ 36 (some 144) (tf 37 1) (h := ?_)
            refine pv_ HT_ 37 (some 145) (tf 38 0) (h := ?_)
            refine done_ (done_of HT_.out (by kernel_rfl)) ?_
            try go_wp2
            go_roundg k2
            case measure => have := HJ2.out; have := HK2.out; omega
            case rel => exact ⟨(wrap64 (x5_2 + 1)), (by first | rfl | (simp; done) | (simp [*]; done)), H', ⟨by have := HJ2.out; have := HK2.out; omega⟩, ⟨by (with_reducible repeat (first | refine blk_drewN ?_ _ | refine blk_drew ?_ | refine blk_alloc ?_ _)); exact BK128.out⟩, ⟨by repeat (first | (with_reducible first | exact HB.out | apply below_alloc | apply pw_below_drewN | apply below_drew1 | refine below_set ?_ GE128.out) | exact HB.out)⟩⟩
        ·replace c43 := Bool.eq_false_iff.mpr c43
         subst c43
         have H1 : (some false) = some r := by rw [if_neg (show ¬ (false = true) by decide)] at H; exact H
         clear H
         have H := H1
         clear H1
         as_aux_lemma =>
          obtain rfl := Option.some.inj H
          obtain ⟨hcz62_0, hcz62_1, hcz62_2, hcz62_3, hcz62_4, hcz62_5, hcz62_6, hcz62_7, hcz62_8, hcz62_9, hcz62_10, -⟩ := cells_11 BK128.out trivial
          obtain ⟨hfz62_0, hfz62_1, hfz62_2, hfz62_3, hfz62_4, hfz62_5, hfz62_6, hfz62_7, hfz62_8, hfz62_9, hfz62_10, -⟩ := frz_11 BK128.out
          try go_wp2
          replace BK128 := Aside0.mk (blk_drew BK128.out)
          replace HB := Aside0.mk (below_drew1 HB.out)
          have p133 : 0 ≤ (x5_2 : Int) := od
          have q133 : x5_2 < (l0_3.length : Int) := od
          obtain ⟨ad133, A133_4, c133_4, A133_5, c133_5, e133, hx133_0, hx133_1, hx133_2, hx133_3, hx133_4, hx133_5, hx133_6, hl133_4, hi133_4, hl133_5, hi133_5⟩ := at_T147 HR0_3.out x5_2 p133 q133
          have hw133_6 := hx133_6
          have hw133_5 := hx133_5
          have hw133_4 := hx133_4
          have hw133_3 := hx133_3
          have hw133_2 := hx133_2
          have hw133_1 := hx133_1
          have hw133_0 := hx133_0
          cases e133
          replace hx133_0 := hxb HB hx133_0
          replace hx133_1 := hxb HB hx133_1
          replace hx133_2 := hxb HB hx133_2
          replace hx133_3 := hxb HB hx133_3
          replace hx133_4 := hxb HB hx133_4
          replace hx133_5 := hxb HB hx133_5
          replace hx133_6 := hxb HB hx133_6
          have HR133_4 := Aside0.mk hi133_4
          have HC133_4 := Aside0.mk hl133_4
          clear hi133_4 hl133_4
          have HR133_5 := Aside0.mk hi133_5
          have HC133_5 := Aside0.mk hl133_5
          clear hi133_5 hl133_5
          replace p133 := eq_true p133
          replace q133 := eq_true q133
          refine start_ (n := 38) (S := fun w' => w'.cell? ⟨gb128, 0, none⟩ = some (.int .i64 a0_0) ∧ w'.cell? ⟨gb128, 1, none⟩ = some (.int .i64 a0_1) ∧ w'.cell? ⟨gb128, 2, none⟩ = some (.int .i64 a0_2) ∧ w'.cell? ⟨gb128, 3, none⟩ = some (.slice (some ad133) l0_3.length c0_3) ∧ w'.cell? ⟨gb128, 4, none⟩ = some (.int .i64 a0_4) ∧ w'.cell? ⟨gb128, 5, none⟩ = some (.int .i64 a0_5) ∧ w'.cell? ⟨gb128, 6, none⟩ = some (.int .i64 a0_6) ∧ w'.cell? ⟨gb128, 7, none⟩ = some (.int .i64 a0_7) ∧ w'.cell? ⟨gb128, 8, none⟩ = some (.slice A0_8 l0_8.length c0_8) ∧ w'.cell? ⟨gb128, 9, none⟩ = some (.slice A0_9 l0_9.length c0_9) ∧ w'.cell? ⟨gb128, 10, none⟩ = some (.slice A0_10 l0_10.length c0_10) ∧ w'.cell? (ad133.add ((x5_2).toNat * 7)) = some (.int .i64 ((rd_T147 l0_3 x5_2).f0)) ∧ w'.cell? ⟨(ad133.add ((x5_2).toNat * 7)).block, (ad133.add ((x5_2).toNat * 7)).off + 1, none⟩ = some (.int .i64 ((rd_T147 l0_3 x5_2).f1.f0)) ∧ w'.cell? ⟨(ad133.add ((x5_2).toNat * 7)).block, (ad133.add ((x5_2).toNat * 7)).off + 2, none⟩ = some (.int .i64 ((rd_T147 l0_3 x5_2).f1.f1)) ∧ w'.cell? ⟨(ad133.add ((x5_2).toNat * 7)).block, (ad133.add ((x5_2).toNat * 7)).off + 3, none⟩ = some (.int .i64 ((rd_T147 l0_3 x5_2).f1.f2.f0)) ∧ w'.cell? ⟨(ad133.add ((x5_2).toNat * 7)).block, (ad133.add ((x5_2).toNat * 7)).off + 4, none⟩ = some (.slice A133_4 ((rd_T147 l0_3 x5_2).f1.f2.f1).length c133_4) ∧ w'.cell? ⟨(ad133.add ((x5_2).toNat * 7)).block, (ad133.add ((x5_2).toNat * 7)).off + 5, none⟩ = some (.slice A133_5 ((rd_T147 l0_3 x5_2).f1.f2.f2).length c133_5) ∧ w'.cell? ⟨(ad133.add ((x5_2).toNat * 7)).block, (ad133.add ((x5_2).toNat * 7)).off + 6, none⟩ = some (.int .i64 ((rd_T147 l0_3 x5_2).f1.f2.f3))) (ds := []) (tf 0 38) (by kernel_rfl) rfl rfl (cells_11 BK128.out ⟨(hxb HB hw133_0 :), (hxb HB hw133_1 :), (hxb HB hw133_2 :), (hxb HB hw133_3 :), (hxb HB hw133_4 :), (hxb HB hw133_5 :), (hxb HB hw133_6 :)⟩) (fun hHeld => ?_); refine with_tabW spec_NodeOk.tab6 spec_NodeOk.bits6 (fun HT_ HW_ => ?_)
          generalize wr.drew = w63 at BK128 HB HR133_4 HR133_5 hx133_0 hx133_1 hx133_2 hx133_3 hx133_4 hx133_5 hx133_6 hHeld ⊢
          refine pv_ HT_ 0 (some 108) (tf 1 37) (h := ?_)
          refine pv_ HT_ 2 (some 110) (tb 38 5) (h := ?_)
          refine tv_ HT_ HW_ hHeld 1 (some 109) (tf 3 35) (h := ?_)
          refine pv_ HT_ 3 (some 111) (tf 4 34) (h := ?_)
          refine tv_ HT_ HW_ hHeld 4 (some 112) (tf 5 33) (h := ?_)
          refine one_ (i := 5) (N := some 113) (tf 6 32) rfl rfl (one_of HT_.out (by kernel_rfl)) (by decide) (fun K hK => ?_)
          refine gs_ Try.func110 #[.agg #[.int .i64 ((rd_T147 l0_3 x5_2).f0), .int .i64 ((rd_T147 l0_3 x5_2).f1.f0), .int .i64 ((rd_T147 l0_3 x5_2).f1.f1), .int .i64 ((rd_T147 l0_3 x5_2).f1.f2.f0), .slice A133_4 ((rd_T147 l0_3 x5_2).f1.f2.f1).length c133_4, .slice A133_5 ((rd_T147 l0_3 x5_2).f1.f2.f2).length c133_5, .int .i64 ((rd_T147 l0_3 x5_2).f1.f2.f3)]] (h := ?_)
          with_reducible refine (spec_ItemOk.calls k2 ((rd_T147 l0_3 x5_2).f0) ((rd_T147 l0_3 x5_2).f1.f0) ((rd_T147 l0_3 x5_2).f1.f1) ((rd_T147 l0_3 x5_2).f1.f2.f0) _ _ ((rd_T147 l0_3 x5_2).f1.f2.f1) _ _ ((rd_T147 l0_3 x5_2).f1.f2.f2) ((rd_T147 l0_3 x5_2).f1.f2.f3) false _ ?side1 ?side2 ?side3 ?side4 A42.out).mono ?_
          (case side1 => exact kcb)
          (case side2 => exact HC133_4.out)
          (case side3 => exact kcb)
          (case side4 => exact HC133_5.out)
          rintro e w64 ⟨rfl, hb⟩
          refine ⟨_, rfl, ?_⟩
          replace BK128 := Aside0.mk (blb BK128 hb)
          replace HB := Aside0.mk (below_step bel hb)
          (try clear hb)
          (try clear hb2)
          (try clear hk)
          (try clear hi)
          refine hK.out _ _ (cells_11 BK128.out ⟨(hxb HB hw133_0 :), (hxb HB hw133_1 :), (hxb HB hw133_2 :), (hxb HB hw133_3 :), (hxb HB hw133_4 :), (hxb HB hw133_5 :), (hxb HB hw133_6 :)⟩) (fun hHeld => ?_)
          clear hK K
          refine norm_ (a' := ?_) ?_ ?_
          rotate_left
          ·show Act.put _ (some 113) _ = _
           simp only [Act.put, List.setIfInBounds_toArray, List.set_cons_zero, List.set_cons_succ, i64_w, i32_w]
           rfl
          refine pv_ HT_ 6 (some 114) (tf 7 31) (h := ?_)
          refine pv_ HT_ 7 (some 115) (tf 8 30) (h := ?_)
          refine pu_ HT_ 8 (some 116) (tf 9 29) (h := ?_)
          refine pu_ HT_ 9 (some 117) (tf 10 28) (h := ?_)
          refine pu_ HT_ 10 (some 118) (tf 11 27) (h := ?_)
          refine pu_ HT_ 11 (some 119) (tf 12 26) (h := ?_)
          refine pu_ HT_ 12 (some 120) (tf 13 25) (h := ?_)
          refine pu_ HT_ 13 (some 121) (tf 14 24) (h := ?_)
          refine pu_ HT_ 14 (some 122) (tf 15 23) (h := ?_)
          refine pu_ HT_ 15 (some 123) (tf 16 22) (h := ?_)
          refine pu_ HT_ 16 (some 124) (tf 17 21) (h := ?_)
          refine pv_ HT_ 17 (some 125) (tf 18 20) (h := ?_)
          refine pv_ HT_ 18 (some 126) (tf 19 19) (h := ?_)
          refine pu_ HT_ 19 (some 127) (tf 20 18) (h := ?_)
          refine pu_ HT_ 20 (some 128) (tf 21 17) (h := ?_)
          refine pu_ HT_ 21 (some 129) (tf 22 16) (h := ?_)
          refine pu_ HT_ 22 (some 130) (tf 23 15) (h := ?_)
          refine pu_ HT_ 23 (some 131) (tf 24 14) (h := ?_)
          refine pu_ HT_ 24 (some 132) (tf 25 13) (h := ?_)
          refine pu_ HT_ 25 (some 133) (tf 26 12) (h := ?_)
          refine pu_ HT_ 26 (some 134) (tf 27 11) (h := ?_)
          refine pu_ HT_ 27 (some 135) (tf 28 10) (h := ?_)
          refine pu_ HT_ 28 (some 136) (tf 29 9) (h := ?_)
          refine pu_ HT_ 29 (some 137) (tf 30 8) (h := ?_)
          refine pu_ HT_ 30 (some 138) (tf 31 7) (h := ?_)
          refine pu_ HT_ 31 (some 139) (tf 32 6) (h := ?_)
          refine pu_ HT_ 32 (some 140) (tf 33 5) (h := ?_)
          refine pu_ HT_ 33 (some 141) (tf 34 4) (h := ?_)
          refine pu_ HT_ 34 (some 142) (tf 35 3) (h := ?_)
          refine pu_ HT_ 35 (some 143) (tf 36 2) (h := ?_)
          refine pu_ HT_ 36 (some 144) (tf 37 1) (h := ?_)
          refine pv_ HT_ 37 (some 145) (tf 38 0) (h := ?_)
          refine done_ (done_of HT_.out (by kernel_rfl)) ?_
          try go_wp2
          go_ret
          exact ⟨by first | rfl | (simp [errW_none, errW_some] <;> rfl) | (simp [*, errW_none, errW_some] <;> rfl), by repeat (first | (with_reducible first | exact HB.out | apply below_alloc | apply pw_below_drewN | apply below_drew1 | refine below_set ?_ GE128.out) | exact HB.out)⟩
       ·rw [if_neg c41] at H
        exact absurd H (by simp)
      ·rw [if_neg c40] at H
       have c40b0 : decide (x5_2 < (l0_3.length : Int)) = false := decide_eq_false c40
       clear c40
       have HC65 := Aside0.mk H
       clear H
       obtain ⟨hcz66_0, hcz66_1, hcz66_2, hcz66_3, hcz66_4, hcz66_5, hcz66_6, hcz66_7, hcz66_8, hcz66_9, hcz66_10, -⟩ := cells_11 BK128.out trivial
       obtain ⟨hfz66_0, hfz66_1, hfz66_2, hfz66_3, hfz66_4, hfz66_5, hfz66_6, hfz66_7, hfz66_8, hfz66_9, hfz66_10, -⟩ := frz_11 BK128.out
       go_upto_region 8 with (fail)
       go_cut [160] (fun v160 wc => ∃ (kq : Nat) (x160_64 : Bool), v160 = .bool x160_64 ∧ Aside0 (spec_NodeOk.j2 kq a1 x160_64 a0_0 a0_1 a0_2 l0_3 a0_4 a0_5 a0_6 a0_7 l0_8 l0_9 l0_10 = some r) ∧ Aside0 (kq ≤ k2) ∧ Aside0 (wc.heap[gb128]? = some (.cells #[.int .i64 a0_0, .int .i64 a0_1, .int .i64 a0_2, (.slice A0_3 l0_3.length c0_3), .int .i64 a0_4, .int .i64 a0_5, .int .i64 a0_6, .int .i64 a0_7, (.slice A0_8 l0_8.length c0_8), (.slice A0_9 l0_9.length c0_9), (.slice A0_10 l0_10.length c0_10)] 48 (0, 0))) ∧ Aside0 (Below w.heap.size w wc))
       case first => as_aux_lemma =>
        have H := HC65.out
        clear HC65
        by_cases c67 : a0_5 = 0
        ·rw [if_pos c67] at H
         have c67b0 : (a0_5 == 0) = true := beq_iff_eq.mpr c67
         have c67b1 : (a0_5 != 0) = false := bne_eq_false_iff_eq.mpr c67
         clear c67
         (first | rw [c67b0] | (simp only [i64_w, i32_w]; rw [c67b0]) | skip)
         as_aux_lemma =>
          have H' := Aside0.mk H
          clear H
          obtain ⟨hcz68_0, hcz68_1, hcz68_2, hcz68_3, hcz68_4, hcz68_5, hcz68_6, hcz68_7, hcz68_8, hcz68_9, hcz68_10, -⟩ := cells_11 BK128.out trivial
          obtain ⟨hfz68_0, hfz68_1, hfz68_2, hfz68_3, hfz68_4, hfz68_5, hfz68_6, hfz68_7, hfz68_8, hfz68_9, hfz68_10, -⟩ := frz_11 BK128.out
          go_wp2
          go_meet
          case rel => exact ⟨_, (false), (by first | rfl | (simp; done) | (simp [*]; done)), H', ⟨by have := HJ2.out; have := HK2.out; first | omega | exact Nat.le_refl _⟩, ⟨by (with_reducible repeat (first | refine blk_drewN ?_ _ | refine blk_drew ?_ | refine blk_alloc ?_ _)); exact BK128.out⟩, ⟨by repeat (first | (with_reducible first | exact HB.out | apply below_alloc | apply pw_below_drewN | apply below_drew1 | refine below_set ?_ GE128.out) | exact HB.out)⟩⟩
        ·rw [if_neg c67] at H
         have c67b0 : (a0_5 == 0) = false := beq_eq_false_iff_ne.mpr c67
         have c67b1 : (a0_5 != 0) = true := bne_iff_ne.mpr c67
         (first | rw [c67b0] | (simp only [i64_w, i32_w]; rw [c67b0]) | skip)
         by_cases c69 : a0_1 < 1
         ·rw [if_pos c69] at H
          have c69b0 : decide (a0_1 < 1) = true := decide_eq_true c69
          clear c69
          as_aux_lemma =>
           have H' := Aside0.mk H
           clear H
           obtain ⟨hcz70_0, hcz70_1, hcz70_2, hcz70_3, hcz70_4, hcz70_5, hcz70_6, hcz70_7, hcz70_8, hcz70_9, hcz70_10, -⟩ := cells_11 BK128.out trivial
           obtain ⟨hfz70_0, hfz70_1, hfz70_2, hfz70_3, hfz70_4, hfz70_5, hfz70_6, hfz70_7, hfz70_8, hfz70_9, hfz70_10, -⟩ := frz_11 BK128.out
           go_wp2
           go_meet
           case rel => exact ⟨_, (true), (by first | rfl | (simp; done) | (simp [*]; done)), H', ⟨by have := HJ2.out; have := HK2.out; first | omega | exact Nat.le_refl _⟩, ⟨by (with_reducible repeat (first | refine blk_drewN ?_ _ | refine blk_drew ?_ | refine blk_alloc ?_ _)); exact BK128.out⟩, ⟨by repeat (first | (with_reducible first | exact HB.out | apply below_alloc | apply pw_below_drewN | apply below_drew1 | refine below_set ?_ GE128.out) | exact HB.out)⟩⟩
         ·rw [if_neg c69] at H
          have c69b0 : decide (a0_1 < 1) = false := decide_eq_false c69
          clear c69
          as_aux_lemma =>
           have H' := Aside0.mk H
           clear H
           obtain ⟨hcz71_0, hcz71_1, hcz71_2, hcz71_3, hcz71_4, hcz71_5, hcz71_6, hcz71_7, hcz71_8, hcz71_9, hcz71_10, -⟩ := cells_11 BK128.out trivial
           obtain ⟨hfz71_0, hfz71_1, hfz71_2, hfz71_3, hfz71_4, hfz71_5, hfz71_6, hfz71_7, hfz71_8, hfz71_9, hfz71_10, -⟩ := frz_11 BK128.out
           go_wp2
           go_meet
           case rel => exact ⟨_, ((a0_2 != a0_0)), (by first | rfl | (simp; done) | (simp [*]; done)), H', ⟨by have := HJ2.out; have := HK2.out; first | omega | exact Nat.le_refl _⟩, ⟨by (with_reducible repeat (first | refine blk_drewN ?_ _ | refine blk_drew ?_ | refine blk_alloc ?_ _)); exact BK128.out⟩, ⟨by repeat (first | (with_reducible first | exact HB.out | apply below_alloc | apply pw_below_drewN | apply below_drew1 | refine below_set ?_ GE128.out) | exact HB.out)⟩⟩
       case rest => as_aux_lemma =>
        clear HC65
        try clear c1; try clear p1; try clear q1; try clear hx1; try clear p2; try clear c4; try clear c6; try clear p6; try clear c11; try clear c13; try clear p13; try clear q13; try clear hx13; try clear c40; try clear c40b0; try clear c41; try clear c43; try clear p64; try clear c67; try clear c67b0; try clear c67b1; try clear c69; try clear c69b0; try clear hcz62_0; try clear hcz62_1; try clear hcz62_10; try clear hcz62_2; try clear hcz62_3; try clear hcz62_4; try clear hcz62_5; try clear hcz62_6; try clear hcz62_7; try clear hcz62_8; try clear hcz62_9; try clear hcz66_0; try clear hcz66_1; try clear hcz66_10; try clear hcz66_2; try clear hcz66_3; try clear hcz66_4; try clear hcz66_5; try clear hcz66_6; try clear hcz66_7; try clear hcz66_8; try clear hcz66_9; try clear hcz68_0; try clear hcz68_1; try clear hcz68_10; try clear hcz68_2; try clear hcz68_3; try clear hcz68_4; try clear hcz68_5; try clear hcz68_6; try clear hcz68_7; try clear hcz68_8; try clear hcz68_9; try clear hcz70_0; try clear hcz70_1; try clear hcz70_10; try clear hcz70_2; try clear hcz70_3; try clear hcz70_4; try clear hcz70_5; try clear hcz70_6; try clear hcz70_7; try clear hcz70_8; try clear hcz70_9; try clear hcz71_0; try clear hcz71_1; try clear hcz71_10; try clear hcz71_2; try clear hcz71_3; try clear hcz71_4; try clear hcz71_5; try clear hcz71_6; try clear hcz71_7; try clear hcz71_8; try clear hcz71_9; try clear hfz62_0; try clear hfz62_1; try clear hfz62_10; try clear hfz62_2; try clear hfz62_3; try clear hfz62_4; try clear hfz62_5; try clear hfz62_6; try clear hfz62_7; try clear hfz62_8; try clear hfz62_9; try clear hfz66_0; try clear hfz66_1; try clear hfz66_10; try clear hfz66_2; try clear hfz66_3; try clear hfz66_4; try clear hfz66_5; try clear hfz66_6; try clear hfz66_7; try clear hfz66_8; try clear hfz66_9; try clear hfz68_0; try clear hfz68_1; try clear hfz68_10; try clear hfz68_2; try clear hfz68_3; try clear hfz68_4; try clear hfz68_5; try clear hfz68_6; try clear hfz68_7; try clear hfz68_8; try clear hfz68_9; try clear hfz70_0; try clear hfz70_1; try clear hfz70_10; try clear hfz70_2; try clear hfz70_3; try clear hfz70_4; try clear hfz70_5; try clear hfz70_6; try clear hfz70_7; try clear hfz70_8; try clear hfz70_9; try clear hfz71_0; try clear hfz71_1; try clear hfz71_10; try clear hfz71_2; try clear hfz71_3; try clear hfz71_4; try clear hfz71_5; try clear hfz71_6; try clear hfz71_7; try clear hfz71_8; try clear hfz71_9; try clear hx133_0; try clear hx133_1; try clear hx133_2; try clear hx133_3; try clear hx133_4; try clear hx133_5; try clear hx133_6; try clear p133; try clear q133
        obtain ⟨kq, x160_64, rfl, HA, HJ64, BK128, HB⟩ := hcut
        cases kq with
        | zero => exact absurd HA.out (by simp [spec_NodeOk.j2])
        | succ kj64 =>
         have H := HA.out
         clear HA
         simp only [spec_NodeOk.j2] at H
         by_cases c72 : x160_64 = true
         ·subst c72
          have H1 : (some false) = some r := by rw [if_pos rfl] at H; exact H
          clear H
          have H := H1
          clear H1
          as_aux_lemma =>
           obtain rfl := Option.some.inj H
           go_wp2
           go_ret
           exact ⟨by first | rfl | (simp [errW_none, errW_some] <;> rfl) | (simp [*, errW_none, errW_some] <;> rfl), by repeat (first | (with_reducible first | exact HB.out | apply below_alloc | apply pw_below_drewN | apply below_drew1 | refine below_set ?_ GE128.out) | exact HB.out)⟩
         ·replace c72 := Bool.eq_false_iff.mpr c72
          subst c72
          have H1 : (spec_NodeOk.l1 kj64 a1 0 a0_0 a0_1 a0_2 l0_3 a0_4 a0_5 a0_6 a0_7 l0_8 l0_9 l0_10) = some r := by rw [if_neg (show ¬ (false = true) by decide)] at H; exact H
          clear H
          have H := H1
          clear H1
          have H' := Aside0.mk H
          clear H
          go_wp2
          go_loopg [6] kj64 (fun kq v6 w' => ∃ (x6_4 : Int), v6 = .int .i64 x6_4 ∧ Aside0 (spec_NodeOk.l1 kq a1 x6_4 a0_0 a0_1 a0_2 l0_3 a0_4 a0_5 a0_6 a0_7 l0_8 l0_9 l0_10 = some r) ∧ Aside0 (kq ≤ kj64) ∧ Aside0 (w'.heap[gb128]? = some (.cells #[.int .i64 a0_0, .int .i64 a0_1, .int .i64 a0_2, (.slice A0_3 l0_3.length c0_3), .int .i64 a0_4, .int .i64 a0_5, .int .i64 a0_6, .int .i64 a0_7, (.slice A0_8 l0_8.length c0_8), (.slice A0_9 l0_9.length c0_9), (.slice A0_10 l0_10.length c0_10)] 48 (0, 0))) ∧ Aside0 (Below w.heap.size w w'))
          case atStart => exact ⟨(0), (by first | rfl | (simp; done) | (simp [*]; done)), H', ⟨Nat.le_refl _⟩, ⟨by (with_reducible repeat (first | refine blk_drewN ?_ _ | refine blk_drew ?_ | refine blk_alloc ?_ _)); exact BK128.out⟩, ⟨by repeat (first | (with_reducible first | exact HB.out | apply below_alloc | apply pw_below_drewN | apply below_drew1 | refine below_set ?_ GE128.out) | exact HB.out)⟩⟩
          case round => as_aux_lemma =>
           clear H'
           try clear c1; try clear p1; try clear q1; try clear hx1; try clear p2; try clear c4; try clear c6; try clear p6; try clear c7; try clear c11; try clear c13; try clear p13; try clear q13; try clear hx13; try clear c40; try clear c40b0; try clear c41; try clear c43; try clear p64; try clear c67; try clear c67b0; try clear c67b1; try clear c69; try clear c69b0; try clear c72; try clear hcz62_0; try clear hcz62_1; try clear hcz62_10; try clear hcz62_2; try clear hcz62_3; try clear hcz62_4; try clear hcz62_5; try clear hcz62_6; try clear hcz62_7; try clear hcz62_8; try clear hcz62_9; try clear hcz66_0; try clear hcz66_1; try clear hcz66_10; try clear hcz66_2; try clear hcz66_3; try clear hcz66_4; try clear hcz66_5; try clear hcz66_6; try clear hcz66_7; try clear hcz66_8; try clear hcz66_9; try clear hcz68_0; try clear hcz68_1; try clear hcz68_10; try clear hcz68_2; try clear hcz68_3; try clear hcz68_4; try clear hcz68_5; try clear hcz68_6; try clear hcz68_7; try clear hcz68_8; try clear hcz68_9; try clear hcz70_0; try clear hcz70_1; try clear hcz70_10; try clear hcz70_2; try clear hcz70_3; try clear hcz70_4; try clear hcz70_5; try clear hcz70_6; try clear hcz70_7; try clear hcz70_8; try clear hcz70_9; try clear hcz71_0; try clear hcz71_1; try clear hcz71_10; try clear hcz71_2; try clear hcz71_3; try clear hcz71_4; try clear hcz71_5; try clear hcz71_6; try clear hcz71_7; try clear hcz71_8; try clear hcz71_9; try clear hfz62_0; try clear hfz62_1; try clear hfz62_10; try clear hfz62_2; try clear hfz62_3; try clear hfz62_4; try clear hfz62_5; try clear hfz62_6; try clear hfz62_7; try clear hfz62_8; try clear hfz62_9; try clear hfz66_0; try clear hfz66_1; try clear hfz66_10; try clear hfz66_2; try clear hfz66_3; try clear hfz66_4; try clear hfz66_5; try clear hfz66_6; try clear hfz66_7; try clear hfz66_8; try clear hfz66_9; try clear hfz68_0; try clear hfz68_1; try clear hfz68_10; try clear hfz68_2; try clear hfz68_3; try clear hfz68_4; try clear hfz68_5; try clear hfz68_6; try clear hfz68_7; try clear hfz68_8; try clear hfz68_9; try clear hfz70_0; try clear hfz70_1; try clear hfz70_10; try clear hfz70_2; try clear hfz70_3; try clear hfz70_4; try clear hfz70_5; try clear hfz70_6; try clear hfz70_7; try clear hfz70_8; try clear hfz70_9; try clear hfz71_0; try clear hfz71_1; try clear hfz71_10; try clear hfz71_2; try clear hfz71_3; try clear hfz71_4; try clear hfz71_5; try clear hfz71_6; try clear hfz71_7; try clear hfz71_8; try clear hfz71_9; try clear hx133_0; try clear hx133_1; try clear hx133_2; try clear hx133_3; try clear hx133_4; try clear hx133_5; try clear hx133_6; try clear p1; try clear p13; try clear p133; try clear p2; try clear p6; try clear p64; try clear q1; try clear q13; try clear q133
           obtain ⟨x6_4, rfl, HA, HK4, BK128, HB⟩ := hrel
           cases gk with
           | zero => exact absurd HA.out (by simp [spec_NodeOk.l1])
           | succ k4 =>
            have H := HA.out
            clear HA
            simp only [spec_NodeOk.l1] at H
            by_cases c73 : x6_4 < a1
            ·rw [if_pos c73] at H
             have c73b0 : decide (x6_4 < a1) = true := decide_eq_true c73
             clear c73
             have HC74 := Aside0.mk H
             clear H
             go_upto_region 13 with (fail)
             go_cut [207] (fun v207 wc => ∃ (kq : Nat) (x207_73 : Bool), v207 = .bool x207_73 ∧ Aside0 (spec_NodeOk.j4 kq a1 x6_4 x207_73 a0_0 a0_1 a0_2 l0_3 a0_4 a0_5 a0_6 a0_7 l0_8 l0_9 l0_10 = some r) ∧ Aside0 (kq ≤ k4) ∧ Aside0 (wc.heap[gb128]? = some (.cells #[.int .i64 a0_0, .int .i64 a0_1, .int .i64 a0_2, (.slice A0_3 l0_3.length c0_3), .int .i64 a0_4, .int .i64 a0_5, .int .i64 a0_6, .int .i64 a0_7, (.slice A0_8 l0_8.length c0_8), (.slice A0_9 l0_9.length c0_9), (.slice A0_10 l0_10.length c0_10)] 48 (0, 0))) ∧ Aside0 (Below w.heap.size w wc))
             case first => as_aux_lemma =>
              have H := HC74.out
              clear HC74
              by_cases c75 : a0_5 = 2
              ·rw [if_pos c75] at H
               have c75b0 : (a0_5 == 2) = true := beq_iff_eq.mpr c75
               have c75b1 : (a0_5 != 2) = false := bne_eq_false_iff_eq.mpr c75
               clear c75
               (first | rw [c75b0] | (simp only [i64_w, i32_w]; rw [c75b0]) | skip)
               by_cases c76 : 0 ≤ x6_4
               ·rw [if_pos c76] at H
                have c76b0 : decide (0 ≤ x6_4) = true := decide_eq_true c76
                clear c76
                by_cases c77 : x6_4 < (l0_9.length : Int)
                ·rw [if_pos c77] at H
                 have c77b0 : decide (x6_4 < (l0_9.length : Int)) = true := decide_eq_true c77
                 clear c77
                 by_cases c78 : (rd l0_9 x6_4) < 1
                 ·rw [if_pos c78] at H
                  have c78b0 : decide ((rd l0_9 x6_4) < 1) = true := decide_eq_true c78
                  clear c78
                  as_aux_lemma =>
                   have H' := Aside0.mk H
                   clear H
                   try go_wp2
                   replace BK128 := Aside0.mk (blk_drew BK128.out)
                   replace HB := Aside0.mk (below_drew1 HB.out)
                   have p138 : 0 ≤ (x6_4 : Int) := od
                   have q138 : x6_4 < (l0_9.length : Int) := od
                   obtain ⟨ad138, e138, hx138_0⟩ := Kd.at_int HR0_9.out x6_4 p138 q138
                   have hw138_0 := hx138_0
                   cases e138
                   replace hx138_0 := hxb HB hx138_0
                   replace p138 := eq_true p138
                   replace q138 := eq_true q138
                   refine start_ (n := 42) (S := fun w' => w'.cell? ⟨gb128, 0, none⟩ = some (.int .i64 a0_0) ∧ w'.cell? ⟨gb128, 1, none⟩ = some (.int .i64 a0_1) ∧ w'.cell? ⟨gb128, 2, none⟩ = some (.int .i64 a0_2) ∧ w'.cell? ⟨gb128, 3, none⟩ = some (.slice A0_3 l0_3.length c0_3) ∧ w'.cell? ⟨gb128, 4, none⟩ = some (.int .i64 a0_4) ∧ w'.cell? ⟨gb128, 5, none⟩ = some (.int .i64 a0_5) ∧ w'.cell? ⟨gb128, 6, none⟩ = some (.int .i64 a0_6) ∧ w'.cell? ⟨gb128, 7, none⟩ = some (.int .i64 a0_7) ∧ w'.cell? ⟨gb128, 8, none⟩ = some (.slice A0_8 l0_8.length c0_8) ∧ w'.cell? ⟨gb128, 9, none⟩ = some (.slice (some ad138) l0_9.length c0_9) ∧ w'.cell? ⟨gb128, 10, none⟩ = some (.slice A0_10 l0_10.length c0_10) ∧ w'.cell? (ad138.add (x6_4).toNat) = some (.int .i64 (rd l0_9 x6_4))) (ds := []) (tf 0 42) (by kernel_rfl) rfl rfl (cells_11 BK128.out ((hxb HB hw138_0 :))) (fun hHeld => ?_); refine with_tabW spec_NodeOk.tab13 spec_NodeOk.bits13 (fun HT_ HW_ => ?_)
                   generalize wr.drew = w79 at BK128 HB hx138_0 hHeld ⊢
                   refine pv_ HT_ 0 (some 166) (tf 1 41) (h := ?_)
                   refine tv_ HT_ HW_ hHeld 1 (some 167) (tf 2 40) (h := ?_)
                   refine pv_ HT_ 2 (some 168) (tf 3 39) (h := ?_)
                   refine pv_ HT_ 3 (some 169) (tf 4 38) (h := ?_)
                   refine pv_ HT_ 4 (some 170) (tf 5 37) (h := ?_)
                   refine pv_ HT_ 6 (some 172) (tb 42 95) (h := ?_)
                   refine tv_ HT_ HW_ hHeld 5 (some 171) (tf 7 35) (h := ?_)
                   refine pv_ HT_ 7 (some 173) (tf 8 34) (h := ?_)
                   refine tv_ HT_ HW_ hHeld 8 (some 174) (tf 9 33) (h := ?_)
                   refine pv_ HT_ 9 (some 175) (tf 10 32) (h := ?_)
                   refine pv_ HT_ 10 (some 176) (tf 11 31) (h := ?_)
                   refine pu_ HT_ 11 (some 177) (tf 12 30) (h := ?_)
                   refine pu_ HT_ 12 (some 178) (tf 13 29) (h := ?_)
                   refine pu_ HT_ 13 (some 179) (tf 14 28) (h := ?_)
                   refine pu_ HT_ 14 (some 180) (tf 15 27) (h := ?_)
                   refine pu_ HT_ 15 (some 181) (tf 16 26) (h := ?_)
                   refine pu_ HT_ 16 (some 182) (tf 17 25) (h := ?_)
                   refine pu_ HT_ 17 (some 183) (tf 18 24) (h := ?_)
                   refine pu_ HT_ 18 (some 184) (tf 19 23) (h := ?_)
                   refine pu_ HT_ 19 (some 185) (tf 20 22) (h := ?_)
                   refine pu_ HT_ 20 (some 186) (tf 21 21) (h := ?_)
                   refine pv_ HT_ 21 (some 187) (tf 22 20) (h := ?_)
                   refine pv_ HT_ 22 (some 188) (tf 23 19) (h := ?_)
                   refine pu_ HT_ 23 (some 189) (tf 24 18) (h := ?_)
                   refine pu_ HT_ 24 (some 190) (tf 25 17) (h := ?_)
                   refine pu_ HT_ 25 (some 191) (tf 26 16) (h := ?_)
                   refine pu_ HT_ 26 (some 192) (tf 27 15) (h := ?_)
                   refine pu_ HT_ 27 (some 193) (tf 28 14) (h := ?_)
                   refine pu_ HT_ 28 (some 194) (tf 29 13) (h := ?_)
                   refine pv_ HT_ 29 (some 195) (tf 30 12) (h := ?_)
                   refine pv_ HT_ 30 (some 196) (tf 31 11) (h := ?_)
                   refine pu_ HT_ 31 (some 197) (tf 32 10) (h := ?_)
                   refine pu_ HT_ 32 (some 198) (tf 33 9) (h := ?_)
                   refine pu_ HT_ 33 (some 199) (tf 34 8) (h := ?_)
                   refine pu_ HT_ 34 (some 200) (tf 35 7) (h := ?_)
                   refine pu_ HT_ 35 (some 201) (tf 36 6) (h := ?_)
                   refine pu_ HT_ 36 (some 202) (tf 37 5) (h := ?_)
                   refine pu_ HT_ 37 (some 203) (tf 38 4) (h := ?_)
                   refine pu_ HT_ 38 (some 204) (tf 39 3) (h := ?_)
                   refine pu_ HT_ 39 (some 205) (tf 40 2) (h := ?_)
                   refine pv_ HT_ 40 (some 206) (tf 41 1) (h := ?_)
                   refine pv_ HT_ 41 (some 207) (tf 42 0) (h := ?_)
                   refine done_ (done_of HT_.out (by kernel_rfl)) ?_
                   try go_wp2
                   go_meet
                   case rel => exact ⟨_, (true), (by first | rfl | (simp; done) | (simp [*]; done)), H', ⟨by have := HJ2.out; have := HK2.out; have := HJ64.out; have := HK4.out; first | omega | exact Nat.le_refl _⟩, ⟨by (with_reducible repeat (first | refine blk_drewN ?_ _ | refine blk_drew ?_ | refine blk_alloc ?_ _)); exact BK128.out⟩, ⟨by repeat (first | (with_reducible first | exact HB.out | apply below_alloc | apply pw_below_drewN | apply below_drew1 | refine below_set ?_ GE128.out) | exact HB.out)⟩⟩
                 ·rw [if_neg c78] at H
                  have c78b0 : decide ((rd l0_9 x6_4) < 1) = false := decide_eq_false c78
                  clear c78
                  by_cases c80 : (rd l0_9 x6_4) > (wrap64 ((l0_3.length : Int) + 1))
                  ·rw [if_pos c80] at H
                   have c80b0 : decide ((wrap64 ((l0_3.length : Int) + 1)) < (rd l0_9 x6_4)) = true := decide_eq_true c80
                   clear c80
                   as_aux_lemma =>
                    have H' := Aside0.mk H
                    clear H
                    try go_wp2
                    replace BK128 := Aside0.mk (blk_drew BK128.out)
                    replace HB := Aside0.mk (below_drew1 HB.out)
                    have p138 : 0 ≤ (x6_4 : Int) := od
                    have q138 : x6_4 < (l0_9.length : Int) := od
                    obtain ⟨ad138, e138, hx138_0⟩ := Kd.at_int HR0_9.out x6_4 p138 q138
                    have hw138_0 := hx138_0
                    cases e138
                    replace hx138_0 := hxb HB hx138_0
                    replace p138 := eq_true p138
                    replace q138 := eq_true q138
                    have p139 : 0 ≤ (x6_4 : Int) := od
                    have q139 : x6_4 < (l0_9.length : Int) := od
                    obtain ⟨ad139, e139, hx139_0⟩ := Kd.at_int HR0_9.out x6_4 p139 q139
                    have hw139_0 := hx139_0
                    obtain rfl : ad138 = ad139 := (by injection e139)
                    replace hx139_0 := hxb HB hx139_0
                    replace p139 := eq_true p139
                    replace q139 := eq_true q139
                    refine start_ (n := 42) (S := fun w' => w'.cell? ⟨gb128, 0, none⟩ = some (.int .i64 a0_0) ∧ w'.cell? ⟨gb128, 1, none⟩ = some (.int .i64 a0_1) ∧ w'.cell? ⟨gb128, 2, none⟩ = some (.int .i64 a0_2) ∧ w'.cell? ⟨gb128, 3, none⟩ = some (.slice A0_3 l0_3.length c0_3) ∧ w'.cell? ⟨gb128, 4, none⟩ = some (.int .i64 a0_4) ∧ w'.cell? ⟨gb128, 5, none⟩ = some (.int .i64 a0_5) ∧ w'.cell? ⟨gb128, 6, none⟩ = some (.int .i64 a0_6) ∧ w'.cell? ⟨gb128, 7, none⟩ = some (.int .i64 a0_7) ∧ w'.cell? ⟨gb128, 8, none⟩ = some (.slice A0_8 l0_8.length c0_8) ∧ w'.cell? ⟨gb128, 9, none⟩ = some (.slice (some ad138) l0_9.length c0_9) ∧ w'.cell? ⟨gb128, 10, none⟩ = some (.slice A0_10 l0_10.length c0_10) ∧ w'.cell? (ad138.add (x6_4).toNat) = some (.int .i64 (rd l0_9 x6_4)) ∧ w'.cell? (ad138.add (x6_4).toNat) = some (.int .i64 (rd l0_9 x6_4))) (ds := []) (tf 0 42) (by kernel_rfl) rfl rfl (cells_11 BK128.out ⟨(hxb HB hw138_0 :), (hxb HB hw139_0 :)⟩) (fun hHeld => ?_); refine with_tabW spec_NodeOk.tab13 spec_NodeOk.bits13 (fun HT_ HW_ => ?_)
                    generalize wr.drew = w81 at BK128 HB hx138_0 hx139_0 hHeld ⊢
                    refine pv_ HT_ 0 (some 166) (tf 1 41) (h := ?_)
                    refine tv_ HT_ HW_ hHeld 1 (some 167) (tf 2 40) (h := ?_)
                    refine pv_ HT_ 2 (some 168) (tf 3 39) (h := ?_)
                    refine pv_ HT_ 3 (some 169) (tf 4 38) (h := ?_)
                    refine pv_ HT_ 4 (some 170) (tf 5 37) (h := ?_)
                    refine pv_ HT_ 6 (some 172) (tb 42 95) (h := ?_)
                    refine tv_ HT_ HW_ hHeld 5 (some 171) (tf 7 35) (h := ?_)
                    refine pv_ HT_ 7 (some 173) (tf 8 34) (h := ?_)
                    refine tv_ HT_ HW_ hHeld 8 (some 174) (tf 9 33) (h := ?_)
                    refine pv_ HT_ 9 (some 175) (tf 10 32) (h := ?_)
                    refine pv_ HT_ 10 (some 176) (tf 11 31) (h := ?_)
                    refine pv_ HT_ 11 (some 177) (tf 12 30) (h := ?_)
                    refine pv_ HT_ 13 (some 179) (tb 42 12287) (h := ?_)
                    refine pv_ HT_ 16 (some 182) (tb 42 77823) (h := ?_)
                    refine tv_ HT_ HW_ hHeld 12 (some 178) (tb 42 81919) (h := ?_)
                    refine pv_ HT_ 14 (some 180) (tb 42 98303) (h := ?_)
                    refine tv_ HT_ HW_ hHeld 15 (some 181) (tf 17 25) (h := ?_)
                    refine tv_ HT_ HW_ hHeld 17 (some 183) (tf 18 24) (h := ?_)
                    refine pv_ HT_ 18 (some 184) (tf 19 23) (h := ?_)
                    refine pv_ HT_ 19 (some 185) (tf 20 22) (h := ?_)
                    refine pv_ HT_ 20 (some 186) (tf 21 21) (h := ?_)
                    refine pv_ HT_ 21 (some 187) (tf 22 20) (h := ?_)
                    refine pv_ HT_ 22 (some 188) (tf 23 19) (h := ?_)
                    refine pu_ HT_ 23 (some 189) (tf 24 18) (h := ?_)
                    refine pu_ HT_ 24 (some 190) (tf 25 17) (h := ?_)
                    refine pu_ HT_ 25 (some 191) (tf 26 16) (h := ?_)
                    refine pu_ HT_ 26 (some 192) (tf 27 15) (h := ?_)
                    refine pu_ HT_ 27 (some 193) (tf 28 14) (h := ?_)
                    refine pu_ HT_ 28 (some 194) (tf 29 13) (h := ?_)
                    refine pv_ HT_ 29 (some 195) (tf 30 12) (h := ?_)
                    refine pv_ HT_ 30 (some 196) (tf 31 11) (h := ?_)
                    refine pu_ HT_ 31 (some 197) (tf 32 10) (h := ?_)
                    refine pu_ HT_ 32 (some 198) (tf 33 9) (h := ?_)
                    refine pu_ HT_ 33 (some 199) (tf 34 8) (h := ?_)
                    refine pu_ HT_ 34 (some 200) (tf 35 7) (h := ?_)
                    refine pu_ HT_ 35 (some 201) (tf 36 6) (h := ?_)
                    refine pu_ HT_ 36 (some 202) (tf 37 5) (h := ?_)
                    refine pu_ HT_ 37 (some 203) (tf 38 4) (h := ?_)
                    refine pu_ HT_ 38 (some 204) (tf 39 3) (h := ?_)
                    refine pu_ HT_ 39 (some 205) (tf 40 2) (h := ?_)
                    refine pv_ HT_ 40 (some 206) (tf 41 1) (h := ?_)
                    refine pv_ HT_ 41 (some 207) (tf 42 0) (h := ?_)
                    refine done_ (done_of HT_.out (by kernel_rfl)) ?_
                    try go_wp2
                    go_meet
                    case rel => exact ⟨_, (true), (by first | rfl | (simp; done) | (simp [*]; done)), H', ⟨by have := HJ2.out; have := HK2.out; have := HJ64.out; have := HK4.out; first | omega | exact Nat.le_refl _⟩, ⟨by (with_reducible repeat (first | refine blk_drewN ?_ _ | refine blk_drew ?_ | refine blk_alloc ?_ _)); exact BK128.out⟩, ⟨by repeat (first | (with_reducible first | exact HB.out | apply below_alloc | apply pw_below_drewN | apply below_drew1 | refine below_set ?_ GE128.out) | exact HB.out)⟩⟩
                  ·rw [if_neg c80] at H
                   have c80b0 : decide ((wrap64 ((l0_3.length : Int) + 1)) < (rd l0_9 x6_4)) = false := decide_eq_false c80
                   clear c80
                   by_cases c82 : x6_4 < (l0_10.length : Int)
                   ·rw [if_pos c82] at H
                    have c82b0 : decide (x6_4 < (l0_10.length : Int)) = true := decide_eq_true c82
                    clear c82
                    by_cases c83 : (rd l0_10 x6_4) < 0
                    ·rw [if_pos c83] at H
                     have c83b0 : decide ((rd l0_10 x6_4) < 0) = true := decide_eq_true c83
                     clear c83
                     as_aux_lemma =>
                      have H' := Aside0.mk H
                      clear H
                      try go_wp2
                      replace BK128 := Aside0.mk (blk_drew BK128.out)
                      replace HB := Aside0.mk (below_drew1 HB.out)
                      have p138 : 0 ≤ (x6_4 : Int) := od
                      have q138 : x6_4 < (l0_9.length : Int) := od
                      obtain ⟨ad138, e138, hx138_0⟩ := Kd.at_int HR0_9.out x6_4 p138 q138
                      have hw138_0 := hx138_0
                      cases e138
                      replace hx138_0 := hxb HB hx138_0
                      replace p138 := eq_true p138
                      replace q138 := eq_true q138
                      have p139 : 0 ≤ (x6_4 : Int) := od
                      have q139 : x6_4 < (l0_9.length : Int) := od
                      obtain ⟨ad139, e139, hx139_0⟩ := Kd.at_int HR0_9.out x6_4 p139 q139
                      have hw139_0 := hx139_0
                      obtain rfl : ad138 = ad139 := (by injection e139)
                      replace hx139_0 := hxb HB hx139_0
                      replace p139 := eq_true p139
                      replace q139 := eq_true q139
                      have p140 : 0 ≤ (x6_4 : Int) := od
                      have q140 : x6_4 < (l0_10.length : Int) := od
                      obtain ⟨ad140, e140, hx140_0⟩ := Kd.at_int HR0_10.out x6_4 p140 q140
                      have hw140_0 := hx140_0
                      cases e140
                      replace hx140_0 := hxb HB hx140_0
                      replace p140 := eq_true p140
                      replace q140 := eq_true q140
                      refine start_ (n := 42) (S := fun w' => w'.cell? ⟨gb128, 0, none⟩ = some (.int .i64 a0_0) ∧ w'.cell? ⟨gb128, 1, none⟩ = some (.int .i64 a0_1) ∧ w'.cell? ⟨gb128, 2, none⟩ = some (.int .i64 a0_2) ∧ w'.cell? ⟨gb128, 3, none⟩ = some (.slice A0_3 l0_3.length c0_3) ∧ w'.cell? ⟨gb128, 4, none⟩ = some (.int .i64 a0_4) ∧ w'.cell? ⟨gb128, 5, none⟩ = some (.int .i64 a0_5) ∧ w'.cell? ⟨gb128, 6, none⟩ = some (.int .i64 a0_6) ∧ w'.cell? ⟨gb128, 7, none⟩ = some (.int .i64 a0_7) ∧ w'.cell? ⟨gb128, 8, none⟩ = some (.slice A0_8 l0_8.length c0_8) ∧ w'.cell? ⟨gb128, 9, none⟩ = some (.slice (some ad138) l0_9.length c0_9) ∧ w'.cell? ⟨gb128, 10, none⟩ = some (.slice (some ad140) l0_10.length c0_10) ∧ w'.cell? (ad138.add (x6_4).toNat) = some (.int .i64 (rd l0_9 x6_4)) ∧ w'.cell? (ad138.add (x6_4).toNat) = some (.int .i64 (rd l0_9 x6_4)) ∧ w'.cell? (ad140.add (x6_4).toNat) = some (.int .i64 (rd l0_10 x6_4))) (ds := []) (tf 0 42) (by kernel_rfl) rfl rfl (cells_11 BK128.out ⟨(hxb HB hw138_0 :), (hxb HB hw139_0 :), (hxb HB hw140_0 :)⟩) (fun hHeld => ?_); refine with_tabW spec_NodeOk.tab13 spec_NodeOk.bits13 (fun HT_ HW_ => ?_)
                      generalize wr.drew = w84 at BK128 HB hx138_0 hx139_0 hx140_0 hHeld ⊢
                      refine pv_ HT_ 0 (some 166) (tf 1 41) (h := ?_)
                      refine tv_ HT_ HW_ hHeld 1 (some 167) (tf 2 40) (h := ?_)
                      refine pv_ HT_ 2 (some 168) (tf 3 39) (h := ?_)
                      refine pv_ HT_ 3 (some 169) (tf 4 38) (h := ?_)
                      refine pv_ HT_ 4 (some 170) (tf 5 37) (h := ?_)
                      refine pv_ HT_ 6 (some 172) (tb 42 95) (h := ?_)
                      refine tv_ HT_ HW_ hHeld 5 (some 171) (tf 7 35) (h := ?_)
                      refine pv_ HT_ 7 (some 173) (tf 8 34) (h := ?_)
                      refine tv_ HT_ HW_ hHeld 8 (some 174) (tf 9 33) (h := ?_)
                      refine pv_ HT_ 9 (some 175) (tf 10 32) (h := ?_)
                      refine pv_ HT_ 10 (some 176) (tf 11 31) (h := ?_)
                      refine pv_ HT_ 11 (some 177) (tf 12 30) (h := ?_)
                      refine pv_ HT_ 13 (some 179) (tb 42 12287) (h := ?_)
                      refine pv_ HT_ 16 (some 182) (tb 42 77823) (h := ?_)
                      refine tv_ HT_ HW_ hHeld 12 (some 178) (tb 42 81919) (h := ?_)
                      refine pv_ HT_ 14 (some 180) (tb 42 98303) (h := ?_)
                      refine tv_ HT_ HW_ hHeld 15 (some 181) (tf 17 25) (h := ?_)
                      refine tv_ HT_ HW_ hHeld 17 (some 183) (tf 18 24) (h := ?_)
                      refine pv_ HT_ 18 (some 184) (tf 19 23) (h := ?_)
                      refine pv_ HT_ 19 (some 185) (tf 20 22) (h := ?_)
                      refine pv_ HT_ 20 (some 186) (tf 21 21) (h := ?_)
                      refine pv_ HT_ 21 (some 187) (tf 22 20) (h := ?_)
                      refine pv_ HT_ 22 (some 188) (tf 23 19) (h := ?_)
                      refine pv_ HT_ 23 (some 189) (tf 24 18) (h := ?_)
                      refine pv_ HT_ 25 (some 191) (tb 42 50331647) (h := ?_)
                      refine tv_ HT_ HW_ hHeld 24 (some 190) (tf 26 16) (h := ?_)
                      refine pv_ HT_ 26 (some 192) (tf 27 15) (h := ?_)
                      refine tv_ HT_ HW_ hHeld 27 (some 193) (tf 28 14) (h := ?_)
                      refine pv_ HT_ 28 (some 194) (tf 29 13) (h := ?_)
                      refine pv_ HT_ 29 (some 195) (tf 30 12) (h := ?_)
                      refine pv_ HT_ 30 (some 196) (tf 31 11) (h := ?_)
                      refine pu_ HT_ 31 (some 197) (tf 32 10) (h := ?_)
                      refine pu_ HT_ 32 (some 198) (tf 33 9) (h := ?_)
                      refine pu_ HT_ 33 (some 199) (tf 34 8) (h := ?_)
                      refine pu_ HT_ 34 (some 200) (tf 35 7) (h := ?_)
                      refine pu_ HT_ 35 (some 201) (tf 36 6) (h := ?_)
                      refine pu_ HT_ 36 (some 202) (tf 37 5) (h := ?_)
                      refine pu_ HT_ 37 (some 203) (tf 38 4) (h := ?_)
                      refine pu_ HT_ 38 (some 204) (tf 39 3) (h := ?_)
                      refine pu_ HT_ 39 (some 205) (tf 40 2) (h := ?_)
                      refine pv_ HT_ 40 (some 206) (tf 41 1) (h := ?_)
                      refine pv_ HT_ 41 (some 207) (tf 42 0) (h := ?_)
                      refine done_ (done_of HT_.out (by kernel_rfl)) ?_
                      try go_wp2
                      go_meet
                      case rel => exact ⟨_, (true), (by first | rfl | (simp; done) | (simp [*]; done)), H', ⟨by have := HJ2.out; have := HK2.out; have := HJ64.out; have := HK4.out; first | omega | exact Nat.le_refl _⟩, ⟨by (with_reducible repeat (first | refine blk_drewN ?_ _ | refine blk_drew ?_ | refine blk_alloc ?_ _)); exact BK128.out⟩, ⟨by repeat (first | (with_reducible first | exact HB.out | apply below_alloc | apply pw_below_drewN | apply below_drew1 | refine below_set ?_ GE128.out) | exact HB.out)⟩⟩
                    ·rw [if_neg c83] at H
                     have c83b0 : decide ((rd l0_10 x6_4) < 0) = false := decide_eq_false c83
                     clear c83
                     as_aux_lemma =>
                      have H' := Aside0.mk H
                      clear H
                      try go_wp2
                      replace BK128 := Aside0.mk (blk_drew BK128.out)
                      replace HB := Aside0.mk (below_drew1 HB.out)
                      have p138 : 0 ≤ (x6_4 : Int) := od
                      have q138 : x6_4 < (l0_9.length : Int) := od
                      obtain ⟨ad138, e138, hx138_0⟩ := Kd.at_int HR0_9.out x6_4 p138 q138
                      have hw138_0 := hx138_0
                      cases e138
                      replace hx138_0 := hxb HB hx138_0
                      replace p138 := eq_true p138
                      replace q138 := eq_true q138
                      have p139 : 0 ≤ (x6_4 : Int) := od
                      have q139 : x6_4 < (l0_9.length : Int) := od
                      obtain ⟨ad139, e139, hx139_0⟩ := Kd.at_int HR0_9.out x6_4 p139 q139
                      have hw139_0 := hx139_0
                      obtain rfl : ad138 = ad139 := (by injection e139)
                      replace hx139_0 := hxb HB hx139_0
                      replace p139 := eq_true p139
                      replace q139 := eq_true q139
                      have p140 : 0 ≤ (x6_4 : Int) := od
                      have q140 : x6_4 < (l0_10.length : Int) := od
                      obtain ⟨ad140, e140, hx140_0⟩ := Kd.at_int HR0_10.out x6_4 p140 q140
                      have hw140_0 := hx140_0
                      cases e140
                      replace hx140_0 := hxb HB hx140_0
                      replace p140 := eq_true p140
                      replace q140 := eq_true q140
                      have p141 : 0 ≤ (x6_4 : Int) := od
                      have q141 : x6_4 < (l0_10.length : Int) := od
                      obtain ⟨ad141, e141, hx141_0⟩ := Kd.at_int HR0_10.out x6_4 p141 q141
                      have hw141_0 := hx141_0
                      obtain rfl : ad140 = ad141 := (by injection e141)
                      replace hx141_0 := hxb HB hx141_0
                      replace p141 := eq_true p141
                      replace q141 := eq_true q141
                      refine start_ (n := 42) (S := fun w' => w'.cell? ⟨gb128, 0, none⟩ = some (.int .i64 a0_0) ∧ w'.cell? ⟨gb128, 1, none⟩ = some (.int .i64 a0_1) ∧ w'.cell? ⟨gb128, 2, none⟩ = some (.int .i64 a0_2) ∧ w'.cell? ⟨gb128, 3, none⟩ = some (.slice A0_3 l0_3.length c0_3) ∧ w'.cell? ⟨gb128, 4, none⟩ = some (.int .i64 a0_4) ∧ w'.cell? ⟨gb128, 5, none⟩ = some (.int .i64 a0_5) ∧ w'.cell? ⟨gb128, 6, none⟩ = some (.int .i64 a0_6) ∧ w'.cell? ⟨gb128, 7, none⟩ = some (.int .i64 a0_7) ∧ w'.cell? ⟨gb128, 8, none⟩ = some (.slice A0_8 l0_8.length c0_8) ∧ w'.cell? ⟨gb128, 9, none⟩ = some (.slice (some ad138) l0_9.length c0_9) ∧ w'.cell? ⟨gb128, 10, none⟩ = some (.slice (some ad140) l0_10.length c0_10) ∧ w'.cell? (ad138.add (x6_4).toNat) = some (.int .i64 (rd l0_9 x6_4)) ∧ w'.cell? (ad138.add (x6_4).toNat) = some (.int .i64 (rd l0_9 x6_4)) ∧ w'.cell? (ad140.add (x6_4).toNat) = some (.int .i64 (rd l0_10 x6_4)) ∧ w'.cell? (ad140.add (x6_4).toNat) = some (.int .i64 (rd l0_10 x6_4))) (ds := []) (tf 0 42) (by kernel_rfl) rfl rfl (cells_11 BK128.out ⟨(hxb HB hw138_0 :), (hxb HB hw139_0 :), (hxb HB hw140_0 :), (hxb HB hw141_0 :)⟩) (fun hHeld => ?_); refine with_tabW spec_NodeOk.tab13 spec_NodeOk.bits13 (fun HT_ HW_ => ?_)
                      generalize wr.drew = w85 at BK128 HB hx138_0 hx139_0 hx140_0 hx141_0 hHeld ⊢
                      refine pv_ HT_ 0 (some 166) (tf 1 41) (h := ?_)
                      refine tv_ HT_ HW_ hHeld 1 (some 167) (tf 2 40) (h := ?_)
                      refine pv_ HT_ 2 (some 168) (tf 3 39) (h := ?_)
                      refine pv_ HT_ 3 (some 169) (tf 4 38) (h := ?_)
                      refine pv_ HT_ 4 (some 170) (tf 5 37) (h := ?_)
                      refine pv_ HT_ 6 (some 172) (tb 42 95) (h := ?_)
                      refine tv_ HT_ HW_ hHeld 5 (some 171) (tf 7 35) (h := ?_)
                      refine pv_ HT_ 7 (some 173) (tf 8 34) (h := ?_)
                      refine tv_ HT_ HW_ hHeld 8 (some 174) (tf 9 33) (h := ?_)
                      refine pv_ HT_ 9 (some 175) (tf 10 32) (h := ?_)
                      refine pv_ HT_ 10 (some 176) (tf 11 31) (h := ?_)
                      refine pv_ HT_ 11 (some 177) (tf 12 30) (h := ?_)
                      refine pv_ HT_ 13 (some 179) (tb 42 12287) (h := ?_)
                      refine pv_ HT_ 16 (some 182) (tb 42 77823) (h := ?_)
                      refine tv_ HT_ HW_ hHeld 12 (some 178) (tb 42 81919) (h := ?_)
                      refine pv_ HT_ 14 (some 180) (tb 42 98303) (h := ?_)
                      refine tv_ HT_ HW_ hHeld 15 (some 181) (tf 17 25) (h := ?_)
                      refine tv_ HT_ HW_ hHeld 17 (some 183) (tf 18 24) (h := ?_)
                      refine pv_ HT_ 18 (some 184) (tf 19 23) (h := ?_)
                      refine pv_ HT_ 19 (some 185) (tf 20 22) (h := ?_)
                      refine pv_ HT_ 20 (some 186) (tf 21 21) (h := ?_)
                      refine pv_ HT_ 21 (some 187) (tf 22 20) (h := ?_)
                      refine pv_ HT_ 22 (some 188) (tf 23 19) (h := ?_)
                      refine pv_ HT_ 23 (some 189) (tf 24 18) (h := ?_)
                      refine pv_ HT_ 25 (some 191) (tb 42 50331647) (h := ?_)
                      refine tv_ HT_ HW_ hHeld 24 (some 190) (tf 26 16) (h := ?_)
                      refine pv_ HT_ 26 (some 192) (tf 27 15) (h := ?_)
                      refine tv_ HT_ HW_ hHeld 27 (some 193) (tf 28 14) (h := ?_)
                      refine pv_ HT_ 28 (some 194) (tf 29 13) (h := ?_)
                      refine pv_ HT_ 29 (some 195) (tf 30 12) (h := ?_)
                      refine pv_ HT_ 30 (some 196) (tf 31 11) (h := ?_)
                      refine pv_ HT_ 31 (some 197) (tf 32 10) (h := ?_)
                      refine pv_ HT_ 33 (some 199) (tb 42 12884901887) (h := ?_)
                      refine pv_ HT_ 36 (some 202) (tb 42 81604378623) (h := ?_)
                      refine tv_ HT_ HW_ hHeld 32 (some 198) (tb 42 85899345919) (h := ?_)
                      refine pv_ HT_ 34 (some 200) (tb 42 103079215103) (h := ?_)
                      refine tv_ HT_ HW_ hHeld 35 (some 201) (tf 37 5) (h := ?_)
                      refine tv_ HT_ HW_ hHeld 37 (some 203) (tf 38 4) (h := ?_)
                      refine pv_ HT_ 38 (some 204) (tf 39 3) (h := ?_)
                      refine pv_ HT_ 39 (some 205) (tf 40 2) (h := ?_)
                      refine pv_ HT_ 40 (some 206) (tf 41 1) (h := ?_)
                      refine pv_ HT_ 41 (some 207) (tf 42 0) (h := ?_)
                      refine done_ (done_of HT_.out (by kernel_rfl)) ?_
                      try go_wp2
                      go_meet
                      case rel => exact ⟨_, (decide ((rd l0_10 x6_4) > (l0_3.length : Int))), (by first | rfl | (simp; done) | (simp [*]; done)), H', ⟨by have := HJ2.out; have := HK2.out; have := HJ64.out; have := HK4.out; first | omega | exact Nat.le_refl _⟩, ⟨by (with_reducible repeat (first | refine blk_drewN ?_ _ | refine blk_drew ?_ | refine blk_alloc ?_ _)); exact BK128.out⟩, ⟨by repeat (first | (with_reducible first | exact HB.out | apply below_alloc | apply pw_below_drewN | apply below_drew1 | refine below_set ?_ GE128.out) | exact HB.out)⟩⟩
                   ·rw [if_neg c82] at H
                    exact absurd H (by simp)
                ·rw [if_neg c77] at H
                 exact absurd H (by simp)
               ·rw [if_neg c76] at H
                exact absurd H (by simp)
              ·rw [if_neg c75] at H
               have c75b0 : (a0_5 == 2) = false := beq_eq_false_iff_ne.mpr c75
               have c75b1 : (a0_5 != 2) = true := bne_iff_ne.mpr c75
               (first | rw [c75b0] | (simp only [i64_w, i32_w]; rw [c75b0]) | skip)
               as_aux_lemma =>
                have H' := Aside0.mk H
                clear H
                try go_wp2
                replace BK128 := Aside0.mk (blk_drew BK128.out)
                replace HB := Aside0.mk (below_drew1 HB.out)
                refine start_ (n := 42) (S := fun w' => w'.cell? ⟨gb128, 0, none⟩ = some (.int .i64 a0_0) ∧ w'.cell? ⟨gb128, 1, none⟩ = some (.int .i64 a0_1) ∧ w'.cell? ⟨gb128, 2, none⟩ = some (.int .i64 a0_2) ∧ w'.cell? ⟨gb128, 3, none⟩ = some (.slice A0_3 l0_3.length c0_3) ∧ w'.cell? ⟨gb128, 4, none⟩ = some (.int .i64 a0_4) ∧ w'.cell? ⟨gb128, 5, none⟩ = some (.int .i64 a0_5) ∧ w'.cell? ⟨gb128, 6, none⟩ = some (.int .i64 a0_6) ∧ w'.cell? ⟨gb128, 7, none⟩ = some (.int .i64 a0_7) ∧ w'.cell? ⟨gb128, 8, none⟩ = some (.slice A0_8 l0_8.length c0_8) ∧ w'.cell? ⟨gb128, 9, none⟩ = some (.slice A0_9 l0_9.length c0_9) ∧ w'.cell? ⟨gb128, 10, none⟩ = some (.slice A0_10 l0_10.length c0_10)) (ds := []) (tf 0 42) (by kernel_rfl) rfl rfl (cellz_11 BK128.out) (fun hHeld => ?_); refine with_tabW spec_NodeOk.tab13 spec_NodeOk.bits13 (fun HT_ HW_ => ?_)
                generalize wr.drew = w86 at BK128 HB hHeld ⊢
                refine pv_ HT_ 0 (some 166) (tf 1 41) (h := ?_)
                refine tv_ HT_ HW_ hHeld 1 (some 167) (tf 2 40) (h := ?_)
                refine pv_ HT_ 2 (some 168) (tf 3 39) (h := ?_)
                refine pv_ HT_ 3 (some 169) (tf 4 38) (h := ?_)
                refine pu_ HT_ 4 (some 170) (tf 5 37) (h := ?_)
                refine pu_ HT_ 5 (some 171) (tf 6 36) (h := ?_)
                refine pu_ HT_ 6 (some 172) (tf 7 35) (h := ?_)
                refine pu_ HT_ 7 (some 173) (tf 8 34) (h := ?_)
                refine pu_ HT_ 8 (some 174) (tf 9 33) (h := ?_)
                refine pu_ HT_ 9 (some 175) (tf 10 32) (h := ?_)
                refine pu_ HT_ 10 (some 176) (tf 11 31) (h := ?_)
                refine pu_ HT_ 11 (some 177) (tf 12 30) (h := ?_)
                refine pu_ HT_ 12 (some 178) (tf 13 29) (h := ?_)
                refine pu_ HT_ 13 (some 179) (tf 14 28) (h := ?_)
                refine pu_ HT_ 14 (some 180) (tf 15 27) (h := ?_)
                refine pu_ HT_ 15 (some 181) (tf 16 26) (h := ?_)
                refine pu_ HT_ 16 (some 182) (tf 17 25) (h := ?_)
                refine pu_ HT_ 17 (some 183) (tf 18 24) (h := ?_)
                refine pu_ HT_ 18 (some 184) (tf 19 23) (h := ?_)
                refine pu_ HT_ 19 (some 185) (tf 20 22) (h := ?_)
                refine pu_ HT_ 20 (some 186) (tf 21 21) (h := ?_)
                refine pu_ HT_ 21 (some 187) (tf 22 20) (h := ?_)
                refine pu_ HT_ 22 (some 188) (tf 23 19) (h := ?_)
                refine pu_ HT_ 23 (some 189) (tf 24 18) (h := ?_)
                refine pu_ HT_ 24 (some 190) (tf 25 17) (h := ?_)
                refine pu_ HT_ 25 (some 191) (tf 26 16) (h := ?_)
                refine pu_ HT_ 26 (some 192) (tf 27 15) (h := ?_)
                refine pu_ HT_ 27 (some 193) (tf 28 14) (h := ?_)
                refine pu_ HT_ 28 (some 194) (tf 29 13) (h := ?_)
                refine pu_ HT_ 29 (some 195) (tf 30 12) (h := ?_)
                refine pu_ HT_ 30 (some 196) (tf 31 11) (h := ?_)
                refine pu_ HT_ 31 (some 197) (tf 32 10) (h := ?_)
                refine pu_ HT_ 32 (some 198) (tf 33 9) (h := ?_)
                refine pu_ HT_ 33 (some 199) (tf 34 8) (h := ?_)
                refine pu_ HT_ 34 (some 200) (tf 35 7) (h := ?_)
                refine pu_ HT_ 35 (some 201) (tf 36 6) (h := ?_)
                refine pu_ HT_ 36 (some 202) (tf 37 5) (h := ?_)
                refine pu_ HT_ 37 (some 203) (tf 38 4) (h := ?_)
                refine pu_ HT_ 38 (some 204) (tf 39 3) (h := ?_)
                refine pu_ HT_ 39 (some 205) (tf 40 2) (h := ?_)
                refine pu_ HT_ 40 (some 206) (tf 41 1) (h := ?_)
                refine pv_ HT_ 41 (some 207) (tf 42 0) (h := ?_)
                refine done_ (done_of HT_.out (by kernel_rfl)) ?_
                try go_wp2
                go_meet
                case rel => exact ⟨_, (false), (by first | rfl | (simp; done) | (simp [*]; done)), H', ⟨by have := HJ2.out; have := HK2.out; have := HJ64.out; have := HK4.out; first | omega | exact Nat.le_refl _⟩, ⟨by (with_reducible repeat (first | refine blk_drewN ?_ _ | refine blk_drew ?_ | refine blk_alloc ?_ _)); exact BK128.out⟩, ⟨by repeat (first | (with_reducible first | exact HB.out | apply below_alloc | apply pw_below_drewN | apply below_drew1 | refine below_set ?_ GE128.out) | exact HB.out)⟩⟩
             case rest => as_aux_lemma =>
              clear HC74
              try clear p1; try clear q1; try clear hx1; try clear p2; try clear c7; try clear c8; try clear p13; try clear q13; try clear hx13; try clear p14; try clear q14; try clear hx14; try clear c75; try clear c75b0; try clear c75b1; try clear c76; try clear c77; try clear c82; try clear hx138_0; try clear hx139_0; try clear hx140_0; try clear hx141_0; try clear p138; try clear p139; try clear p140; try clear p141; try clear q138; try clear q139; try clear q140; try clear q141
              obtain ⟨kq, x207_73, rfl, HA, HJ73, BK128, HB⟩ := hcut
              cases kq with
              | zero => exact absurd HA.out (by simp [spec_NodeOk.j4])
              | succ kj73 =>
               have H := HA.out
               clear HA
               simp only [spec_NodeOk.j4] at H
               by_cases c87 : x207_73 = true
               ·subst c87
                have H1 : (some false) = some r := by rw [if_pos rfl] at H; exact H
                clear H
                have H := H1
                clear H1
                as_aux_lemma =>
                 obtain rfl := Option.some.inj H
                 go_wp2
                 go_ret
                 exact ⟨by first | rfl | (simp [errW_none, errW_some] <;> rfl) | (simp [*, errW_none, errW_some] <;> rfl), by repeat (first | (with_reducible first | exact HB.out | apply below_alloc | apply pw_below_drewN | apply below_drew1 | refine below_set ?_ GE128.out) | exact HB.out)⟩
               ·replace c87 := Bool.eq_false_iff.mpr c87
                subst c87
                have H1 : (if a0_5 = 2 then (spec_NodeOk.j5 kj73 a1 x6_4 false a0_0 a0_1 a0_2 l0_3 a0_4 a0_5 a0_6 a0_7 l0_8 l0_9 l0_10) else (if 0 ≤ x6_4 then (if x6_4 < (l0_9.length : Int) then (if (rd l0_9 x6_4) = 0 then (if x6_4 < (l0_10.length : Int) then (spec_NodeOk.j5 kj73 a1 x6_4 ((rd l0_10 x6_4) != 0) a0_0 a0_1 a0_2 l0_3 a0_4 a0_5 a0_6 a0_7 l0_8 l0_9 l0_10) else (none)) else (spec_NodeOk.j5 kj73 a1 x6_4 true a0_0 a0_1 a0_2 l0_3 a0_4 a0_5 a0_6 a0_7 l0_8 l0_9 l0_10)) else (none)) else (none))) = some r := by rw [if_neg (show ¬ (false = true) by decide)] at H; exact H
                clear H
                have H := H1
                clear H1
                have HC88 := Aside0.mk H
                clear H
                go_upto_region 15 with (fail)
                go_cut [226] (fun v226 wc => ∃ (kq : Nat) (x226_87 : Bool), v226 = .bool x226_87 ∧ Aside0 (spec_NodeOk.j5 kq a1 x6_4 x226_87 a0_0 a0_1 a0_2 l0_3 a0_4 a0_5 a0_6 a0_7 l0_8 l0_9 l0_10 = some r) ∧ Aside0 (kq ≤ kj73) ∧ Aside0 (wc.heap[gb128]? = some (.cells #[.int .i64 a0_0, .int .i64 a0_1, .int .i64 a0_2, (.slice A0_3 l0_3.length c0_3), .int .i64 a0_4, .int .i64 a0_5, .int .i64 a0_6, .int .i64 a0_7, (.slice A0_8 l0_8.length c0_8), (.slice A0_9 l0_9.length c0_9), (.slice A0_10 l0_10.length c0_10)] 48 (0, 0))) ∧ Aside0 (Below w.heap.size w wc))
                case first => as_aux_lemma =>
                 have H := HC88.out
                 clear HC88
                 by_cases c89 : a0_5 = 2
                 ·rw [if_pos c89] at H
                  have c89b0 : (a0_5 == 2) = true := beq_iff_eq.mpr c89
                  have c89b1 : (a0_5 != 2) = false := bne_eq_false_iff_eq.mpr c89
                  clear c89
                  (first | rw [c89b0] | (simp only [i64_w, i32_w]; rw [c89b0]) | skip)
                  as_aux_lemma =>
                   have H' := Aside0.mk H
                   clear H
                   obtain ⟨hcz90_0, hcz90_1, hcz90_2, hcz90_3, hcz90_4, hcz90_5, hcz90_6, hcz90_7, hcz90_8, hcz90_9, hcz90_10, -⟩ := cells_11 BK128.out trivial
                   obtain ⟨hfz90_0, hfz90_1, hfz90_2, hfz90_3, hfz90_4, hfz90_5, hfz90_6, hfz90_7, hfz90_8, hfz90_9, hfz90_10, -⟩ := frz_11 BK128.out
                   go_wp2
                   go_meet
                   case rel => exact ⟨_, (false), (by first | rfl | (simp; done) | (simp [*]; done)), H', ⟨by have := HJ2.out; have := HK2.out; have := HJ64.out; have := HK4.out; have := HJ73.out; first | omega | exact Nat.le_refl _⟩, ⟨by (with_reducible repeat (first | refine blk_drewN ?_ _ | refine blk_drew ?_ | refine blk_alloc ?_ _)); exact BK128.out⟩, ⟨by repeat (first | (with_reducible first | exact HB.out | apply below_alloc | apply pw_below_drewN | apply below_drew1 | refine below_set ?_ GE128.out) | exact HB.out)⟩⟩
                 ·rw [if_neg c89] at H
                  have c89b0 : (a0_5 == 2) = false := beq_eq_false_iff_ne.mpr c89
                  have c89b1 : (a0_5 != 2) = true := bne_iff_ne.mpr c89
                  (first | rw [c89b0] | (simp only [i64_w, i32_w]; rw [c89b0]) | skip)
                  by_cases c91 : 0 ≤ x6_4
                  ·rw [if_pos c91] at H
                   have c91b0 : decide (0 ≤ x6_4) = true := decide_eq_true c91
                   clear c91
                   by_cases c92 : x6_4 < (l0_9.length : Int)
                   ·rw [if_pos c92] at H
                    have c92b0 : decide (x6_4 < (l0_9.length : Int)) = true := decide_eq_true c92
                    clear c92
                    by_cases c93 : (rd l0_9 x6_4) = 0
                    ·rw [if_pos c93] at H
                     have c93b0 : ((rd l0_9 x6_4) == 0) = true := beq_iff_eq.mpr c93
                     have c93b1 : ((rd l0_9 x6_4) != 0) = false := bne_eq_false_iff_eq.mpr c93
                     clear c93
                     by_cases c94 : x6_4 < (l0_10.length : Int)
                     ·rw [if_pos c94] at H
                      have c94b0 : decide (x6_4 < (l0_10.length : Int)) = true := decide_eq_true c94
                      clear c94
                      as_aux_lemma =>
                       have H' := Aside0.mk H
                       clear H
                       obtain ⟨hcz95_0, hcz95_1, hcz95_2, hcz95_3, hcz95_4, hcz95_5, hcz95_6, hcz95_7, hcz95_8, hcz95_9, hcz95_10, -⟩ := cells_11 BK128.out trivial
                       obtain ⟨hfz95_0, hfz95_1, hfz95_2, hfz95_3, hfz95_4, hfz95_5, hfz95_6, hfz95_7, hfz95_8, hfz95_9, hfz95_10, -⟩ := frz_11 BK128.out
                       have p142 : 0 ≤ (x6_4 : Int) := od
                       have q142 : x6_4 < (l0_9.length : Int) := od
                       obtain ⟨ad142, e142, hx142_0⟩ := Kd.at_int HR0_9.out x6_4 p142 q142
                       cases e142
                       replace hx142_0 := hxb HB hx142_0
                       replace p142 := eq_true p142
                       replace q142 := eq_true q142
                       have p143 : 0 ≤ (x6_4 : Int) := od
                       have q143 : x6_4 < (l0_10.length : Int) := od
                       obtain ⟨ad143, e143, hx143_0⟩ := Kd.at_int HR0_10.out x6_4 p143 q143
                       cases e143
                       replace hx143_0 := hxb HB hx143_0
                       replace p143 := eq_true p143
                       replace q143 := eq_true q143
                       go_wp2
                       go_meet
                       case rel => exact ⟨_, (((rd l0_10 x6_4) != 0)), (by first | rfl | (simp; done) | (simp [*]; done)), H', ⟨by have := HJ2.out; have := HK2.out; have := HJ64.out; have := HK4.out; have := HJ73.out; first | omega | exact Nat.le_refl _⟩, ⟨by (with_reducible repeat (first | refine blk_drewN ?_ _ | refine blk_drew ?_ | refine blk_alloc ?_ _)); exact BK128.out⟩, ⟨by repeat (first | (with_reducible first | exact HB.out | apply below_alloc | apply pw_below_drewN | apply below_drew1 | refine below_set ?_ GE128.out) | exact HB.out)⟩⟩
                     ·rw [if_neg c94] at H
                      exact absurd H (by simp)
                    ·rw [if_neg c93] at H
                     have c93b0 : ((rd l0_9 x6_4) == 0) = false := beq_eq_false_iff_ne.mpr c93
                     have c93b1 : ((rd l0_9 x6_4) != 0) = true := bne_iff_ne.mpr c93
                     as_aux_lemma =>
                      have H' := Aside0.mk H
                      clear H
                      obtain ⟨hcz96_0, hcz96_1, hcz96_2, hcz96_3, hcz96_4, hcz96_5, hcz96_6, hcz96_7, hcz96_8, hcz96_9, hcz96_10, -⟩ := cells_11 BK128.out trivial
                      obtain ⟨hfz96_0, hfz96_1, hfz96_2, hfz96_3, hfz96_4, hfz96_5, hfz96_6, hfz96_7, hfz96_8, hfz96_9, hfz96_10, -⟩ := frz_11 BK128.out
                      have p142 : 0 ≤ (x6_4 : Int) := od
                      have q142 : x6_4 < (l0_9.length : Int) := od
                      obtain ⟨ad142, e142, hx142_0⟩ := Kd.at_int HR0_9.out x6_4 p142 q142
                      cases e142
                      replace hx142_0 := hxb HB hx142_0
                      replace p142 := eq_true p142
                      replace q142 := eq_true q142
                      go_wp2
                      go_meet
                      case rel => exact ⟨_, (true), (by first | rfl | (simp; done) | (simp [*]; done)), H', ⟨by have := HJ2.out; have := HK2.out; have := HJ64.out; have := HK4.out; have := HJ73.out; first | omega | exact Nat.le_refl _⟩, ⟨by (with_reducible repeat (first | refine blk_drewN ?_ _ | refine blk_drew ?_ | refine blk_alloc ?_ _)); exact BK128.out⟩, ⟨by repeat (first | (with_reducible first | exact HB.out | apply below_alloc | apply pw_below_drewN | apply below_drew1 | refine below_set ?_ GE128.out) | exact HB.out)⟩⟩
                   ·rw [if_neg c92] at H
                    exact absurd H (by simp)
                  ·rw [if_neg c91] at H
                   exact absurd H (by simp)
                case rest => as_aux_lemma =>
                 clear HC88
                 try clear p1; try clear q1; try clear hx1; try clear p2; try clear c7; try clear c8; try clear c9; try clear p13; try clear q13; try clear hx13; try clear p14; try clear q14; try clear hx14; try clear c75; try clear c75b0; try clear c75b1; try clear c76; try clear c77; try clear c82; try clear c87; try clear c89; try clear c89b0; try clear c89b1; try clear c91; try clear c91b0; try clear c92; try clear c92b0; try clear c93; try clear c93b0; try clear c93b1; try clear c94; try clear c94b0; try clear hcz90_0; try clear hcz90_1; try clear hcz90_10; try clear hcz90_2; try clear hcz90_3; try clear hcz90_4; try clear hcz90_5; try clear hcz90_6; try clear hcz90_7; try clear hcz90_8; try clear hcz90_9; try clear hcz95_0; try clear hcz95_1; try clear hcz95_10; try clear hcz95_2; try clear hcz95_3; try clear hcz95_4; try clear hcz95_5; try clear hcz95_6; try clear hcz95_7; try clear hcz95_8; try clear hcz95_9; try clear hcz96_0; try clear hcz96_1; try clear hcz96_10; try clear hcz96_2; try clear hcz96_3; try clear hcz96_4; try clear hcz96_5; try clear hcz96_6; try clear hcz96_7; try clear hcz96_8; try clear hcz96_9; try clear hfz90_0; try clear hfz90_1; try clear hfz90_10; try clear hfz90_2; try clear hfz90_3; try clear hfz90_4; try clear hfz90_5; try clear hfz90_6; try clear hfz90_7; try clear hfz90_8; try clear hfz90_9; try clear hfz95_0; try clear hfz95_1; try clear hfz95_10; try clear hfz95_2; try clear hfz95_3; try clear hfz95_4; try clear hfz95_5; try clear hfz95_6; try clear hfz95_7; try clear hfz95_8; try clear hfz95_9; try clear hfz96_0; try clear hfz96_1; try clear hfz96_10; try clear hfz96_2; try clear hfz96_3; try clear hfz96_4; try clear hfz96_5; try clear hfz96_6; try clear hfz96_7; try clear hfz96_8; try clear hfz96_9; try clear hx138_0; try clear hx139_0; try clear hx140_0; try clear hx141_0; try clear hx142_0; try clear hx143_0; try clear p1; try clear p13; try clear p138; try clear p139; try clear p14; try clear p140; try clear p141; try clear p142; try clear p143; try clear p2; try clear q1; try clear q13; try clear q138; try clear q139; try clear q14; try clear q140; try clear q141; try clear q142; try clear q143
                 obtain ⟨kq, x226_87, rfl, HA, HJ87, BK128, HB⟩ := hcut
                 cases kq with
                 | zero => exact absurd HA.out (by simp [spec_NodeOk.j5])
                 | succ kj87 =>
                  have H := HA.out
                  clear HA
                  simp only [spec_NodeOk.j5] at H
                  by_cases c97 : x226_87 = true
                  ·subst c97
                   have H1 : (some false) = some r := by rw [if_pos rfl] at H; exact H
                   clear H
                   have H := H1
                   clear H1
                   as_aux_lemma =>
                    obtain rfl := Option.some.inj H
                    go_wp2
                    go_ret
                    exact ⟨by first | rfl | (simp [errW_none, errW_some] <;> rfl) | (simp [*, errW_none, errW_some] <;> rfl), by repeat (first | (with_reducible first | exact HB.out | apply below_alloc | apply pw_below_drewN | apply below_drew1 | refine below_set ?_ GE128.out) | exact HB.out)⟩
                  ·replace c97 := Bool.eq_false_iff.mpr c97
                   subst c97
                   have H1 : (if a0_5 = 0 then (if 0 ≤ x6_4 then (if x6_4 < (l0_8.length : Int) then (if rdOf false l0_8 x6_4 = true then (some false) else (spec_NodeOk.l1 kj87 a1 (wrap64 (x6_4 + 1)) a0_0 a0_1 a0_2 l0_3 a0_4 a0_5 a0_6 a0_7 l0_8 l0_9 l0_10)) else (none)) else (none)) else (spec_NodeOk.l1 kj87 a1 (wrap64 (x6_4 + 1)) a0_0 a0_1 a0_2 l0_3 a0_4 a0_5 a0_6 a0_7 l0_8 l0_9 l0_10)) = some r := by rw [if_neg (show ¬ (false = true) by decide)] at H; exact H
                   clear H
                   have H := H1
                   clear H1
                   by_cases c98 : a0_5 = 0
                   ·rw [if_pos c98] at H
                    have c98b0 : (a0_5 == 0) = true := beq_iff_eq.mpr c98
                    have c98b1 : (a0_5 != 0) = false := bne_eq_false_iff_eq.mpr c98
                    clear c98
                    by_cases c99 : 0 ≤ x6_4
                    ·rw [if_pos c99] at H
                     have c99b0 : decide (0 ≤ x6_4) = true := decide_eq_true c99
                     clear c99
                     by_cases c100 : x6_4 < (l0_8.length : Int)
                     ·rw [if_pos c100] at H
                      have c100b0 : decide (x6_4 < (l0_8.length : Int)) = true := decide_eq_true c100
                      clear c100
                      obtain ⟨bq101, hbq101⟩ : ∃ b_ : Bool, b_ = (rdOf false l0_8 x6_4) := ⟨_, rfl⟩
                      replace H : (if bq101 = true then (some false) else (spec_NodeOk.l1 kj87 a1 (wrap64 (x6_4 + 1)) a0_0 a0_1 a0_2 l0_3 a0_4 a0_5 a0_6 a0_7 l0_8 l0_9 l0_10)) = some r := by rw [← hbq101] at H; exact H
                      have Nbq101 := Aside0.mk hbq101
                      clear hbq101
                      by_cases c102 : bq101 = true
                      ·subst c102
                       have H1 : (some false) = some r := by rw [if_pos rfl] at H; exact H
                       clear H
                       have H := H1
                       clear H1
                       as_aux_lemma =>
                        obtain rfl := Option.some.inj H
                        obtain ⟨hcz103_0, hcz103_1, hcz103_2, hcz103_3, hcz103_4, hcz103_5, hcz103_6, hcz103_7, hcz103_8, hcz103_9, hcz103_10, -⟩ := cells_11 BK128.out trivial
                        obtain ⟨hfz103_0, hfz103_1, hfz103_2, hfz103_3, hfz103_4, hfz103_5, hfz103_6, hfz103_7, hfz103_8, hfz103_9, hfz103_10, -⟩ := frz_11 BK128.out
                        have p144 : 0 ≤ (x6_4 : Int) := od
                        have q144 : x6_4 < (l0_8.length : Int) := od
                        obtain ⟨ad144, e144, hx144_0⟩ := Kd.at_bool HR0_8.out x6_4 p144 q144
                        (try rw [← Nbq101.out] at hx144_0)
                        cases e144
                        replace hx144_0 := hxb HB hx144_0
                        replace p144 := eq_true p144
                        replace q144 := eq_true q144
                        go_wp2
                        go_ret
                        exact ⟨by first | rfl | (simp [errW_none, errW_some] <;> rfl) | (simp [*, errW_none, errW_some] <;> rfl), by repeat (first | (with_reducible first | exact HB.out | apply below_alloc | apply pw_below_drewN | apply below_drew1 | refine below_set ?_ GE128.out) | exact HB.out)⟩
                      ·replace c102 := Bool.eq_false_iff.mpr c102
                       subst c102
                       have H1 : (spec_NodeOk.l1 kj87 a1 (wrap64 (x6_4 + 1)) a0_0 a0_1 a0_2 l0_3 a0_4 a0_5 a0_6 a0_7 l0_8 l0_9 l0_10) = some r := by rw [if_neg (show ¬ (false = true) by decide)] at H; exact H
                       clear H
                       have H := H1
                       clear H1
                       as_aux_lemma =>
                        have H' := Aside0.mk H
                        clear H
                        obtain ⟨hcz104_0, hcz104_1, hcz104_2, hcz104_3, hcz104_4, hcz104_5, hcz104_6, hcz104_7, hcz104_8, hcz104_9, hcz104_10, -⟩ := cells_11 BK128.out trivial
                        obtain ⟨hfz104_0, hfz104_1, hfz104_2, hfz104_3, hfz104_4, hfz104_5, hfz104_6, hfz104_7, hfz104_8, hfz104_9, hfz104_10, -⟩ := frz_11 BK128.out
                        have p144 : 0 ≤ (x6_4 : Int) := od
                        have q144 : x6_4 < (l0_8.length : Int) := od
                        obtain ⟨ad144, e144, hx144_0⟩ := Kd.at_bool HR0_8.out x6_4 p144 q144
                        (try rw [← Nbq101.out] at hx144_0)
                        cases e144
                        replace hx144_0 := hxb HB hx144_0
                        replace p144 := eq_true p144
                        replace q144 := eq_true q144
                        go_wp2
                        go_roundg kj87
                        case measure => have := HJ2.out; have := HK2.out; have := HJ64.out; have := HK4.out; have := HJ73.out; have := HJ87.out; omega
                        case rel => exact ⟨(wrap64 (x6_4 + 1)), (by first | rfl | (simp; done) | (simp [*]; done)), H', ⟨by have := HJ2.out; have := HK2.out; have := HJ64.out; have := HK4.out; have := HJ73.out; have := HJ87.out; omega⟩, ⟨by (with_reducible repeat (first | refine blk_drewN ?_ _ | refine blk_drew ?_ | refine blk_alloc ?_ _)); exact BK128.out⟩, ⟨by repeat (first | (with_reducible first | exact HB.out | apply below_alloc | apply pw_below_drewN | apply below_drew1 | refine below_set ?_ GE128.out) | exact HB.out)⟩⟩
                     ·rw [if_neg c100] at H
                      exact absurd H (by simp)
                    ·rw [if_neg c99] at H
                     exact absurd H (by simp)
                   ·rw [if_neg c98] at H
                    have c98b0 : (a0_5 == 0) = false := beq_eq_false_iff_ne.mpr c98
                    have c98b1 : (a0_5 != 0) = true := bne_iff_ne.mpr c98
                    as_aux_lemma =>
                     have H' := Aside0.mk H
                     clear H
                     obtain ⟨hcz105_0, hcz105_1, hcz105_2, hcz105_3, hcz105_4, hcz105_5, hcz105_6, hcz105_7, hcz105_8, hcz105_9, hcz105_10, -⟩ := cells_11 BK128.out trivial
                     obtain ⟨hfz105_0, hfz105_1, hfz105_2, hfz105_3, hfz105_4, hfz105_5, hfz105_6, hfz105_7, hfz105_8, hfz105_9, hfz105_10, -⟩ := frz_11 BK128.out
                     go_wp2
                     go_roundg kj87
                     case measure => have := HJ2.out; have := HK2.out; have := HJ64.out; have := HK4.out; have := HJ73.out; have := HJ87.out; omega
                     case rel => exact ⟨(wrap64 (x6_4 + 1)), (by first | rfl | (simp; done) | (simp [*]; done)), H', ⟨by have := HJ2.out; have := HK2.out; have := HJ64.out; have := HK4.out; have := HJ73.out; have := HJ87.out; omega⟩, ⟨by (with_reducible repeat (first | refine blk_drewN ?_ _ | refine blk_drew ?_ | refine blk_alloc ?_ _)); exact BK128.out⟩, ⟨by repeat (first | (with_reducible first | exact HB.out | apply below_alloc | apply pw_below_drewN | apply below_drew1 | refine below_set ?_ GE128.out) | exact HB.out)⟩⟩
            ·rw [if_neg c73] at H
             have c73b0 : decide (x6_4 < a1) = false := decide_eq_false c73
             clear c73
             by_cases c106 : a0_5 = 2
             ·rw [if_pos c106] at H
              have c106b0 : (a0_5 == 2) = true := beq_iff_eq.mpr c106
              have c106b1 : (a0_5 != 2) = false := bne_eq_false_iff_eq.mpr c106
              clear c106
              as_aux_lemma =>
               obtain rfl := Option.some.inj H
               obtain ⟨hcz107_0, hcz107_1, hcz107_2, hcz107_3, hcz107_4, hcz107_5, hcz107_6, hcz107_7, hcz107_8, hcz107_9, hcz107_10, -⟩ := cells_11 BK128.out trivial
               obtain ⟨hfz107_0, hfz107_1, hfz107_2, hfz107_3, hfz107_4, hfz107_5, hfz107_6, hfz107_7, hfz107_8, hfz107_9, hfz107_10, -⟩ := frz_11 BK128.out
               go_wp2
               go_ret
               exact ⟨by first | rfl | (simp [errW_none, errW_some] <;> rfl) | (simp [*, errW_none, errW_some] <;> rfl), by repeat (first | (with_reducible first | exact HB.out | apply below_alloc | apply pw_below_drewN | apply below_drew1 | refine below_set ?_ GE128.out) | exact HB.out)⟩
             ·rw [if_neg c106] at H
              have c106b0 : (a0_5 == 2) = false := beq_eq_false_iff_ne.mpr c106
              have c106b1 : (a0_5 != 2) = true := bne_iff_ne.mpr c106
              as_aux_lemma =>
               obtain rfl := Option.some.inj H
               obtain ⟨hcz108_0, hcz108_1, hcz108_2, hcz108_3, hcz108_4, hcz108_5, hcz108_6, hcz108_7, hcz108_8, hcz108_9, hcz108_10, -⟩ := cells_11 BK128.out trivial
               obtain ⟨hfz108_0, hfz108_1, hfz108_2, hfz108_3, hfz108_4, hfz108_5, hfz108_6, hfz108_7, hfz108_8, hfz108_9, hfz108_10, -⟩ := frz_11 BK128.out
               go_wp2
               go_ret
               exact ⟨by first | rfl | (simp [errW_none, errW_some] <;> rfl) | (simp [*, errW_none, errW_some] <;> rfl), by repeat (first | (with_reducible first | exact HB.out | apply below_alloc | apply pw_below_drewN | apply below_drew1 | refine below_set ?_ GE128.out) | exact HB.out)⟩

end Go.Proofs.Ytdgegnakiljfjaa.PW
