-- Written for this claim by the session's program pp.py, out of the kit's print and the seat's translation.
import Derived.Test.YtdgegnakiljfjaaPTx0
import Derived.Test.YtdgegnakiljfjaaPTx4
import Derived.Test.YtdgegnakiljfjaaPTx5
namespace Go.Proofs.Ytdgegnakiljfjaa.PT
open Go.RowKit Go.Proofs.YtdgegnakiljfjaaW.PrintWords Go.Proofs.YtdgegnakiljfjaaW.PrintLast Go.Proofs.YtdgegnakiljfjaaW.PrintMore
attribute [local go_sem] max2_int min2_int max_two min_two max_three min_three max_four min_four   -- for this text's walks alone
set_option linter.unusedVariables false
set_option linter.unusedSimpArgs false

/-! ### impl_StateOk: function 18 -/
mutual
def impl_StateOk.j0 : Nat → Bool → Int → List (S92) → List (S94) → Int → List (S109) → List (S75) → Option (Bool)
 | 0, _, _, _, _, _, _, _ => none
 | k + 1, x49, x245000, x245001, x245002, x245003, x245004, x245005 => if x49 = true then (some false) else (impl_StateOk.l0 k x245001 (x245001.length : Int) 0 x245000 x245001 x245002 x245003 x245004 x245005)
def impl_StateOk.l0 : Nat → List (S92) → Int → Int → Int → List (S92) → List (S94) → Int → List (S109) → List (S75) → Option (Bool)
 | 0, _, _, _, _, _, _, _, _, _ => none
 | k + 1, x51, x52, x53, x245000, x245001, x245002, x245003, x245004, x245005 => if x53 < x52 then (if 0 ≤ x53 then (if x53 < (x51.length : Int) then ((impl_KeyOk.f k ((rd_T92 x51 x53).f0)).bind fun t249 => (if t249 = true then ((impl_isValue.f ((rd_T92 x51 x53).f1)).bind fun t250 => (if t250 = true then ((impl_within.f ((rd_T92 x51 x53).f2) 1 x245000).bind fun t251 => (if t251 = true then (if ((rd_T92 x51 x53).f3) = 0 then (if x53 > 0 then (if 0 ≤ (wrap64 (x53 - 1)) then (if (wrap64 (x53 - 1)) < (x245001.length : Int) then ((bytes_Compare.f ((rd_T92 x245001 (wrap64 (x53 - 1))).f0) ((rd_T92 x51 x53).f0)).bind fun t253 => (if t253 ≥ 0 then (some false) else (impl_StateOk.l0 k x51 x52 (wrap64 (x53 + 1)) x245000 x245001 x245002 x245003 x245004 x245005))) else (none)) else (none)) else (impl_StateOk.l0 k x51 x52 (wrap64 (x53 + 1)) x245000 x245001 x245002 x245003 x245004 x245005)) else ((impl_State_session.f x245000 x245001 x245002 x245003 x245004 x245005 ((rd_T92 x51 x53).f3)).bind fun t254 => (if t254 < 0 then (some false) else (if x53 > 0 then (if 0 ≤ (wrap64 (x53 - 1)) then (if (wrap64 (x53 - 1)) < (x245001.length : Int) then ((bytes_Compare.f ((rd_T92 x245001 (wrap64 (x53 - 1))).f0) ((rd_T92 x51 x53).f0)).bind fun t256 => (if t256 ≥ 0 then (some false) else (impl_StateOk.l0 k x51 x52 (wrap64 (x53 + 1)) x245000 x245001 x245002 x245003 x245004 x245005))) else (none)) else (none)) else (impl_StateOk.l0 k x51 x52 (wrap64 (x53 + 1)) x245000 x245001 x245002 x245003 x245004 x245005))))) else (some false))) else (some false))) else (some false))) else (none)) else (none)) else (impl_StateOk.l1 k (mx 1 x245003) x245002 (x245002.length : Int) 0 x245000 x245001 x245002 x245003 x245004 x245005)
def impl_StateOk.l1 : Nat → Int → List (S94) → Int → Int → Int → List (S92) → List (S94) → Int → List (S109) → List (S75) → Option (Bool)
 | 0, _, _, _, _, _, _, _, _, _, _ => none
 | k + 1, x5, x110, x111, x112, x245000, x245001, x245002, x245003, x245004, x245005 => if x112 < x111 then (if 0 ≤ x112 then (if x112 < (x110.length : Int) then ((impl_State_row.f k x245000 x245001 x245002 x245003 x245004 x245005 ((rd_T94 x110 x112).f0)).bind fun bt259 => (if bt259.2 = true then (some false) else ((impl_KeyOk.f k ((rd_T94 x110 x112).f0)).bind fun t261 => (if t261 = true then ((impl_State_tomb.f x245000 x245001 x245002 x245003 x245004 x245005 ((rd_T94 x110 x112).f0)).bind fun t262 => (if t262 = x112 then ((impl_within.f ((rd_T94 x110 x112).f1) x5 x245000).bind fun t263 => (if t263 = true then (impl_StateOk.l1 k ((rd_T94 x110 x112).f1) x110 x111 (wrap64 (x112 + 1)) x245000 x245001 x245002 x245003 x245004 x245005) else (some false))) else (some false))) else (some false))))) else (none)) else (none)) else (impl_StateOk.l2 k x245004 (x245004.length : Int) 0 x245000 x245001 x245002 x245003 x245004 x245005)
def impl_StateOk.l2 : Nat → List (S109) → Int → Int → Int → List (S92) → List (S94) → Int → List (S109) → List (S75) → Option (Bool)
 | 0, _, _, _, _, _, _, _, _, _ => none
 | k + 1, x152, x153, x154, x245000, x245001, x245002, x245003, x245004, x245005 => if x154 < x153 then (if 0 ≤ x154 then (if x154 < (x152.length : Int) then ((impl_within.f ((rd_T109 x152 x154).f0) 1 x245000).bind fun t266 => (if t266 = true then (if x154 > 0 then (if 0 ≤ (wrap64 (x154 - 1)) then (if (wrap64 (x154 - 1)) < (x245004.length : Int) then (if ((rd_T109 x245004 (wrap64 (x154 - 1))).f0) ≥ ((rd_T109 x152 x154).f0) then (some false) else (impl_StateOk.l2 k x152 x153 (wrap64 (x154 + 1)) x245000 x245001 x245002 x245003 x245004 x245005)) else (none)) else (none)) else (impl_StateOk.l2 k x152 x153 (wrap64 (x154 + 1)) x245000 x245001 x245002 x245003 x245004 x245005)) else (some false))) else (none)) else (none)) else (impl_StateOk.l3 k x245005 (x245005.length : Int) 0 x245000 x245001 x245002 x245003 x245004 x245005)
def impl_StateOk.l3 : Nat → List (S75) → Int → Int → Int → List (S92) → List (S94) → Int → List (S109) → List (S75) → Option (Bool)
 | 0, _, _, _, _, _, _, _, _, _ => none
 | k + 1, x183, x184, x185, x245000, x245001, x245002, x245003, x245004, x245005 => if x185 < x184 then (if 0 ≤ x185 then (if x185 < (x183.length : Int) then ((impl_within.f ((rd_T75 x183 x185).f0) 0 3).bind fun t270 => (if t270 = true then ((impl_within.f ((rd_T75 x183 x185).f1) 1 1000000).bind fun t271 => (if t271 = true then ((impl_within.f ((rd_T75 x183 x185).f2.f0) 0 5).bind fun t272 => (if t272 = true then ((impl_within.f ((rd_T75 x183 x185).f2.f1) 1 x245000).bind fun t273 => (if t273 = true then (if x185 > 0 then (if 0 ≤ (wrap64 (x185 - 1)) then (if (wrap64 (x185 - 1)) < (x245005.length : Int) then (if ((rd_T75 x245005 (wrap64 (x185 - 1))).f0) ≥ ((rd_T75 x183 x185).f0) then (some false) else (impl_StateOk.l3 k x183 x184 (wrap64 (x185 + 1)) x245000 x245001 x245002 x245003 x245004 x245005)) else (none)) else (none)) else (impl_StateOk.l3 k x183 x184 (wrap64 (x185 + 1)) x245000 x245001 x245002 x245003 x245004 x245005)) else (some false))) else (some false))) else (some false))) else (some false))) else (none)) else (none)) else (some true)
end
def impl_StateOk.f (k : Nat) (a0_0 : Int) (l0_1 : List (S92)) (l0_2 : List (S94)) (a0_3 : Int) (l0_4 : List (S109)) (l0_5 : List (S75)) : Option (Bool) := (impl_within.f a0_0 0 1000000).bind fun t245 => (if t245 = true then ((impl_within.f a0_3 0 a0_0).bind fun t246 => (if t246 = true then (if (l0_1.length : Int) > 20 then (impl_StateOk.j0 k true a0_0 l0_1 l0_2 a0_3 l0_4 l0_5) else (if (l0_2.length : Int) > 10 then (impl_StateOk.j0 k true a0_0 l0_1 l0_2 a0_3 l0_4 l0_5) else (if (l0_4.length : Int) > 8 then (impl_StateOk.j0 k true a0_0 l0_1 l0_2 a0_3 l0_4 l0_5) else (impl_StateOk.j0 k (decide ((l0_5.length : Int) > 4)) a0_0 l0_1 l0_2 a0_3 l0_4 l0_5)))) else (impl_StateOk.j0 k true a0_0 l0_1 l0_2 a0_3 l0_4 l0_5))) else (impl_StateOk.j0 k true a0_0 l0_1 l0_2 a0_3 l0_4 l0_5))
def impl_StateOk.T6 : Bool × List (List Nat × List Nat) := (true, [([], []), ([0], [0]), ([1], [1]), ([2], [2]), ([3, 2], [3]), ([4], [4]), ([5, 4], [4, 5]), ([6, 4, 4], [4, 6]), ([7, 4], [4, 7]), ([4, 8], [4, 8]), ([9, 7], [9]), ([10], [10]), ([11, 10], [10, 11]), ([10], [10]), ([13, 10], [10, 13]), ([12, 14, 10, 10], [10, 12, 14]), ([15, 10], [10, 15]), ([10, 16], [10, 16]), ([17, 15], [17]), ([18], [18]), ([19, 18], [18, 19]), ([20, 18], [18, 20]), ([21, 18, 18], [18, 21]), ([22], [22]), ([22], [22]), ([24, 22], [22, 24]), ([23, 25, 22, 22], [22, 23, 25]), ([26, 22], [22, 26]), ([22, 27, 18], [18, 22, 27]), ([18, 28], [18, 28]), ([29, 26], [29]), ([30], [30]), ([31, 30], [30, 31]), ([32, 30, 30], [30, 32]), ([33], [33]), ([34, 33], [33, 34]), ([33], [33]), ([36, 33], [33, 36]), ([35, 37, 33], [33, 35, 37]), ([38, 33], [33, 38]), ([39, 33], [33, 39]), ([33], [33]), ([41, 33], [33, 41]), ([40, 42, 33, 33], [33, 40, 42]), ([43, 33], [33, 43]), ([33, 44, 30], [30, 33, 44]), ([30, 45], [30, 45])])
def impl_StateOk.B6 : List Nat := [0, 1, 3, 7, 15, 31, 63, 127, 255, 511, 1023, 2047, 4095, 2047, 10239, 32767, 65535, 131071, 262143, 524287, 1048575, 2097151, 4194303, 8388607, 8388607, 25165823, 67108863, 134217727, 268435455, 536870911, 1073741823, 2147483647, 4294967295, 8589934591, 17179869183, 34359738367, 17179869183, 85899345919, 274877906943, 549755813887, 1099511627775, 17179869183, 2216203124735, 8796093022207, 17592186044415, 35184372088831, 70368744177663]
theorem impl_StateOk.tab6 : rtab .any (opsOf Try.f18 6) = impl_StateOk.T6 := by kernel_rfl
theorem impl_StateOk.bits6 : waitsOk impl_StateOk.T6.2 impl_StateOk.B6 = true := by kernel_rfl
def impl_StateOk.T21 : Bool × List (List Nat × List Nat) := (true, [([], []), ([0], [0]), ([], []), ([2], [2]), ([1, 3], [1, 3]), ([4], [4]), ([5, 4], [5]), ([6], [6]), ([7, 6], [6, 7]), ([8, 6, 6], [6, 8]), ([9], [9]), ([10, 9], [9, 10]), ([9], [9]), ([12, 9], [9, 12]), ([11, 13, 9], [9, 11, 13]), ([14, 9], [9, 14]), ([15, 9], [9, 15]), ([9], [9]), ([17, 9], [9, 17]), ([16, 18, 9], [9, 16, 18]), ([9, 19, 6], [6, 9, 19]), ([6, 20], [6, 20])])
def impl_StateOk.B21 : List Nat := [0, 1, 0, 4, 15, 31, 63, 127, 255, 511, 1023, 2047, 1023, 5119, 16383, 32767, 65535, 1023, 132095, 524287, 1048575, 2097151]
theorem impl_StateOk.tab21 : rtab .any (opsOf Try.f18 21) = impl_StateOk.T21 := by kernel_rfl
theorem impl_StateOk.bits21 : waitsOk impl_StateOk.T21.2 impl_StateOk.B21 = true := by kernel_rfl
def impl_StateOk.T27 : Bool × List (List Nat × List Nat) := (true, [([], []), ([0], [0]), ([1], [1]), ([2], [2]), ([3, 2], [3]), ([4], [4]), ([5, 4], [4, 5]), ([6, 4, 4], [4, 6]), ([7, 4], [4, 7]), ([4, 8], [4, 8]), ([9, 7], [9]), ([10], [10]), ([11, 10], [10, 11]), ([12, 10], [10, 12]), ([13, 10, 10], [10, 13]), ([14, 10], [10, 14]), ([10, 15], [10, 15]), ([16, 14], [16]), ([17], [17]), ([18, 17], [17, 18]), ([19, 17], [17, 19]), ([17], [17]), ([21, 17], [17, 21]), ([20, 22, 17, 17], [17, 20, 22]), ([23, 17], [17, 23]), ([17, 24], [17, 24]), ([25, 23], [25]), ([26], [26]), ([27, 26], [26, 27]), ([28, 26, 26], [26, 28]), ([29], [29]), ([30, 29], [29, 30]), ([29], [29]), ([32, 29], [29, 32]), ([31, 33, 29], [29, 31, 33]), ([34, 29], [29, 34]), ([35, 29], [29, 35]), ([29], [29]), ([37, 29], [29, 37]), ([36, 38, 29], [29, 36, 38]), ([29, 39, 26], [26, 29, 39]), ([26, 40], [26, 40])])
def impl_StateOk.B27 : List Nat := [0, 1, 3, 7, 15, 31, 63, 127, 255, 511, 1023, 2047, 4095, 8191, 16383, 32767, 65535, 131071, 262143, 524287, 1048575, 262143, 2359295, 8388607, 16777215, 33554431, 67108863, 134217727, 268435455, 536870911, 1073741823, 2147483647, 1073741823, 5368709119, 17179869183, 34359738367, 68719476735, 1073741823, 138512695295, 549755813887, 1099511627775, 2199023255551]
theorem impl_StateOk.tab27 : rtab .any (opsOf Try.f18 27) = impl_StateOk.T27 := by kernel_rfl
theorem impl_StateOk.bits27 : waitsOk impl_StateOk.T27.2 impl_StateOk.B27 = true := by kernel_rfl
set_option maxHeartbeats 200000000 in
set_option maxRecDepth 100000 in
theorem impl_StateOk.calls (k : Nat) (a0_0 : Int) (A0_1 : Option Addr) (c0_1 : Nat) (l0_1 : List (S92)) (A0_2 : Option Addr) (c0_2 : Nat) (l0_2 : List (S94)) (a0_3 : Int) (A0_4 : Option Addr) (c0_4 : Nat) (l0_4 : List (S109)) (A0_5 : Option Addr) (c0_5 : Nat) (l0_5 : List (S75)) (r : Bool) (w : World) (hr0_1 : Kd.C k92 w A0_1 l0_1.length l0_1) (hc0_1 : l0_1.length ≤ c0_1) (hr0_2 : Kd.C k94 w A0_2 l0_2.length l0_2) (hc0_2 : l0_2.length ≤ c0_2) (hr0_4 : Kd.C k109 w A0_4 l0_4.length l0_4) (hc0_4 : l0_4.length ≤ c0_4) (hr0_5 : Kd.C k75 w A0_5 l0_5.length l0_5) (hc0_5 : l0_5.length ≤ c0_5) (h : impl_StateOk.f k a0_0 l0_1 l0_2 a0_3 l0_4 l0_5 = some r) :
  Calls Try.prog 18 #[.agg #[.int .i64 a0_0, .slice A0_1 l0_1.length c0_1, .slice A0_2 l0_2.length c0_2, .int .i64 a0_3, .slice A0_4 l0_4.length c0_4, .slice A0_5 l0_5.length c0_5]] w fun e w' => e = .returned (.bool r) ∧ Below w.heap.size w w' := by
 have hu35 := Try.underlying35
 have hu92 := Try.underlying92
 have hu94 := Try.underlying94
 have hu109 := Try.underlying109
 have hu75 := Try.underlying75
 have HR0_1 := Aside0.mk hr0_1
 have HC0_1 := Aside0.mk hc0_1
 clear hr0_1 hc0_1
 have HR0_2 := Aside0.mk hr0_2
 have HC0_2 := Aside0.mk hc0_2
 clear hr0_2 hc0_2
 have HR0_4 := Aside0.mk hr0_4
 have HC0_4 := Aside0.mk hc0_4
 clear hr0_4 hc0_4
 have HR0_5 := Aside0.mk hr0_5
 have HC0_5 := Aside0.mk hc0_5
 clear hr0_5 hc0_5
 have HB := Aside0.mk (Below.refl w.heap.size w)
 have H : ((impl_within.f a0_0 0 1000000).bind fun t245 => (if t245 = true then ((impl_within.f a0_3 0 a0_0).bind fun t246 => (if t246 = true then (if (l0_1.length : Int) > 20 then (impl_StateOk.j0 k true a0_0 l0_1 l0_2 a0_3 l0_4 l0_5) else (if (l0_2.length : Int) > 10 then (impl_StateOk.j0 k true a0_0 l0_1 l0_2 a0_3 l0_4 l0_5) else (if (l0_4.length : Int) > 8 then (impl_StateOk.j0 k true a0_0 l0_1 l0_2 a0_3 l0_4 l0_5) else (impl_StateOk.j0 k (decide ((l0_5.length : Int) > 4)) a0_0 l0_1 l0_2 a0_3 l0_4 l0_5)))) else (impl_StateOk.j0 k true a0_0 l0_1 l0_2 a0_3 l0_4 l0_5))) else (impl_StateOk.j0 k true a0_0 l0_1 l0_2 a0_3 l0_4 l0_5))) = some r := h
 clear h
 have HC2 := Aside0.mk H
 clear H
 go_enter Try.func18, Try.ntmps18
 go_upto_region 1 with (first | ((with_reducible refine gate_dst (N := 1) rfl ?_); (try (refine gate_guard (by rfl) ?_; dsimp only)); refine bx_ 1 #[.int .i64 a0_0, .slice A0_1 l0_1.length c0_1, .slice A0_2 l0_2.length c0_2, .int .i64 a0_3, .slice A0_4 l0_4.length c0_4, .slice A0_5 l0_5.length c0_5] 35 (h := ?_); intro gb244 hg w3 hbox hb; have BK244 := Aside0.mk (hbox); have GW244 := Aside0.mk ((by rw [hg]; exact (below_size bel) : w.heap.size ≤ gb244)); have GE244 := GW244; replace HB := bst hb; clear hb hbox hg))
 (try simp only [Act.put, List.setIfInBounds_toArray, List.set_cons_zero, List.set_cons_succ])
 go_cut [49] (fun v49 wc => ∃ (kq : Nat) (x49_1 : Bool), v49 = .bool x49_1 ∧ Aside0 (impl_StateOk.j0 kq x49_1 a0_0 l0_1 l0_2 a0_3 l0_4 l0_5 = some r) ∧ Aside0 (kq ≤ k) ∧ Aside0 (wc.heap[gb244]? = some (.cells #[.int .i64 a0_0, (.slice A0_1 l0_1.length c0_1), (.slice A0_2 l0_2.length c0_2), .int .i64 a0_3, (.slice A0_4 l0_4.length c0_4), (.slice A0_5 l0_5.length c0_5)] 35 (0, 0))) ∧ Aside0 (Below w.heap.size w wc))
 case first => as_aux_lemma =>
  have H := HC2.out
  clear HC2
  replace H := Option.bind_eq_some_iff.mp H
  obtain ⟨t245, A40, H⟩ := H
  replace H : (if t245 = true then ((impl_within.f a0_3 0 a0_0).bind fun t246 => (if t246 = true then (if (l0_1.length : Int) > 20 then (impl_StateOk.j0 k true a0_0 l0_1 l0_2 a0_3 l0_4 l0_5) else (if (l0_2.length : Int) > 10 then (impl_StateOk.j0 k true a0_0 l0_1 l0_2 a0_3 l0_4 l0_5) else (if (l0_4.length : Int) > 8 then (impl_StateOk.j0 k true a0_0 l0_1 l0_2 a0_3 l0_4 l0_5) else (impl_StateOk.j0 k (decide ((l0_5.length : Int) > 4)) a0_0 l0_1 l0_2 a0_3 l0_4 l0_5)))) else (impl_StateOk.j0 k true a0_0 l0_1 l0_2 a0_3 l0_4 l0_5))) else (impl_StateOk.j0 k true a0_0 l0_1 l0_2 a0_3 l0_4 l0_5)) = some r := H
  have A4 := Aside0.mk A40
  clear A40
  by_cases c5 : t245 = true
  ·subst c5
   have H1 : ((impl_within.f a0_3 0 a0_0).bind fun t246 => (if t246 = true then (if (l0_1.length : Int) > 20 then (impl_StateOk.j0 k true a0_0 l0_1 l0_2 a0_3 l0_4 l0_5) else (if (l0_2.length : Int) > 10 then (impl_StateOk.j0 k true a0_0 l0_1 l0_2 a0_3 l0_4 l0_5) else (if (l0_4.length : Int) > 8 then (impl_StateOk.j0 k true a0_0 l0_1 l0_2 a0_3 l0_4 l0_5) else (impl_StateOk.j0 k (decide ((l0_5.length : Int) > 4)) a0_0 l0_1 l0_2 a0_3 l0_4 l0_5)))) else (impl_StateOk.j0 k true a0_0 l0_1 l0_2 a0_3 l0_4 l0_5))) = some r := by rw [if_pos rfl] at H; exact H
   clear H
   have H := H1
   clear H1
   replace H := Option.bind_eq_some_iff.mp H
   obtain ⟨t246, A60, H⟩ := H
   replace H : (if t246 = true then (if (l0_1.length : Int) > 20 then (impl_StateOk.j0 k true a0_0 l0_1 l0_2 a0_3 l0_4 l0_5) else (if (l0_2.length : Int) > 10 then (impl_StateOk.j0 k true a0_0 l0_1 l0_2 a0_3 l0_4 l0_5) else (if (l0_4.length : Int) > 8 then (impl_StateOk.j0 k true a0_0 l0_1 l0_2 a0_3 l0_4 l0_5) else (impl_StateOk.j0 k (decide ((l0_5.length : Int) > 4)) a0_0 l0_1 l0_2 a0_3 l0_4 l0_5)))) else (impl_StateOk.j0 k true a0_0 l0_1 l0_2 a0_3 l0_4 l0_5)) = some r := H
   have A6 := Aside0.mk A60
   clear A60
   by_cases c7 : t246 = true
   ·subst c7
    have H1 : (if (l0_1.length : Int) > 20 then (impl_StateOk.j0 k true a0_0 l0_1 l0_2 a0_3 l0_4 l0_5) else (if (l0_2.length : Int) > 10 then (impl_StateOk.j0 k true a0_0 l0_1 l0_2 a0_3 l0_4 l0_5) else (if (l0_4.length : Int) > 8 then (impl_StateOk.j0 k true a0_0 l0_1 l0_2 a0_3 l0_4 l0_5) else (impl_StateOk.j0 k (decide ((l0_5.length : Int) > 4)) a0_0 l0_1 l0_2 a0_3 l0_4 l0_5)))) = some r := by rw [if_pos rfl] at H; exact H
    clear H
    have H := H1
    clear H1
    by_cases c8 : (l0_1.length : Int) > 20
    ·rw [if_pos c8] at H
     have c8b0 : decide (20 < (l0_1.length : Int)) = true := decide_eq_true c8
     have c8b1 : decide (20 < l0_1.length) = true := decide_eq_true (by omega)
     clear c8
     (first | rw [c8b0] | (simp only [i64_w, i32_w]; rw [c8b0]) | skip)
     as_aux_lemma =>
      have H' := Aside0.mk H
      clear H
      obtain ⟨C9_0, C9_1, C9_2, C9_3, C9_4, C9_5, -⟩ := cells_6 BK244.out trivial
      obtain ⟨F9_0, F9_1, F9_2, F9_3, F9_4, F9_5, -⟩ := frz_6 BK244.out
      go_wp2_with (first | ((with_reducible refine gate_callee (f := 81) rfl ?_); refine gl_ (some 16) Try.func81 #[.int .i64 a0_0, .int .i64 0, .int .i64 1000000] (h := ?_); (with_reducible refine (impl_within.calls a0_0 0 1000000 true _ A4.out).mono ?_); rintro e w' ⟨rfl, ⟨nd, rfl⟩⟩; refine ⟨_, rfl, ?_⟩) | (go_at_call 81; (with_reducible refine (impl_within.calls a0_3 0 a0_0 true _ A6.out).mono ?_); rintro e w' ⟨rfl, ⟨nd, rfl⟩⟩))
      go_meet
      case rel => exact ⟨_, (true), rs_, H', ⟨by first | omega | exact Nat.le_refl _⟩, ⟨bkp BK244⟩, ⟨bel⟩⟩
    rw [if_neg c8] at H
    have c8b0 : decide (20 < (l0_1.length : Int)) = false := decide_eq_false c8
    have c8b1 : decide (20 < l0_1.length) = false := decide_eq_false (by omega)
    clear c8
    (first | rw [c8b0] | (simp only [i64_w, i32_w]; rw [c8b0]) | skip)
    by_cases c10 : (l0_2.length : Int) > 10
    ·rw [if_pos c10] at H
     have c10b0 : decide (10 < (l0_2.length : Int)) = true := decide_eq_true c10
     have c10b1 : decide (10 < l0_2.length) = true := decide_eq_true (by omega)
     clear c10
     as_aux_lemma =>
      have H' := Aside0.mk H
      clear H
      obtain ⟨C11_0, C11_1, C11_2, C11_3, C11_4, C11_5, -⟩ := cells_6 BK244.out trivial
      obtain ⟨F11_0, F11_1, F11_2, F11_3, F11_4, F11_5, -⟩ := frz_6 BK244.out
      go_wp2_with (first | ((with_reducible refine gate_callee (f := 81) rfl ?_); refine gl_ (some 16) Try.func81 #[.int .i64 a0_0, .int .i64 0, .int .i64 1000000] (h := ?_); (with_reducible refine (impl_within.calls a0_0 0 1000000 true _ A4.out).mono ?_); rintro e w' ⟨rfl, ⟨nd, rfl⟩⟩; refine ⟨_, rfl, ?_⟩) | (go_at_call 81; (with_reducible refine (impl_within.calls a0_3 0 a0_0 true _ A6.out).mono ?_); rintro e w' ⟨rfl, ⟨nd, rfl⟩⟩))
      go_meet
      case rel => exact ⟨_, (true), rs_, H', ⟨by first | omega | exact Nat.le_refl _⟩, ⟨bkp BK244⟩, ⟨bel⟩⟩
    rw [if_neg c10] at H
    have c10b0 : decide (10 < (l0_2.length : Int)) = false := decide_eq_false c10
    have c10b1 : decide (10 < l0_2.length) = false := decide_eq_false (by omega)
    clear c10
    by_cases c12 : (l0_4.length : Int) > 8
    ·rw [if_pos c12] at H
     have c12b0 : decide (8 < (l0_4.length : Int)) = true := decide_eq_true c12
     have c12b1 : decide (8 < l0_4.length) = true := decide_eq_true (by omega)
     clear c12
     as_aux_lemma =>
      have H' := Aside0.mk H
      clear H
      obtain ⟨C13_0, C13_1, C13_2, C13_3, C13_4, C13_5, -⟩ := cells_6 BK244.out trivial
      obtain ⟨F13_0, F13_1, F13_2, F13_3, F13_4, F13_5, -⟩ := frz_6 BK244.out
      go_wp2_with (first | ((with_reducible refine gate_callee (f := 81) rfl ?_); refine gl_ (some 16) Try.func81 #[.int .i64 a0_0, .int .i64 0, .int .i64 1000000] (h := ?_); (with_reducible refine (impl_within.calls a0_0 0 1000000 true _ A4.out).mono ?_); rintro e w' ⟨rfl, ⟨nd, rfl⟩⟩; refine ⟨_, rfl, ?_⟩) | (go_at_call 81; (with_reducible refine (impl_within.calls a0_3 0 a0_0 true _ A6.out).mono ?_); rintro e w' ⟨rfl, ⟨nd, rfl⟩⟩))
      go_meet
      case rel => exact ⟨_, (true), rs_, H', ⟨by first | omega | exact Nat.le_refl _⟩, ⟨bkp BK244⟩, ⟨bel⟩⟩
    rw [if_neg c12] at H
    have c12b0 : decide (8 < (l0_4.length : Int)) = false := decide_eq_false c12
    have c12b1 : decide (8 < l0_4.length) = false := decide_eq_false (by omega)
    clear c12
    as_aux_lemma =>
     have H' := Aside0.mk H
     clear H
     obtain ⟨C14_0, C14_1, C14_2, C14_3, C14_4, C14_5, -⟩ := cells_6 BK244.out trivial
     obtain ⟨F14_0, F14_1, F14_2, F14_3, F14_4, F14_5, -⟩ := frz_6 BK244.out
     go_wp2_with (first | ((with_reducible refine gate_callee (f := 81) rfl ?_); refine gl_ (some 16) Try.func81 #[.int .i64 a0_0, .int .i64 0, .int .i64 1000000] (h := ?_); (with_reducible refine (impl_within.calls a0_0 0 1000000 true _ A4.out).mono ?_); rintro e w' ⟨rfl, ⟨nd, rfl⟩⟩; refine ⟨_, rfl, ?_⟩) | (go_at_call 81; (with_reducible refine (impl_within.calls a0_3 0 a0_0 true _ A6.out).mono ?_); rintro e w' ⟨rfl, ⟨nd, rfl⟩⟩))
     go_meet
     case rel => exact ⟨_, (decide ((l0_5.length : Int) > 4)), rs_, H', ⟨by first | omega | exact Nat.le_refl _⟩, ⟨bkp BK244⟩, ⟨bel⟩⟩
   replace c7 := Bool.eq_false_iff.mpr c7
   subst c7
   have H1 : (impl_StateOk.j0 k true a0_0 l0_1 l0_2 a0_3 l0_4 l0_5) = some r := by rw [if_neg (show ¬ (false = true) by decide)] at H; exact H
   clear H
   have H := H1
   clear H1
   as_aux_lemma =>
    have H' := Aside0.mk H
    clear H
    obtain ⟨C15_0, C15_1, C15_2, C15_3, C15_4, C15_5, -⟩ := cells_6 BK244.out trivial
    obtain ⟨F15_0, F15_1, F15_2, F15_3, F15_4, F15_5, -⟩ := frz_6 BK244.out
    go_wp2_with (first | ((with_reducible refine gate_callee (f := 81) rfl ?_); refine gl_ (some 16) Try.func81 #[.int .i64 a0_0, .int .i64 0, .int .i64 1000000] (h := ?_); (with_reducible refine (impl_within.calls a0_0 0 1000000 true _ A4.out).mono ?_); rintro e w' ⟨rfl, ⟨nd, rfl⟩⟩; refine ⟨_, rfl, ?_⟩) | (go_at_call 81; (with_reducible refine (impl_within.calls a0_3 0 a0_0 false _ A6.out).mono ?_); rintro e w' ⟨rfl, ⟨nd, rfl⟩⟩))
    go_meet
    case rel => exact ⟨_, (true), rs_, H', ⟨by first | omega | exact Nat.le_refl _⟩, ⟨bkp BK244⟩, ⟨bel⟩⟩
  replace c5 := Bool.eq_false_iff.mpr c5
  subst c5
  have H1 : (impl_StateOk.j0 k true a0_0 l0_1 l0_2 a0_3 l0_4 l0_5) = some r := by rw [if_neg (show ¬ (false = true) by decide)] at H; exact H
  clear H
  have H := H1
  clear H1
  as_aux_lemma =>
   have H' := Aside0.mk H
   clear H
   obtain ⟨C16_0, C16_1, C16_2, C16_3, C16_4, C16_5, -⟩ := cells_6 BK244.out trivial
   obtain ⟨F16_0, F16_1, F16_2, F16_3, F16_4, F16_5, -⟩ := frz_6 BK244.out
   go_wp2_with (first | ((with_reducible refine gate_callee (f := 81) rfl ?_); refine gl_ (some 16) Try.func81 #[.int .i64 a0_0, .int .i64 0, .int .i64 1000000] (h := ?_); (with_reducible refine (impl_within.calls a0_0 0 1000000 false _ A4.out).mono ?_); rintro e w' ⟨rfl, ⟨nd, rfl⟩⟩; refine ⟨_, rfl, ?_⟩))
   go_meet
   case rel => exact ⟨_, (true), rs_, H', ⟨by first | omega | exact Nat.le_refl _⟩, ⟨bkp BK244⟩, ⟨bel⟩⟩
 case rest => as_aux_lemma =>
  clear HC2
  try clear c1; try clear p2; try clear c5; try clear c7; try clear c8; try clear c8b0; try clear c8b1; try clear c10; try clear c10b0; try clear c10b1; try clear c12; try clear c12b0; try clear c12b1; try clear C11_0 C11_1 C11_2 C11_3 C11_4 C11_5; try clear C13_0 C13_1 C13_2 C13_3 C13_4 C13_5; try clear C14_0 C14_1 C14_2 C14_3 C14_4 C14_5; try clear C15_0 C15_1 C15_2 C15_3 C15_4 C15_5; try clear C16_0 C16_1 C16_2 C16_3 C16_4 C16_5; try clear C9_0 C9_1 C9_2 C9_3 C9_4 C9_5; try clear F11_0 F11_1 F11_2 F11_3 F11_4 F11_5; try clear F13_0 F13_1 F13_2 F13_3 F13_4 F13_5; try clear F14_0 F14_1 F14_2 F14_3 F14_4 F14_5; try clear F15_0 F15_1 F15_2 F15_3 F15_4 F15_5; try clear F16_0 F16_1 F16_2 F16_3 F16_4 F16_5; try clear F9_0 F9_1 F9_2 F9_3 F9_4 F9_5
  obtain ⟨kq, x49_1, rfl, HA, HJ1, BK244, HB⟩ := hcut
  cases kq with
  | zero => exact absurd HA.out (by simp [impl_StateOk.j0])
  | succ kj1 =>
   have H := HA.out
   clear HA
   simp only [impl_StateOk.j0] at H
   by_cases c17 : x49_1 = true
   ·subst c17
    have H1 : (some false) = some r := by rw [if_pos rfl] at H; exact H
    clear H
    have H := H1
    clear H1
    as_aux_lemma =>
     obtain rfl := Option.some.inj H
     go_wp2
     go_ret
     exact ⟨rz_, bel⟩
   replace c17 := Bool.eq_false_iff.mpr c17
   subst c17
   have H1 : (impl_StateOk.l0 kj1 l0_1 (l0_1.length : Int) 0 a0_0 l0_1 l0_2 a0_3 l0_4 l0_5) = some r := by rw [if_neg (show ¬ (false = true) by decide)] at H; exact H
   clear H
   have H := H1
   clear H1
   have H' := Aside0.mk H
   clear H
   obtain ⟨C18_0, C18_1, C18_2, C18_3, C18_4, C18_5, -⟩ := cells_6 BK244.out trivial
   obtain ⟨F18_0, F18_1, F18_2, F18_3, F18_4, F18_5, -⟩ := frz_6 BK244.out
   go_wp2
   go_loopg [53] kj1 (fun kq v53 w' => ∃ (x53_2 : Int), v53 = .int .i64 x53_2 ∧ Aside0 (impl_StateOk.l0 kq l0_1 (l0_1.length : Int) x53_2 a0_0 l0_1 l0_2 a0_3 l0_4 l0_5 = some r) ∧ Aside0 (kq ≤ kj1) ∧ Aside0 (w'.heap[gb244]? = some (.cells #[.int .i64 a0_0, (.slice A0_1 l0_1.length c0_1), (.slice A0_2 l0_2.length c0_2), .int .i64 a0_3, (.slice A0_4 l0_4.length c0_4), (.slice A0_5 l0_5.length c0_5)] 35 (0, 0))) ∧ Aside0 (Below w.heap.size w w'))
   case atStart => exact ⟨(0), rs_, H', ⟨Nat.le_refl _⟩, ⟨bkp BK244⟩, ⟨bel⟩⟩
   case round => as_aux_lemma =>
    clear H'
    try clear c1; try clear p2; try clear c5; try clear c7; try clear c8; try clear c8b0; try clear c8b1; try clear c10; try clear c10b0; try clear c10b1; try clear c12; try clear c12b0; try clear c12b1; try clear c17; try clear c18; try clear C11_0 C11_1 C11_2 C11_3 C11_4 C11_5; try clear C13_0 C13_1 C13_2 C13_3 C13_4 C13_5; try clear C14_0 C14_1 C14_2 C14_3 C14_4 C14_5; try clear C15_0 C15_1 C15_2 C15_3 C15_4 C15_5; try clear C16_0 C16_1 C16_2 C16_3 C16_4 C16_5; try clear C18_0 C18_1 C18_2 C18_3 C18_4 C18_5; try clear C9_0 C9_1 C9_2 C9_3 C9_4 C9_5; try clear F11_0 F11_1 F11_2 F11_3 F11_4 F11_5; try clear F13_0 F13_1 F13_2 F13_3 F13_4 F13_5; try clear F14_0 F14_1 F14_2 F14_3 F14_4 F14_5; try clear F15_0 F15_1 F15_2 F15_3 F15_4 F15_5; try clear F16_0 F16_1 F16_2 F16_3 F16_4 F16_5; try clear F18_0 F18_1 F18_2 F18_3 F18_4 F18_5; try clear F9_0 F9_1 F9_2 F9_3 F9_4 F9_5; try clear p2
    obtain ⟨x53_2, rfl, HA, HK2, BK244, HB⟩ := hrel
    cases gk with
    | zero => exact absurd HA.out (by simp [impl_StateOk.l0])
    | succ k2 =>
     have H := HA.out
     clear HA
     simp only [impl_StateOk.l0] at H
     by_cases c19 : x53_2 < (l0_1.length : Int)
     ·rw [if_pos c19] at H
      have c19b0 : decide (x53_2 < (l0_1.length : Int)) = true := decide_eq_true c19
      clear c19
      by_cases c20 : 0 ≤ x53_2
      ·rw [if_pos c20] at H
       have c20b0 : decide (0 ≤ x53_2) = true := decide_eq_true c20
       clear c20
       by_cases c21 : x53_2 < (l0_1.length : Int)
       ·rw [if_pos c21] at H
        have c21b0 : decide (x53_2 < (l0_1.length : Int)) = true := decide_eq_true c21
        clear c21
        replace H := Option.bind_eq_some_iff.mp H
        obtain ⟨t249, A220, H⟩ := H
        replace H : (if t249 = true then ((impl_isValue.f ((rd_T92 l0_1 x53_2).f1)).bind fun t250 => (if t250 = true then ((impl_within.f ((rd_T92 l0_1 x53_2).f2) 1 a0_0).bind fun t251 => (if t251 = true then (if ((rd_T92 l0_1 x53_2).f3) = 0 then (if x53_2 > 0 then (if 0 ≤ (wrap64 (x53_2 - 1)) then (if (wrap64 (x53_2 - 1)) < (l0_1.length : Int) then ((bytes_Compare.f ((rd_T92 l0_1 (wrap64 (x53_2 - 1))).f0) ((rd_T92 l0_1 x53_2).f0)).bind fun t253 => (if t253 ≥ 0 then (some false) else (impl_StateOk.l0 k2 l0_1 (l0_1.length : Int) (wrap64 (x53_2 + 1)) a0_0 l0_1 l0_2 a0_3 l0_4 l0_5))) else (none)) else (none)) else (impl_StateOk.l0 k2 l0_1 (l0_1.length : Int) (wrap64 (x53_2 + 1)) a0_0 l0_1 l0_2 a0_3 l0_4 l0_5)) else ((impl_State_session.f a0_0 l0_1 l0_2 a0_3 l0_4 l0_5 ((rd_T92 l0_1 x53_2).f3)).bind fun t254 => (if t254 < 0 then (some false) else (if x53_2 > 0 then (if 0 ≤ (wrap64 (x53_2 - 1)) then (if (wrap64 (x53_2 - 1)) < (l0_1.length : Int) then ((bytes_Compare.f ((rd_T92 l0_1 (wrap64 (x53_2 - 1))).f0) ((rd_T92 l0_1 x53_2).f0)).bind fun t256 => (if t256 ≥ 0 then (some false) else (impl_StateOk.l0 k2 l0_1 (l0_1.length : Int) (wrap64 (x53_2 + 1)) a0_0 l0_1 l0_2 a0_3 l0_4 l0_5))) else (none)) else (none)) else (impl_StateOk.l0 k2 l0_1 (l0_1.length : Int) (wrap64 (x53_2 + 1)) a0_0 l0_1 l0_2 a0_3 l0_4 l0_5))))) else (some false))) else (some false))) else (some false)) = some r := H
        have A22 := Aside0.mk A220
        clear A220
        have p247 : 0 ≤ (x53_2 : Int) := od
        have q247 : x53_2 < (l0_1.length : Int) := od
        obtain ⟨ad247, A247_0, c247_0, A247_1, c247_1, e247, hx247_0, hx247_1, hx247_2, hx247_3, hl247_0, hi247_0, hl247_1, hi247_1⟩ := at_T92 HR0_1.out x53_2 p247 q247
        cases e247
        replace hx247_0 := hxb HB hx247_0
        replace hx247_1 := hxb HB hx247_1
        replace hx247_2 := hxb HB hx247_2
        replace hx247_3 := hxb HB hx247_3
        have HR247_0 := Aside0.mk hi247_0
        have HC247_0 := Aside0.mk hl247_0
        clear hi247_0 hl247_0
        have HR247_1 := Aside0.mk hi247_1
        have HC247_1 := Aside0.mk hl247_1
        clear hi247_1 hl247_1
        replace p247 := eq_true p247
        replace q247 := eq_true q247
        try go_wp2_with (first | ((with_reducible refine gate_dst (N := 4) rfl ?_); (try (refine gate_guard (by rfl) ?_; dsimp only)); refine bx_ 4 #[.slice none 0 0, .slice none 0 0, .int .i64 0, .int .i64 0] 92 (h := ?_); intro gb248 hg wv1 hbox hb; have BK248 := Aside0.mk (hbox); have GW248 := Aside0.mk ((by rw [hg]; exact (below_size bel) : w.heap.size ≤ gb248)); have GE248 := GW248; have NB244_248 := Aside0.mk ((by rw [hg]; exact Nat.ne_of_lt (blt BK244) : gb244 ≠ gb248)); have NB248_244 := Aside0.mk NB244_248.out.symm; replace BK244 := Aside0.mk (blb BK244 hb); replace HB := bst hb; clear hb hbox hg; have hnbv1 := NB248_244.out; have hncv2 := NB244_248.out; obtain ⟨hczv3_0, hczv3_1, hczv3_2, hczv3_3, -⟩ := cells_4 BK248.out trivial; obtain ⟨hfzv4_0, hfzv4_1, hfzv4_2, hfzv4_3, -⟩ := frz_4 BK248.out))
        refine put4_ BK248.out ?_
        intro wv2 hp_ hf_ hb_
        replace BK244 := Aside0.mk ((hf_ _ NB244_248.out).trans BK244.out)
        replace HB := Aside0.mk (hb_ _ HB.out GE248.out)
        replace BK248 := Aside0.mk hp_
        clear hp_ hf_ hb_
        replace BK244 := Aside0.mk (blk_drew BK244.out)
        replace BK248 := Aside0.mk (blk_drew BK248.out)
        replace HB := Aside0.mk (below_drew1 HB.out)
        refine start_ (n := 47) (S := fun w' => w'.cell? ⟨gb248, 0, none⟩ = some (.slice A247_0 ((rd_T92 l0_1 x53_2).f0).length c247_0) ∧ w'.cell? ⟨gb248, 1, none⟩ = some (.slice A247_1 ((rd_T92 l0_1 x53_2).f1).length c247_1) ∧ w'.cell? ⟨gb248, 2, none⟩ = some (.int .i64 ((rd_T92 l0_1 x53_2).f2)) ∧ w'.cell? ⟨gb248, 3, none⟩ = some (.int .i64 ((rd_T92 l0_1 x53_2).f3)) ∧ w'.cell? ⟨gb244, 0, none⟩ = some (.int .i64 a0_0) ∧ w'.cell? ⟨gb244, 1, none⟩ = some (.slice (some ad247) l0_1.length c0_1) ∧ w'.cell? ⟨gb244, 2, none⟩ = some (.slice A0_2 l0_2.length c0_2) ∧ w'.cell? ⟨gb244, 3, none⟩ = some (.int .i64 a0_3) ∧ w'.cell? ⟨gb244, 4, none⟩ = some (.slice A0_4 l0_4.length c0_4) ∧ w'.cell? ⟨gb244, 5, none⟩ = some (.slice A0_5 l0_5.length c0_5)) (ds := []) (tf 0 47) (by kernel_rfl) rfl rfl (cells_4 BK248.out (cellz_6 BK244.out)) (fun hHeld => ?_); refine with_tabW impl_StateOk.tab6 impl_StateOk.bits6 (fun HT_ HW_ => ?_)
        generalize wv2.drew = wv3 at BK244 BK248 HB hHeld ⊢
        refine pvn_ HT_ (h := ?_)
        refine tvn_ HT_ HW_ hHeld (h := ?_)
        refine one_ (i := 2) (N := some 60) (tf 3 44) rfl rfl (one_of HT_.out (by kernel_rfl)) (by decide) (fun K hK => ?_)
        refine gs_ Try.func47 #[.slice A247_0 ((rd_T92 l0_1 x53_2).f0).length c247_0] (h := ?_)
        with_reducible refine (impl_KeyOk.calls k2 _ _ ((rd_T92 l0_1 x53_2).f0) t249 _ ?side1 ?side2 A22.out).mono ?_
        (case side1 => exact kcb)
        (case side2 => exact HC247_0.out)
        rintro e w' ⟨rfl, ⟨nd, rfl⟩⟩
        refine ⟨_, rfl, ?_⟩
        refine hK.out _ _ (cells_4 BK248.out (cellz_6 BK244.out)) (fun hHeld => ?_)
        clear hK K
        refine nrm_ (some 60) (h := ?_)
        by_cases c23 : t249 = true
        ·subst c23
         have H1 : ((impl_isValue.f ((rd_T92 l0_1 x53_2).f1)).bind fun t250 => (if t250 = true then ((impl_within.f ((rd_T92 l0_1 x53_2).f2) 1 a0_0).bind fun t251 => (if t251 = true then (if ((rd_T92 l0_1 x53_2).f3) = 0 then (if x53_2 > 0 then (if 0 ≤ (wrap64 (x53_2 - 1)) then (if (wrap64 (x53_2 - 1)) < (l0_1.length : Int) then ((bytes_Compare.f ((rd_T92 l0_1 (wrap64 (x53_2 - 1))).f0) ((rd_T92 l0_1 x53_2).f0)).bind fun t253 => (if t253 ≥ 0 then (some false) else (impl_StateOk.l0 k2 l0_1 (l0_1.length : Int) (wrap64 (x53_2 + 1)) a0_0 l0_1 l0_2 a0_3 l0_4 l0_5))) else (none)) else (none)) else (impl_StateOk.l0 k2 l0_1 (l0_1.length : Int) (wrap64 (x53_2 + 1)) a0_0 l0_1 l0_2 a0_3 l0_4 l0_5)) else ((impl_State_session.f a0_0 l0_1 l0_2 a0_3 l0_4 l0_5 ((rd_T92 l0_1 x53_2).f3)).bind fun t254 => (if t254 < 0 then (some false) else (if x53_2 > 0 then (if 0 ≤ (wrap64 (x53_2 - 1)) then (if (wrap64 (x53_2 - 1)) < (l0_1.length : Int) then ((bytes_Compare.f ((rd_T92 l0_1 (wrap64 (x53_2 - 1))).f0) ((rd_T92 l0_1 x53_2).f0)).bind fun t256 => (if t256 ≥ 0 then (some false) else (impl_StateOk.l0 k2 l0_1 (l0_1.length : Int) (wrap64 (x53_2 + 1)) a0_0 l0_1 l0_2 a0_3 l0_4 l0_5))) else (none)) else (none)) else (impl_StateOk.l0 k2 l0_1 (l0_1.length : Int) (wrap64 (x53_2 + 1)) a0_0 l0_1 l0_2 a0_3 l0_4 l0_5))))) else (some false))) else (some false))) = some r := by rw [if_pos rfl] at H; exact H
         clear H
         have H := H1
         clear H1
         replace H := Option.bind_eq_some_iff.mp H
         obtain ⟨t250, A240, H⟩ := H
         replace H : (if t250 = true then ((impl_within.f ((rd_T92 l0_1 x53_2).f2) 1 a0_0).bind fun t251 => (if t251 = true then (if ((rd_T92 l0_1 x53_2).f3) = 0 then (if x53_2 > 0 then (if 0 ≤ (wrap64 (x53_2 - 1)) then (if (wrap64 (x53_2 - 1)) < (l0_1.length : Int) then ((bytes_Compare.f ((rd_T92 l0_1 (wrap64 (x53_2 - 1))).f0) ((rd_T92 l0_1 x53_2).f0)).bind fun t253 => (if t253 ≥ 0 then (some false) else (impl_StateOk.l0 k2 l0_1 (l0_1.length : Int) (wrap64 (x53_2 + 1)) a0_0 l0_1 l0_2 a0_3 l0_4 l0_5))) else (none)) else (none)) else (impl_StateOk.l0 k2 l0_1 (l0_1.length : Int) (wrap64 (x53_2 + 1)) a0_0 l0_1 l0_2 a0_3 l0_4 l0_5)) else ((impl_State_session.f a0_0 l0_1 l0_2 a0_3 l0_4 l0_5 ((rd_T92 l0_1 x53_2).f3)).bind fun t254 => (if t254 < 0 then (some false) else (if x53_2 > 0 then (if 0 ≤ (wrap64 (x53_2 - 1)) then (if (wrap64 (x53_2 - 1)) < (l0_1.length : Int) then ((bytes_Compare.f ((rd_T92 l0_1 (wrap64 (x53_2 - 1))).f0) ((rd_T92 l0_1 x53_2).f0)).bind fun t256 => (if t256 ≥ 0 then (some false) else (impl_StateOk.l0 k2 l0_1 (l0_1.length : Int) (wrap64 (x53_2 + 1)) a0_0 l0_1 l0_2 a0_3 l0_4 l0_5))) else (none)) else (none)) else (impl_StateOk.l0 k2 l0_1 (l0_1.length : Int) (wrap64 (x53_2 + 1)) a0_0 l0_1 l0_2 a0_3 l0_4 l0_5))))) else (some false))) else (some false)) = some r := H
         have A24 := Aside0.mk A240
         clear A240
         iterate 3 (refine pvn_ HT_ (h := ?_))
         refine tvn_ HT_ HW_ hHeld (h := ?_)
         refine one_ (i := 7) (N := some 65) (tf 8 39) rfl rfl (one_of HT_.out (by kernel_rfl)) (by decide) (fun K hK => ?_)
         refine gs_ Try.func82 #[.slice A247_1 ((rd_T92 l0_1 x53_2).f1).length c247_1] (h := ?_)
         with_reducible refine (impl_isValue.calls _ _ ((rd_T92 l0_1 x53_2).f1) t250 _ ?side1 ?side2 A24.out).mono ?_
         (case side1 => exact kcb)
         (case side2 => exact HC247_1.out)
         rintro e w' ⟨rfl, ⟨nd, rfl⟩⟩
         refine ⟨_, rfl, ?_⟩
         refine hK.out _ _ (cells_4 BK248.out (cellz_6 BK244.out)) (fun hHeld => ?_)
         clear hK K
         refine nrm_ (some 65) (h := ?_)
         by_cases c25 : t250 = true
         ·subst c25
          have H1 : ((impl_within.f ((rd_T92 l0_1 x53_2).f2) 1 a0_0).bind fun t251 => (if t251 = true then (if ((rd_T92 l0_1 x53_2).f3) = 0 then (if x53_2 > 0 then (if 0 ≤ (wrap64 (x53_2 - 1)) then (if (wrap64 (x53_2 - 1)) < (l0_1.length : Int) then ((bytes_Compare.f ((rd_T92 l0_1 (wrap64 (x53_2 - 1))).f0) ((rd_T92 l0_1 x53_2).f0)).bind fun t253 => (if t253 ≥ 0 then (some false) else (impl_StateOk.l0 k2 l0_1 (l0_1.length : Int) (wrap64 (x53_2 + 1)) a0_0 l0_1 l0_2 a0_3 l0_4 l0_5))) else (none)) else (none)) else (impl_StateOk.l0 k2 l0_1 (l0_1.length : Int) (wrap64 (x53_2 + 1)) a0_0 l0_1 l0_2 a0_3 l0_4 l0_5)) else ((impl_State_session.f a0_0 l0_1 l0_2 a0_3 l0_4 l0_5 ((rd_T92 l0_1 x53_2).f3)).bind fun t254 => (if t254 < 0 then (some false) else (if x53_2 > 0 then (if 0 ≤ (wrap64 (x53_2 - 1)) then (if (wrap64 (x53_2 - 1)) < (l0_1.length : Int) then ((bytes_Compare.f ((rd_T92 l0_1 (wrap64 (x53_2 - 1))).f0) ((rd_T92 l0_1 x53_2).f0)).bind fun t256 => (if t256 ≥ 0 then (some false) else (impl_StateOk.l0 k2 l0_1 (l0_1.length : Int) (wrap64 (x53_2 + 1)) a0_0 l0_1 l0_2 a0_3 l0_4 l0_5))) else (none)) else (none)) else (impl_StateOk.l0 k2 l0_1 (l0_1.length : Int) (wrap64 (x53_2 + 1)) a0_0 l0_1 l0_2 a0_3 l0_4 l0_5))))) else (some false))) = some r := by rw [if_pos rfl] at H; exact H
          clear H
          have H := H1
          clear H1
          replace H := Option.bind_eq_some_iff.mp H
          obtain ⟨t251, A260, H⟩ := H
          replace H : (if t251 = true then (if ((rd_T92 l0_1 x53_2).f3) = 0 then (if x53_2 > 0 then (if 0 ≤ (wrap64 (x53_2 - 1)) then (if (wrap64 (x53_2 - 1)) < (l0_1.length : Int) then ((bytes_Compare.f ((rd_T92 l0_1 (wrap64 (x53_2 - 1))).f0) ((rd_T92 l0_1 x53_2).f0)).bind fun t253 => (if t253 ≥ 0 then (some false) else (impl_StateOk.l0 k2 l0_1 (l0_1.length : Int) (wrap64 (x53_2 + 1)) a0_0 l0_1 l0_2 a0_3 l0_4 l0_5))) else (none)) else (none)) else (impl_StateOk.l0 k2 l0_1 (l0_1.length : Int) (wrap64 (x53_2 + 1)) a0_0 l0_1 l0_2 a0_3 l0_4 l0_5)) else ((impl_State_session.f a0_0 l0_1 l0_2 a0_3 l0_4 l0_5 ((rd_T92 l0_1 x53_2).f3)).bind fun t254 => (if t254 < 0 then (some false) else (if x53_2 > 0 then (if 0 ≤ (wrap64 (x53_2 - 1)) then (if (wrap64 (x53_2 - 1)) < (l0_1.length : Int) then ((bytes_Compare.f ((rd_T92 l0_1 (wrap64 (x53_2 - 1))).f0) ((rd_T92 l0_1 x53_2).f0)).bind fun t256 => (if t256 ≥ 0 then (some false) else (impl_StateOk.l0 k2 l0_1 (l0_1.length : Int) (wrap64 (x53_2 + 1)) a0_0 l0_1 l0_2 a0_3 l0_4 l0_5))) else (none)) else (none)) else (impl_StateOk.l0 k2 l0_1 (l0_1.length : Int) (wrap64 (x53_2 + 1)) a0_0 l0_1 l0_2 a0_3 l0_4 l0_5))))) else (some false)) = some r := H
          have A26 := Aside0.mk A260
          clear A260
          iterate 4 (refine pvn_ HT_ (h := ?_))
          refine pv_ HT_ 13 (some 71) (tb 47 12287) (h := ?_)
          refine tv_ HT_ HW_ hHeld 12 (some 70) (tf 14 33) (h := ?_)
          refine tvn_ HT_ HW_ hHeld (h := ?_)
          refine one_ (i := 15) (N := some 73) (tf 16 31) rfl rfl (one_of HT_.out (by kernel_rfl)) (by decide) (fun K hK => ?_)
          refine gs_ Try.func81 #[.int .i64 ((rd_T92 l0_1 x53_2).f2), .int .i64 1, .int .i64 a0_0] (h := ?_)
          with_reducible refine (impl_within.calls ((rd_T92 l0_1 x53_2).f2) 1 a0_0 t251 _ A26.out).mono ?_
          rintro e w' ⟨rfl, ⟨nd, rfl⟩⟩
          refine ⟨_, rfl, ?_⟩
          refine hK.out _ _ (cells_4 BK248.out (cellz_6 BK244.out)) (fun hHeld => ?_)
          clear hK K
          refine nrm_ (some 73) (h := ?_)
          by_cases c27 : t251 = true
          ·subst c27
           have H1 : (if ((rd_T92 l0_1 x53_2).f3) = 0 then (if x53_2 > 0 then (if 0 ≤ (wrap64 (x53_2 - 1)) then (if (wrap64 (x53_2 - 1)) < (l0_1.length : Int) then ((bytes_Compare.f ((rd_T92 l0_1 (wrap64 (x53_2 - 1))).f0) ((rd_T92 l0_1 x53_2).f0)).bind fun t253 => (if t253 ≥ 0 then (some false) else (impl_StateOk.l0 k2 l0_1 (l0_1.length : Int) (wrap64 (x53_2 + 1)) a0_0 l0_1 l0_2 a0_3 l0_4 l0_5))) else (none)) else (none)) else (impl_StateOk.l0 k2 l0_1 (l0_1.length : Int) (wrap64 (x53_2 + 1)) a0_0 l0_1 l0_2 a0_3 l0_4 l0_5)) else ((impl_State_session.f a0_0 l0_1 l0_2 a0_3 l0_4 l0_5 ((rd_T92 l0_1 x53_2).f3)).bind fun t254 => (if t254 < 0 then (some false) else (if x53_2 > 0 then (if 0 ≤ (wrap64 (x53_2 - 1)) then (if (wrap64 (x53_2 - 1)) < (l0_1.length : Int) then ((bytes_Compare.f ((rd_T92 l0_1 (wrap64 (x53_2 - 1))).f0) ((rd_T92 l0_1 x53_2).f0)).bind fun t256 => (if t256 ≥ 0 then (some false) else (impl_StateOk.l0 k2 l0_1 (l0_1.length : Int) (wrap64 (x53_2 + 1)) a0_0 l0_1 l0_2 a0_3 l0_4 l0_5))) else (none)) else (none)) else (impl_StateOk.l0 k2 l0_1 (l0_1.length : Int) (wrap64 (x53_2 + 1)) a0_0 l0_1 l0_2 a0_3 l0_4 l0_5))))) = some r := by rw [if_pos rfl] at H; exact H
           clear H
           have H := H1
           clear H1
           refine pvn_ HT_ (h := ?_)
           by_cases c28 : ((rd_T92 l0_1 x53_2).f3) = 0
           ·rw [if_pos c28] at H
            have c28b0 : (((rd_T92 l0_1 x53_2).f3) == 0) = true := beq_iff_eq.mpr c28
            have c28b1 : (((rd_T92 l0_1 x53_2).f3) != 0) = false := bne_eq_false_iff_eq.mpr c28
            clear c28
            iterate 3 (refine pvn_ HT_ (h := ?_))
            refine tvn_ HT_ HW_ hHeld (h := ?_)
            iterate 2 (refine pvn_ HT_ (h := ?_))
            refine puns_ HT_ 5 [some _, some _, some _, some _, some _] (h := ?_)
            by_cases c29 : x53_2 > 0
            ·rw [if_pos c29] at H
             have c29b0 : decide (0 < x53_2) = true := decide_eq_true c29
             clear c29
             obtain ⟨ji30, hji30⟩ : ∃ j_ : Int, (wrap64 (x53_2 - 1)) = j_ := ⟨_, rfl⟩
             replace H : (if 0 ≤ (ji30) then (if (ji30) < (l0_1.length : Int) then ((bytes_Compare.f ((rd_T92 l0_1 (ji30)).f0) ((rd_T92 l0_1 x53_2).f0)).bind fun t253 => (if t253 ≥ 0 then (some false) else (impl_StateOk.l0 k2 l0_1 (l0_1.length : Int) (wrap64 (x53_2 + 1)) a0_0 l0_1 l0_2 a0_3 l0_4 l0_5))) else (none)) else (none)) = some r := by first | (rw [hji30] at H; exact H) | (simp only [hji30] at H ⊢; exact H)
             (try rw [hji30] at A22)
             (try rw [hji30] at A24)
             (try rw [hji30] at A26)
             have hji30w : (IntKind.i64.wrap (x53_2 - 1)) = ji30 := (i64_w _).trans hji30
             by_cases c31 : 0 ≤ (ji30)
             ·rw [if_pos c31] at H
              have c31b0 : decide (0 ≤ (ji30)) = true := decide_eq_true c31
              clear c31
              by_cases c32 : (ji30) < (l0_1.length : Int)
              ·rw [if_pos c32] at H
               have c32b0 : decide ((ji30) < (l0_1.length : Int)) = true := decide_eq_true c32
               clear c32
               replace H := Option.bind_eq_some_iff.mp H
               obtain ⟨t253, A330, H⟩ := H
               replace H : (if t253 ≥ 0 then (some false) else (impl_StateOk.l0 k2 l0_1 (l0_1.length : Int) (wrap64 (x53_2 + 1)) a0_0 l0_1 l0_2 a0_3 l0_4 l0_5)) = some r := H
               have A33 := Aside0.mk A330
               clear A330
               have p252 : 0 ≤ ((ji30) : Int) := od
               have q252 : (ji30) < (l0_1.length : Int) := od
               obtain ⟨ad252, A252_0, c252_0, A252_1, c252_1, e252, hx252_0, hx252_1, hx252_2, hx252_3, hl252_0, hi252_0, hl252_1, hi252_1⟩ := at_T92 HR0_1.out (ji30) p252 q252
               have hw252_3 := hx252_3
               have hw252_2 := hx252_2
               have hw252_1 := hx252_1
               have hw252_0 := hx252_0
               obtain rfl : ad247 = ad252 := (by injection e252)
               replace hx252_0 := hxb HB hx252_0
               replace hx252_1 := hxb HB hx252_1
               replace hx252_2 := hxb HB hx252_2
               replace hx252_3 := hxb HB hx252_3
               have HR252_0 := Aside0.mk hi252_0
               have HC252_0 := Aside0.mk hl252_0
               clear hi252_0 hl252_0
               have HR252_1 := Aside0.mk hi252_1
               have HC252_1 := Aside0.mk hl252_1
               clear hi252_1 hl252_1
               replace p252 := eq_true p252
               replace q252 := eq_true q252
               refine widen_ (S' := fun w' => w'.cell? ⟨gb248, 0, none⟩ = some (.slice A247_0 ((rd_T92 l0_1 x53_2).f0).length c247_0) ∧ w'.cell? ⟨gb248, 1, none⟩ = some (.slice A247_1 ((rd_T92 l0_1 x53_2).f1).length c247_1) ∧ w'.cell? ⟨gb248, 2, none⟩ = some (.int .i64 ((rd_T92 l0_1 x53_2).f2)) ∧ w'.cell? ⟨gb248, 3, none⟩ = some (.int .i64 ((rd_T92 l0_1 x53_2).f3)) ∧ w'.cell? ⟨gb244, 0, none⟩ = some (.int .i64 a0_0) ∧ w'.cell? ⟨gb244, 1, none⟩ = some (.slice (some ad247) l0_1.length c0_1) ∧ w'.cell? ⟨gb244, 2, none⟩ = some (.slice A0_2 l0_2.length c0_2) ∧ w'.cell? ⟨gb244, 3, none⟩ = some (.int .i64 a0_3) ∧ w'.cell? ⟨gb244, 4, none⟩ = some (.slice A0_4 l0_4.length c0_4) ∧ w'.cell? ⟨gb244, 5, none⟩ = some (.slice A0_5 l0_5.length c0_5) ∧ w'.cell? (ad247.add (((ji30)).toNat * 4)) = some (.slice A252_0 ((rd_T92 l0_1 (ji30)).f0).length c252_0) ∧ w'.cell? ⟨(ad247.add (((ji30)).toNat * 4)).block, (ad247.add (((ji30)).toNat * 4)).off + 1, none⟩ = some (.slice A252_1 ((rd_T92 l0_1 (ji30)).f1).length c252_1) ∧ w'.cell? ⟨(ad247.add (((ji30)).toNat * 4)).block, (ad247.add (((ji30)).toNat * 4)).off + 2, none⟩ = some (.int .i64 ((rd_T92 l0_1 (ji30)).f2)) ∧ w'.cell? ⟨(ad247.add (((ji30)).toNat * 4)).block, (ad247.add (((ji30)).toNat * 4)).off + 3, none⟩ = some (.int .i64 ((rd_T92 l0_1 (ji30)).f3))) (fun _ h_ => ⟨h_.1, h_.2.1, h_.2.2.1, h_.2.2.2.1, h_.2.2.2.2.1, h_.2.2.2.2.2.1, h_.2.2.2.2.2.2.1, h_.2.2.2.2.2.2.2.1, h_.2.2.2.2.2.2.2.2.1, h_.2.2.2.2.2.2.2.2.2.1⟩) (cells_4 BK248.out (cells_6 BK244.out ⟨(hxb HB hw252_0 :), (hxb HB hw252_1 :), (hxb HB hw252_2 :), (hxb HB hw252_3 :)⟩)) (h := ?_)
               clear hHeld; intro hHeld
               iterate 7 (refine pvn_ HT_ (h := ?_))
               refine pv_ HT_ 36 (some 94) (tb 47 103079215103) (h := ?_)
               refine pv_ HT_ 37 (some 95) (tb 47 240518168575) (h := ?_)
               refine pv_ HT_ 41 (some 99) (tb 47 2439541424127) (h := ?_)
               refine tv_ HT_ HW_ hHeld 35 (some 93) (tb 47 2473901162495) (h := ?_)
               refine pv_ HT_ 38 (some 96) (tb 47 2748779069439) (h := ?_)
               refine pv_ HT_ 39 (some 97) (tb 47 3298534883327) (h := ?_)
               refine tv_ HT_ HW_ hHeld 40 (some 98) (tf 42 5) (h := ?_)
               refine tvn_ HT_ HW_ hHeld (h := ?_)
               refine one_ (i := 43) (N := some 101) (tf 44 3) rfl rfl (one_of HT_.out (by kernel_rfl)) (by decide) (fun K hK => ?_)
               refine goes_ Try.func84 (by kernel_rfl) rfl #[.slice A252_0 ((rd_T92 l0_1 (ji30)).f0).length c252_0, .slice A247_0 ((rd_T92 l0_1 x53_2).f0).length c247_0] (by rfl) rfl rfl (by (try simp only [List.map_toArray, List.map_cons, List.map_nil]); first | done | (simp only [hji30]; rfl) | rfl | (simp only [List.length_drop, List.length_take]; rfl)) ?_
               with_reducible refine (bytes_Compare.calls _ _ ((rd_T92 l0_1 (ji30)).f0) _ _ ((rd_T92 l0_1 x53_2).f0) t253 _ ?side1 ?side2 ?side3 ?side4 A33.out).mono ?_
               (case side1 => exact kcb)
               (case side2 => exact HC252_0.out)
               (case side3 => exact kcb)
               (case side4 => exact HC247_0.out)
               rintro e w' ⟨rfl, ⟨nd, rfl⟩⟩
               refine ⟨_, rfl, ?_⟩
               refine hK.out _ _ (cells_4 BK248.out (cells_6 BK244.out ⟨(hxb HB hw252_0 :), (hxb HB hw252_1 :), (hxb HB hw252_2 :), (hxb HB hw252_3 :)⟩)) (fun hHeld => ?_)
               clear hK K
               refine nrm_ (some 101) (h := ?_)
               by_cases c34 : t253 ≥ 0
               ·rw [if_pos c34] at H
                have c34b0 : decide (0 ≤ t253) = true := decide_eq_true c34
                clear c34
                obtain rfl := Option.some.inj H
                refine pv_ HT_ 44 (some 102) (tf 45 2) (h := ?_)
                iterate 2 (refine pvn_ HT_ (h := ?_))
                refine done_ (done_of HT_.out (by kernel_rfl)) ?_
                try go_wp2
                go_ret
                exact ⟨by first | rfl | (simp [errW_none, errW_some] <;> rfl) | (simp only [← hji30]; first | rfl | (simp [errW_none, errW_some] <;> rfl)) | (simp [*, errW_none, errW_some] <;> rfl), bel⟩
               rw [if_neg c34] at H
               have c34b0 : decide (0 ≤ t253) = false := decide_eq_false c34
               clear c34
               have H' := Aside0.mk H
               clear H
               refine pv_ HT_ 44 (some 102) (tf 45 2) (h := ?_)
               iterate 2 (refine pvn_ HT_ (h := ?_))
               refine done_ (done_of HT_.out (by kernel_rfl)) ?_
               try go_wp2
               go_roundg k2
               case measure => have := HJ1.out; have := HK2.out; omega
               case rel => exact ⟨(wrap64 (x53_2 + 1)), rs_, H', ⟨by have := HJ1.out; have := HK2.out; omega⟩, ⟨bkp BK244⟩, ⟨bel⟩⟩
              rw [if_neg c32] at H
              exact absurd H (by simp)
             rw [if_neg c31] at H
             exact absurd H (by simp)
            rw [if_neg c29] at H
            have c29b0 : decide (0 < x53_2) = false := decide_eq_false c29
            clear c29
            have H' := Aside0.mk H
            clear H
            iterate 6 (refine pvn_ HT_ (h := ?_))
            refine puns_ HT_ 11 [some _, some _, some _, some _, some _, some _, some _, some _, some _, some _, some _] (h := ?_)
            iterate 2 (refine pvn_ HT_ (h := ?_))
            refine done_ (done_of HT_.out (by kernel_rfl)) ?_
            try go_wp2
            go_roundg k2
            case measure => have := HJ1.out; have := HK2.out; omega
            case rel => exact ⟨(wrap64 (x53_2 + 1)), rs_, H', ⟨by have := HJ1.out; have := HK2.out; omega⟩, ⟨bkp BK244⟩, ⟨bel⟩⟩
           rw [if_neg c28] at H
           have c28b0 : (((rd_T92 l0_1 x53_2).f3) == 0) = false := beq_eq_false_iff_ne.mpr c28
           have c28b1 : (((rd_T92 l0_1 x53_2).f3) != 0) = true := bne_iff_ne.mpr c28
           replace H := Option.bind_eq_some_iff.mp H
           obtain ⟨t254, A500, H⟩ := H
           replace H : (if t254 < 0 then (some false) else (if x53_2 > 0 then (if 0 ≤ (wrap64 (x53_2 - 1)) then (if (wrap64 (x53_2 - 1)) < (l0_1.length : Int) then ((bytes_Compare.f ((rd_T92 l0_1 (wrap64 (x53_2 - 1))).f0) ((rd_T92 l0_1 x53_2).f0)).bind fun t256 => (if t256 ≥ 0 then (some false) else (impl_StateOk.l0 k2 l0_1 (l0_1.length : Int) (wrap64 (x53_2 + 1)) a0_0 l0_1 l0_2 a0_3 l0_4 l0_5))) else (none)) else (none)) else (impl_StateOk.l0 k2 l0_1 (l0_1.length : Int) (wrap64 (x53_2 + 1)) a0_0 l0_1 l0_2 a0_3 l0_4 l0_5))) = some r := H
           have A50 := Aside0.mk A500
           clear A500
           iterate 3 (refine pvn_ HT_ (h := ?_))
           refine tvn_ HT_ HW_ hHeld (h := ?_)
           iterate 2 (refine pvn_ HT_ (h := ?_))
           refine pv_ HT_ 24 (some 82) (tb 47 25165823) (h := ?_)
           refine tv_ HT_ HW_ hHeld 23 (some 81) (tf 25 22) (h := ?_)
           refine tvn_ HT_ HW_ hHeld (h := ?_)
           refine one_ (i := 26) (N := some 84) (tf 27 20) rfl rfl (one_of HT_.out (by kernel_rfl)) (by decide) (fun K hK => ?_)
           refine gs_ Try.func83 #[.agg #[.int .i64 a0_0, .slice (some ad247) l0_1.length c0_1, .slice A0_2 l0_2.length c0_2, .int .i64 a0_3, .slice A0_4 l0_4.length c0_4, .slice A0_5 l0_5.length c0_5], .int .i64 ((rd_T92 l0_1 x53_2).f3)] (h := ?_)
           with_reducible refine (impl_State_session.calls a0_0 _ _ l0_1 _ _ l0_2 a0_3 _ _ l0_4 _ _ l0_5 ((rd_T92 l0_1 x53_2).f3) t254 _ ?side1 ?side2 ?side3 ?side4 ?side5 ?side6 ?side7 ?side8 A50.out).mono ?_
           (case side1 => exact kcb)
           (case side2 => exact HC0_1.out)
           (case side3 => exact kcb)
           (case side4 => exact HC0_2.out)
           (case side5 => exact kcb)
           (case side6 => exact HC0_4.out)
           (case side7 => exact kcb)
           (case side8 => exact HC0_5.out)
           rintro e wv4 ⟨rfl, hb⟩
           refine ⟨_, rfl, ?_⟩
           replace BK244 := Aside0.mk (blb BK244 hb)
           replace BK248 := Aside0.mk (blb BK248 hb)
           replace HB := bst hb
           (try clear hb)
           (try clear hb2)
           (try clear hk)
           (try clear hi)
           refine hK.out _ _ (cells_4 BK248.out (cellz_6 BK244.out)) (fun hHeld => ?_)
           clear hK K
           refine nrm_ (some 84) (h := ?_)
           by_cases c51 : t254 < 0
           ·rw [if_pos c51] at H
            have c51b0 : decide (t254 < 0) = true := decide_eq_true c51
            clear c51
            obtain rfl := Option.some.inj H
            iterate 4 (refine pvn_ HT_ (h := ?_))
            refine puns_ HT_ 15 [some _, some _, some _, some _, some _, some _, some _, some _, some _, some _, some _, some _, some _, some _, some _] (h := ?_)
            refine pvn_ HT_ (h := ?_)
            refine done_ (done_of HT_.out (by kernel_rfl)) ?_
            try go_wp2
            go_ret
            exact ⟨rz_, bel⟩
           rw [if_neg c51] at H
           have c51b0 : decide (t254 < 0) = false := decide_eq_false c51
           clear c51
           refine pvn_ HT_ (h := ?_)
           by_cases c58 : x53_2 > 0
           ·rw [if_pos c58] at H
            have c58b0 : decide (0 < x53_2) = true := decide_eq_true c58
            clear c58
            obtain ⟨ji59, hji59⟩ : ∃ j_ : Int, (wrap64 (x53_2 - 1)) = j_ := ⟨_, rfl⟩
            replace H : (if 0 ≤ (ji59) then (if (ji59) < (l0_1.length : Int) then ((bytes_Compare.f ((rd_T92 l0_1 (ji59)).f0) ((rd_T92 l0_1 x53_2).f0)).bind fun t256 => (if t256 ≥ 0 then (some false) else (impl_StateOk.l0 k2 l0_1 (l0_1.length : Int) (wrap64 (x53_2 + 1)) a0_0 l0_1 l0_2 a0_3 l0_4 l0_5))) else (none)) else (none)) = some r := by first | (rw [hji59] at H; exact H) | (simp only [hji59] at H ⊢; exact H)
            (try rw [hji59] at A22)
            (try rw [hji59] at A24)
            (try rw [hji59] at A26)
            (try rw [hji59] at A50)
            have hji59w : (IntKind.i64.wrap (x53_2 - 1)) = ji59 := (i64_w _).trans hji59
            by_cases c60 : 0 ≤ (ji59)
            ·rw [if_pos c60] at H
             have c60b0 : decide (0 ≤ (ji59)) = true := decide_eq_true c60
             clear c60
             by_cases c61 : (ji59) < (l0_1.length : Int)
             ·rw [if_pos c61] at H
              have c61b0 : decide ((ji59) < (l0_1.length : Int)) = true := decide_eq_true c61
              clear c61
              replace H := Option.bind_eq_some_iff.mp H
              obtain ⟨t256, A620, H⟩ := H
              replace H : (if t256 ≥ 0 then (some false) else (impl_StateOk.l0 k2 l0_1 (l0_1.length : Int) (wrap64 (x53_2 + 1)) a0_0 l0_1 l0_2 a0_3 l0_4 l0_5)) = some r := H
              have A62 := Aside0.mk A620
              clear A620
              have p255 : 0 ≤ ((ji59) : Int) := od
              have q255 : (ji59) < (l0_1.length : Int) := od
              obtain ⟨ad255, A255_0, c255_0, A255_1, c255_1, e255, hx255_0, hx255_1, hx255_2, hx255_3, hl255_0, hi255_0, hl255_1, hi255_1⟩ := at_T92 HR0_1.out (ji59) p255 q255
              have hw255_3 := hx255_3
              have hw255_2 := hx255_2
              have hw255_1 := hx255_1
              have hw255_0 := hx255_0
              obtain rfl : ad247 = ad255 := (by injection e255)
              replace hx255_0 := hxb HB hx255_0
              replace hx255_1 := hxb HB hx255_1
              replace hx255_2 := hxb HB hx255_2
              replace hx255_3 := hxb HB hx255_3
              have HR255_0 := Aside0.mk hi255_0
              have HC255_0 := Aside0.mk hl255_0
              clear hi255_0 hl255_0
              have HR255_1 := Aside0.mk hi255_1
              have HC255_1 := Aside0.mk hl255_1
              clear hi255_1 hl255_1
              replace p255 := eq_true p255
              replace q255 := eq_true q255
              refine widen_ (S' := fun w' => w'.cell? ⟨gb248, 0, none⟩ = some (.slice A247_0 ((rd_T92 l0_1 x53_2).f0).length c247_0) ∧ w'.cell? ⟨gb248, 1, none⟩ = some (.slice A247_1 ((rd_T92 l0_1 x53_2).f1).length c247_1) ∧ w'.cell? ⟨gb248, 2, none⟩ = some (.int .i64 ((rd_T92 l0_1 x53_2).f2)) ∧ w'.cell? ⟨gb248, 3, none⟩ = some (.int .i64 ((rd_T92 l0_1 x53_2).f3)) ∧ w'.cell? ⟨gb244, 0, none⟩ = some (.int .i64 a0_0) ∧ w'.cell? ⟨gb244, 1, none⟩ = some (.slice (some ad247) l0_1.length c0_1) ∧ w'.cell? ⟨gb244, 2, none⟩ = some (.slice A0_2 l0_2.length c0_2) ∧ w'.cell? ⟨gb244, 3, none⟩ = some (.int .i64 a0_3) ∧ w'.cell? ⟨gb244, 4, none⟩ = some (.slice A0_4 l0_4.length c0_4) ∧ w'.cell? ⟨gb244, 5, none⟩ = some (.slice A0_5 l0_5.length c0_5) ∧ w'.cell? (ad247.add (((ji59)).toNat * 4)) = some (.slice A255_0 ((rd_T92 l0_1 (ji59)).f0).length c255_0) ∧ w'.cell? ⟨(ad247.add (((ji59)).toNat * 4)).block, (ad247.add (((ji59)).toNat * 4)).off + 1, none⟩ = some (.slice A255_1 ((rd_T92 l0_1 (ji59)).f1).length c255_1) ∧ w'.cell? ⟨(ad247.add (((ji59)).toNat * 4)).block, (ad247.add (((ji59)).toNat * 4)).off + 2, none⟩ = some (.int .i64 ((rd_T92 l0_1 (ji59)).f2)) ∧ w'.cell? ⟨(ad247.add (((ji59)).toNat * 4)).block, (ad247.add (((ji59)).toNat * 4)).off + 3, none⟩ = some (.int .i64 ((rd_T92 l0_1 (ji59)).f3))) (fun _ h_ => ⟨h_.1, h_.2.1, h_.2.2.1, h_.2.2.2.1, h_.2.2.2.2.1, h_.2.2.2.2.2.1, h_.2.2.2.2.2.2.1, h_.2.2.2.2.2.2.2.1, h_.2.2.2.2.2.2.2.2.1, h_.2.2.2.2.2.2.2.2.2.1⟩) (cells_4 BK248.out (cells_6 BK244.out ⟨(hxb HB hw255_0 :), (hxb HB hw255_1 :), (hxb HB hw255_2 :), (hxb HB hw255_3 :)⟩)) (h := ?_)
              clear hHeld; intro hHeld
              iterate 7 (refine pvn_ HT_ (h := ?_))
              refine pv_ HT_ 36 (some 94) (tb 47 103079215103) (h := ?_)
              refine pv_ HT_ 37 (some 95) (tb 47 240518168575) (h := ?_)
              refine pv_ HT_ 41 (some 99) (tb 47 2439541424127) (h := ?_)
              refine tv_ HT_ HW_ hHeld 35 (some 93) (tb 47 2473901162495) (h := ?_)
              refine pv_ HT_ 38 (some 96) (tb 47 2748779069439) (h := ?_)
              refine pv_ HT_ 39 (some 97) (tb 47 3298534883327) (h := ?_)
              refine tv_ HT_ HW_ hHeld 40 (some 98) (tf 42 5) (h := ?_)
              refine tvn_ HT_ HW_ hHeld (h := ?_)
              refine one_ (i := 43) (N := some 101) (tf 44 3) rfl rfl (one_of HT_.out (by kernel_rfl)) (by decide) (fun K hK => ?_)
              refine goes_ Try.func84 (by kernel_rfl) rfl #[.slice A255_0 ((rd_T92 l0_1 (ji59)).f0).length c255_0, .slice A247_0 ((rd_T92 l0_1 x53_2).f0).length c247_0] (by rfl) rfl rfl (by (try simp only [List.map_toArray, List.map_cons, List.map_nil]); first | done | (simp only [hji59]; rfl) | rfl | (simp only [List.length_drop, List.length_take]; rfl)) ?_
              with_reducible refine (bytes_Compare.calls _ _ ((rd_T92 l0_1 (ji59)).f0) _ _ ((rd_T92 l0_1 x53_2).f0) t256 _ ?side1 ?side2 ?side3 ?side4 A62.out).mono ?_
              (case side1 => exact kcb)
              (case side2 => exact HC255_0.out)
              (case side3 => exact kcb)
              (case side4 => exact HC247_0.out)
              rintro e w' ⟨rfl, ⟨nd, rfl⟩⟩
              refine ⟨_, rfl, ?_⟩
              refine hK.out _ _ (cells_4 BK248.out (cells_6 BK244.out ⟨(hxb HB hw255_0 :), (hxb HB hw255_1 :), (hxb HB hw255_2 :), (hxb HB hw255_3 :)⟩)) (fun hHeld => ?_)
              clear hK K
              refine nrm_ (some 101) (h := ?_)
              by_cases c63 : t256 ≥ 0
              ·rw [if_pos c63] at H
               have c63b0 : decide (0 ≤ t256) = true := decide_eq_true c63
               clear c63
               obtain rfl := Option.some.inj H
               refine pv_ HT_ 44 (some 102) (tf 45 2) (h := ?_)
               iterate 2 (refine pvn_ HT_ (h := ?_))
               refine done_ (done_of HT_.out (by kernel_rfl)) ?_
               try go_wp2
               go_ret
               exact ⟨by first | rfl | (simp [errW_none, errW_some] <;> rfl) | (simp only [← hji59]; first | rfl | (simp [errW_none, errW_some] <;> rfl)) | (simp [*, errW_none, errW_some] <;> rfl), bel⟩
              rw [if_neg c63] at H
              have c63b0 : decide (0 ≤ t256) = false := decide_eq_false c63
              clear c63
              have H' := Aside0.mk H
              clear H
              refine pv_ HT_ 44 (some 102) (tf 45 2) (h := ?_)
              iterate 2 (refine pvn_ HT_ (h := ?_))
              refine done_ (done_of HT_.out (by kernel_rfl)) ?_
              try go_wp2
              go_roundg k2
              case measure => have := HJ1.out; have := HK2.out; omega
              case rel => exact ⟨(wrap64 (x53_2 + 1)), rs_, H', ⟨by have := HJ1.out; have := HK2.out; omega⟩, ⟨bkp BK244⟩, ⟨bel⟩⟩
             rw [if_neg c61] at H
             exact absurd H (by simp)
            rw [if_neg c60] at H
            exact absurd H (by simp)
           rw [if_neg c58] at H
           have c58b0 : decide (0 < x53_2) = false := decide_eq_false c58
           clear c58
           have H' := Aside0.mk H
           clear H
           iterate 6 (refine pvn_ HT_ (h := ?_))
           refine puns_ HT_ 11 [some _, some _, some _, some _, some _, some _, some _, some _, some _, some _, some _] (h := ?_)
           iterate 2 (refine pvn_ HT_ (h := ?_))
           refine done_ (done_of HT_.out (by kernel_rfl)) ?_
           try go_wp2
           go_roundg k2
           case measure => have := HJ1.out; have := HK2.out; omega
           case rel => exact ⟨(wrap64 (x53_2 + 1)), rs_, H', ⟨by have := HJ1.out; have := HK2.out; omega⟩, ⟨bkp BK244⟩, ⟨bel⟩⟩
          replace c27 := Bool.eq_false_iff.mpr c27
          subst c27
          have H1 : (some false) = some r := by rw [if_neg (show ¬ (false = true) by decide)] at H; exact H
          clear H
          have H := H1
          clear H1
          obtain rfl := Option.some.inj H
          iterate 3 (refine pvn_ HT_ (h := ?_))
          refine puns_ HT_ 10 [some _, some _, some _, some _, some _, some _, some _, some _, some _, some _] (h := ?_)
          iterate 2 (refine pvn_ HT_ (h := ?_))
          refine puns_ HT_ 15 [some _, some _, some _, some _, some _, some _, some _, some _, some _, some _, some _, some _, some _, some _, some _] (h := ?_)
          refine pvn_ HT_ (h := ?_)
          refine done_ (done_of HT_.out (by kernel_rfl)) ?_
          try go_wp2
          go_ret
          exact ⟨rz_, bel⟩
         replace c25 := Bool.eq_false_iff.mpr c25
         subst c25
         have H1 : (some false) = some r := by rw [if_neg (show ¬ (false = true) by decide)] at H; exact H
         clear H
         have H := H1
         clear H1
         obtain rfl := Option.some.inj H
         iterate 3 (refine pvn_ HT_ (h := ?_))
         refine puns_ HT_ 6 [some _, some _, some _, some _, some _, some _] (h := ?_)
         iterate 2 (refine pvn_ HT_ (h := ?_))
         refine puns_ HT_ 10 [some _, some _, some _, some _, some _, some _, some _, some _, some _, some _] (h := ?_)
         iterate 2 (refine pvn_ HT_ (h := ?_))
         refine puns_ HT_ 15 [some _, some _, some _, some _, some _, some _, some _, some _, some _, some _, some _, some _, some _, some _, some _] (h := ?_)
         refine pvn_ HT_ (h := ?_)
         refine done_ (done_of HT_.out (by kernel_rfl)) ?_
         try go_wp2
         go_ret
         exact ⟨rz_, bel⟩
        replace c23 := Bool.eq_false_iff.mpr c23
        subst c23
        have H1 : (some false) = some r := by rw [if_neg (show ¬ (false = true) by decide)] at H; exact H
        clear H
        have H := H1
        clear H1
        obtain rfl := Option.some.inj H
        iterate 2 (refine pvn_ HT_ (h := ?_))
        refine puns_ HT_ 4 [some _, some _, some _, some _] (h := ?_)
        iterate 2 (refine pvn_ HT_ (h := ?_))
        refine puns_ HT_ 6 [some _, some _, some _, some _, some _, some _] (h := ?_)
        iterate 2 (refine pvn_ HT_ (h := ?_))
        refine puns_ HT_ 10 [some _, some _, some _, some _, some _, some _, some _, some _, some _, some _] (h := ?_)
        iterate 2 (refine pvn_ HT_ (h := ?_))
        refine puns_ HT_ 15 [some _, some _, some _, some _, some _, some _, some _, some _, some _, some _, some _, some _, some _, some _, some _] (h := ?_)
        refine pvn_ HT_ (h := ?_)
        refine done_ (done_of HT_.out (by kernel_rfl)) ?_
        try go_wp2
        go_ret
        exact ⟨rz_, bel⟩
       rw [if_neg c21] at H
       exact absurd H (by simp)
      rw [if_neg c20] at H
      exact absurd H (by simp)
     rw [if_neg c19] at H
     have c19b0 : decide (x53_2 < (l0_1.length : Int)) = false := decide_eq_false c19
     clear c19
     obtain ⟨ji97, hji97⟩ : ∃ j_ : Int, (mx 1 a0_3) = j_ := ⟨_, rfl⟩
     replace H : (impl_StateOk.l1 k2 ji97 l0_2 (l0_2.length : Int) 0 a0_0 l0_1 l0_2 a0_3 l0_4 l0_5) = some r := by first | (rw [hji97] at H; exact H) | (simp only [hji97] at H ⊢; exact H)
     have hji97_ : (if 1 < a0_3 then a0_3 else 1) = ji97 := hji97
     have H' := Aside0.mk H
     clear H
     obtain ⟨C98_0, C98_1, C98_2, C98_3, C98_4, C98_5, -⟩ := cells_6 BK244.out trivial
     obtain ⟨F98_0, F98_1, F98_2, F98_3, F98_4, F98_5, -⟩ := frz_6 BK244.out
     go_wp2
     go_loopg [5, 112] k2 (fun kq v5 v112 w' => ∃ (x5_3 : Int) (x112_3 : Int), v5 = .int .i64 x5_3 ∧ v112 = .int .i64 x112_3 ∧ Aside0 (impl_StateOk.l1 kq x5_3 l0_2 (l0_2.length : Int) x112_3 a0_0 l0_1 l0_2 a0_3 l0_4 l0_5 = some r) ∧ Aside0 (kq ≤ k2) ∧ Aside0 (w'.heap[gb244]? = some (.cells #[.int .i64 a0_0, (.slice A0_1 l0_1.length c0_1), (.slice A0_2 l0_2.length c0_2), .int .i64 a0_3, (.slice A0_4 l0_4.length c0_4), (.slice A0_5 l0_5.length c0_5)] 35 (0, 0))) ∧ Aside0 (Below w.heap.size w w'))
     case atStart => exact ⟨(ji97), (0), (by first | rfl | (simp; done) | (simp only [← hji97] <;> (first | rfl | simp)) | (simp [*]; done)), rs_, H', ⟨Nat.le_refl _⟩, ⟨bkp BK244⟩, ⟨bel⟩⟩
     case round => as_aux_lemma =>
      clear H'
      try clear c1; try clear c2; try clear p2; try clear q2; try clear hx2; try clear c4; try clear c8; try clear c9; try clear c19; try clear c19b0; try clear c20; try clear c21; try clear c23; try clear c24; try clear p24; try clear q24; try clear hx24; try clear c47; try clear c82; try clear c93; try clear C94_0 C94_1 C94_2 C94_3; try clear C98_0 C98_1 C98_2 C98_3 C98_4 C98_5; try clear F94_0 F94_1 F94_2 F94_3; try clear F98_0 F98_1 F98_2 F98_3 F98_4 F98_5; try clear hx247_0; try clear hx247_1; try clear hx247_2; try clear hx247_3; try clear p247; try clear q247
      obtain ⟨x5_3, x112_3, rfl, rfl, HA, HK3, BK244, HB⟩ := hrel
      cases gk with
      | zero => exact absurd HA.out (by simp [impl_StateOk.l1])
      | succ k3 =>
       have H := HA.out
       clear HA
       simp only [impl_StateOk.l1] at H
       by_cases c99 : x112_3 < (l0_2.length : Int)
       ·rw [if_pos c99] at H
        have c99b0 : decide (x112_3 < (l0_2.length : Int)) = true := decide_eq_true c99
        clear c99
        by_cases c100 : 0 ≤ x112_3
        ·rw [if_pos c100] at H
         have c100b0 : decide (0 ≤ x112_3) = true := decide_eq_true c100
         clear c100
         by_cases c101 : x112_3 < (l0_2.length : Int)
         ·rw [if_pos c101] at H
          have c101b0 : decide (x112_3 < (l0_2.length : Int)) = true := decide_eq_true c101
          clear c101
          replace H := Option.bind_eq_some_iff.mp H
          obtain ⟨⟨t259, t260⟩, A1020, H⟩ := H
          replace H : (if t260 = true then (some false) else ((impl_KeyOk.f k3 ((rd_T94 l0_2 x112_3).f0)).bind fun t261 => (if t261 = true then ((impl_State_tomb.f a0_0 l0_1 l0_2 a0_3 l0_4 l0_5 ((rd_T94 l0_2 x112_3).f0)).bind fun t262 => (if t262 = x112_3 then ((impl_within.f ((rd_T94 l0_2 x112_3).f1) x5_3 a0_0).bind fun t263 => (if t263 = true then (impl_StateOk.l1 k3 ((rd_T94 l0_2 x112_3).f1) l0_2 (l0_2.length : Int) (wrap64 (x112_3 + 1)) a0_0 l0_1 l0_2 a0_3 l0_4 l0_5) else (some false))) else (some false))) else (some false)))) = some r := H
          have A102 := Aside0.mk A1020
          clear A1020
          by_cases c103 : t260 = true
          ·subst c103
           have H1 : (some false) = some r := by rw [if_pos rfl] at H; exact H
           clear H
           have H := H1
           clear H1
           as_aux_lemma =>
            obtain rfl := Option.some.inj H
            have p257 : 0 ≤ (x112_3 : Int) := od
            have q257 : x112_3 < (l0_2.length : Int) := od
            obtain ⟨ad257, A257_0, c257_0, e257, hx257_0, hx257_1, hl257_0, hi257_0⟩ := at_T94 HR0_2.out x112_3 p257 q257
            cases e257
            replace hx257_0 := hxb HB hx257_0
            replace hx257_1 := hxb HB hx257_1
            have HR257_0 := Aside0.mk hi257_0
            have HC257_0 := Aside0.mk hl257_0
            clear hi257_0 hl257_0
            replace p257 := eq_true p257
            replace q257 := eq_true q257
            go_wp2_with (first | ((with_reducible refine gate_dst (N := 7) rfl ?_); (try (refine gate_guard (by rfl) ?_; dsimp only)); refine bx_ 7 #[.slice none 0 0, .int .i64 0] 94 (h := ?_); intro gb258 hg w104 hbox hb; have BK258 := Aside0.mk (hbox); have GW258 := Aside0.mk ((by rw [hg]; exact (below_size bel) : w.heap.size ≤ gb258)); have GE258 := GW258; have NB244_258 := Aside0.mk ((by rw [hg]; exact Nat.ne_of_lt (blt BK244) : gb244 ≠ gb258)); have NB258_244 := Aside0.mk NB244_258.out.symm; replace BK244 := Aside0.mk (blb BK244 hb); replace HB := bst hb; clear hb hbox hg; have hnb105 := NB258_244.out; have hnc105 := NB244_258.out; obtain ⟨C106_0, C106_1, -⟩ := cells_2 BK258.out trivial; obtain ⟨F106_0, F106_1, -⟩ := frz_2 BK258.out; obtain ⟨C107_0, C107_1, C107_2, C107_3, C107_4, C107_5, -⟩ := cells_6 BK244.out trivial; obtain ⟨F107_0, F107_1, F107_2, F107_3, F107_4, F107_5, -⟩ := frz_6 BK244.out) | ((with_reducible refine gate_callee (f := 85) rfl ?_); refine gl_ (some 121) Try.func85 #[.agg #[.int .i64 a0_0, .slice A0_1 l0_1.length c0_1, .slice (some ad257) l0_2.length c0_2, .int .i64 a0_3, .slice A0_4 l0_4.length c0_4, .slice A0_5 l0_5.length c0_5], .slice A257_0 ((rd_T94 l0_2 x112_3).f0).length c257_0] (h := ?_); (with_reducible refine (impl_State_row.calls k3 a0_0 _ _ l0_1 _ _ l0_2 a0_3 _ _ l0_4 _ _ l0_5 _ _ ((rd_T94 l0_2 x112_3).f0) t259 true _ ?side1 ?side2 ?side3 ?side4 ?side5 ?side6 ?side7 ?side8 ?side9 ?side10 A102.out).mono ?_); (case side1 => exact Kd.C_below HR0_1.out bel); (case side2 => exact HC0_1.out); (case side3 => exact Kd.C_below HR0_2.out bel); (case side4 => exact HC0_2.out); (case side5 => exact Kd.C_below HR0_4.out bel); (case side6 => exact HC0_4.out); (case side7 => exact Kd.C_below HR0_5.out bel); (case side8 => exact HC0_5.out); (case side9 => exact Kd.C_below HR257_0.out bel); (case side10 => exact HC257_0.out); rintro e w108 ⟨rfl, hb⟩; refine ⟨_, rfl, ?_⟩; replace BK244 := Aside0.mk (blk_below (g := gb244) (o := .cells #[.int .i64 a0_0, .slice A0_1 l0_1.length c0_1, .slice (some ad257) l0_2.length c0_2, .int .i64 a0_3, .slice A0_4 l0_4.length c0_4, .slice A0_5 l0_5.length c0_5] 35 (0, 0)) (by (with_reducible repeat (first | refine blk_drewN ?_ _ | refine blk_drew ?_ | refine blk_alloc ?_ _)); refine blk_far ?_ NB244_258.out _; (with_reducible repeat (first | refine blk_drewN ?_ _ | refine blk_drew ?_ | refine blk_alloc ?_ _)); refine blk_far ?_ NB244_258.out _; (with_reducible repeat (first | refine blk_drewN ?_ _ | refine blk_drew ?_ | refine blk_alloc ?_ _)); exact BK244.out) hb); replace BK258 := Aside0.mk (blk_below (g := gb258) (o := .cells #[.slice A257_0 ((rd_T94 l0_2 x112_3).f0).length c257_0, .int .i64 ((rd_T94 l0_2 x112_3).f1)] 94 (0, 0)) (by (with_reducible repeat (first | refine blk_drewN ?_ _ | refine blk_drew ?_ | refine blk_alloc ?_ _)); refine blk_put (cs := #[.slice A257_0 ((rd_T94 l0_2 x112_3).f0).length c257_0, .int .i64 0]) ?_ 1 _ rfl; (with_reducible repeat (first | refine blk_drewN ?_ _ | refine blk_drew ?_ | refine blk_alloc ?_ _)); refine blk_put (cs := #[.slice none 0 0, .int .i64 0]) ?_ 0 _ rfl; (with_reducible repeat (first | refine blk_drewN ?_ _ | refine blk_drew ?_ | refine blk_alloc ?_ _)); exact BK258.out) hb); replace HB := bst hb; (try clear hb); (try clear hb2); (try clear hk); (try clear hi)))
            go_ret
            exact ⟨by first | rfl | (simp [errW_none, errW_some] <;> rfl) | (simp only [← hji97]; first | rfl | (simp [errW_none, errW_some] <;> rfl)) | (simp [*, errW_none, errW_some] <;> rfl), bel⟩
          replace c103 := Bool.eq_false_iff.mpr c103
          subst c103
          have H1 : ((impl_KeyOk.f k3 ((rd_T94 l0_2 x112_3).f0)).bind fun t261 => (if t261 = true then ((impl_State_tomb.f a0_0 l0_1 l0_2 a0_3 l0_4 l0_5 ((rd_T94 l0_2 x112_3).f0)).bind fun t262 => (if t262 = x112_3 then ((impl_within.f ((rd_T94 l0_2 x112_3).f1) x5_3 a0_0).bind fun t263 => (if t263 = true then (impl_StateOk.l1 k3 ((rd_T94 l0_2 x112_3).f1) l0_2 (l0_2.length : Int) (wrap64 (x112_3 + 1)) a0_0 l0_1 l0_2 a0_3 l0_4 l0_5) else (some false))) else (some false))) else (some false))) = some r := by rw [if_neg (show ¬ (false = true) by decide)] at H; exact H
          clear H
          have H := H1
          clear H1
          replace H := Option.bind_eq_some_iff.mp H
          obtain ⟨t261, A1090, H⟩ := H
          replace H : (if t261 = true then ((impl_State_tomb.f a0_0 l0_1 l0_2 a0_3 l0_4 l0_5 ((rd_T94 l0_2 x112_3).f0)).bind fun t262 => (if t262 = x112_3 then ((impl_within.f ((rd_T94 l0_2 x112_3).f1) x5_3 a0_0).bind fun t263 => (if t263 = true then (impl_StateOk.l1 k3 ((rd_T94 l0_2 x112_3).f1) l0_2 (l0_2.length : Int) (wrap64 (x112_3 + 1)) a0_0 l0_1 l0_2 a0_3 l0_4 l0_5) else (some false))) else (some false))) else (some false)) = some r := H
          have A109 := Aside0.mk A1090
          clear A1090
          by_cases c110 : t261 = true
          ·subst c110
           have H1 : ((impl_State_tomb.f a0_0 l0_1 l0_2 a0_3 l0_4 l0_5 ((rd_T94 l0_2 x112_3).f0)).bind fun t262 => (if t262 = x112_3 then ((impl_within.f ((rd_T94 l0_2 x112_3).f1) x5_3 a0_0).bind fun t263 => (if t263 = true then (impl_StateOk.l1 k3 ((rd_T94 l0_2 x112_3).f1) l0_2 (l0_2.length : Int) (wrap64 (x112_3 + 1)) a0_0 l0_1 l0_2 a0_3 l0_4 l0_5) else (some false))) else (some false))) = some r := by rw [if_pos rfl] at H; exact H
           clear H
           have H := H1
           clear H1
           replace H := Option.bind_eq_some_iff.mp H
           obtain ⟨t262, A1110, H⟩ := H
           replace H : (if t262 = x112_3 then ((impl_within.f ((rd_T94 l0_2 x112_3).f1) x5_3 a0_0).bind fun t263 => (if t263 = true then (impl_StateOk.l1 k3 ((rd_T94 l0_2 x112_3).f1) l0_2 (l0_2.length : Int) (wrap64 (x112_3 + 1)) a0_0 l0_1 l0_2 a0_3 l0_4 l0_5) else (some false))) else (some false)) = some r := H
           have A111 := Aside0.mk A1110
           clear A1110
           by_cases c112 : t262 = x112_3
           ·rw [if_pos c112] at H
            have c112b0 : (t262 == x112_3) = true := beq_iff_eq.mpr c112
            have c112b1 : (t262 != x112_3) = false := bne_eq_false_iff_eq.mpr c112
            clear c112
            replace H := Option.bind_eq_some_iff.mp H
            obtain ⟨t263, A1130, H⟩ := H
            replace H : (if t263 = true then (impl_StateOk.l1 k3 ((rd_T94 l0_2 x112_3).f1) l0_2 (l0_2.length : Int) (wrap64 (x112_3 + 1)) a0_0 l0_1 l0_2 a0_3 l0_4 l0_5) else (some false)) = some r := H
            have A113 := Aside0.mk A1130
            clear A1130
            by_cases c114 : t263 = true
            ·subst c114
             have H1 : (impl_StateOk.l1 k3 ((rd_T94 l0_2 x112_3).f1) l0_2 (l0_2.length : Int) (wrap64 (x112_3 + 1)) a0_0 l0_1 l0_2 a0_3 l0_4 l0_5) = some r := by rw [if_pos rfl] at H; exact H
             clear H
             have H := H1
             clear H1
             as_aux_lemma =>
              have H' := Aside0.mk H
              clear H
              have p257 : 0 ≤ (x112_3 : Int) := od
              have q257 : x112_3 < (l0_2.length : Int) := od
              obtain ⟨ad257, A257_0, c257_0, e257, hx257_0, hx257_1, hl257_0, hi257_0⟩ := at_T94 HR0_2.out x112_3 p257 q257
              cases e257
              replace hx257_0 := hxb HB hx257_0
              replace hx257_1 := hxb HB hx257_1
              have HR257_0 := Aside0.mk hi257_0
              have HC257_0 := Aside0.mk hl257_0
              clear hi257_0 hl257_0
              replace p257 := eq_true p257
              replace q257 := eq_true q257
              go_wp2_with (first | ((with_reducible refine gate_dst (N := 7) rfl ?_); (try (refine gate_guard (by rfl) ?_; dsimp only)); refine bx_ 7 #[.slice none 0 0, .int .i64 0] 94 (h := ?_); intro gb258 hg w115 hbox hb; have BK258 := Aside0.mk (hbox); have GW258 := Aside0.mk ((by rw [hg]; exact (below_size bel) : w.heap.size ≤ gb258)); have GE258 := GW258; have NB244_258 := Aside0.mk ((by rw [hg]; exact Nat.ne_of_lt (blt BK244) : gb244 ≠ gb258)); have NB258_244 := Aside0.mk NB244_258.out.symm; replace BK244 := Aside0.mk (blb BK244 hb); replace HB := bst hb; clear hb hbox hg; have hnb116 := NB258_244.out; have hnc116 := NB244_258.out; obtain ⟨C117_0, C117_1, -⟩ := cells_2 BK258.out trivial; obtain ⟨F117_0, F117_1, -⟩ := frz_2 BK258.out; obtain ⟨C118_0, C118_1, C118_2, C118_3, C118_4, C118_5, -⟩ := cells_6 BK244.out trivial; obtain ⟨F118_0, F118_1, F118_2, F118_3, F118_4, F118_5, -⟩ := frz_6 BK244.out) | ((with_reducible refine gate_callee (f := 85) rfl ?_); refine gl_ (some 121) Try.func85 #[.agg #[.int .i64 a0_0, .slice A0_1 l0_1.length c0_1, .slice (some ad257) l0_2.length c0_2, .int .i64 a0_3, .slice A0_4 l0_4.length c0_4, .slice A0_5 l0_5.length c0_5], .slice A257_0 ((rd_T94 l0_2 x112_3).f0).length c257_0] (h := ?_); (with_reducible refine (impl_State_row.calls k3 a0_0 _ _ l0_1 _ _ l0_2 a0_3 _ _ l0_4 _ _ l0_5 _ _ ((rd_T94 l0_2 x112_3).f0) t259 false _ ?side1 ?side2 ?side3 ?side4 ?side5 ?side6 ?side7 ?side8 ?side9 ?side10 A102.out).mono ?_); (case side1 => exact Kd.C_below HR0_1.out bel); (case side2 => exact HC0_1.out); (case side3 => exact Kd.C_below HR0_2.out bel); (case side4 => exact HC0_2.out); (case side5 => exact Kd.C_below HR0_4.out bel); (case side6 => exact HC0_4.out); (case side7 => exact Kd.C_below HR0_5.out bel); (case side8 => exact HC0_5.out); (case side9 => exact Kd.C_below HR257_0.out bel); (case side10 => exact HC257_0.out); rintro e w119 ⟨rfl, hb⟩; refine ⟨_, rfl, ?_⟩; replace BK244 := Aside0.mk (blk_below (g := gb244) (o := .cells #[.int .i64 a0_0, .slice A0_1 l0_1.length c0_1, .slice (some ad257) l0_2.length c0_2, .int .i64 a0_3, .slice A0_4 l0_4.length c0_4, .slice A0_5 l0_5.length c0_5] 35 (0, 0)) (by (with_reducible repeat (first | refine blk_drewN ?_ _ | refine blk_drew ?_ | refine blk_alloc ?_ _)); refine blk_far ?_ NB244_258.out _; (with_reducible repeat (first | refine blk_drewN ?_ _ | refine blk_drew ?_ | refine blk_alloc ?_ _)); refine blk_far ?_ NB244_258.out _; (with_reducible repeat (first | refine blk_drewN ?_ _ | refine blk_drew ?_ | refine blk_alloc ?_ _)); exact BK244.out) hb); replace BK258 := Aside0.mk (blk_below (g := gb258) (o := .cells #[.slice A257_0 ((rd_T94 l0_2 x112_3).f0).length c257_0, .int .i64 ((rd_T94 l0_2 x112_3).f1)] 94 (0, 0)) (by (with_reducible repeat (first | refine blk_drewN ?_ _ | refine blk_drew ?_ | refine blk_alloc ?_ _)); refine blk_put (cs := #[.slice A257_0 ((rd_T94 l0_2 x112_3).f0).length c257_0, .int .i64 0]) ?_ 1 _ rfl; (with_reducible repeat (first | refine blk_drewN ?_ _ | refine blk_drew ?_ | refine blk_alloc ?_ _)); refine blk_put (cs := #[.slice none 0 0, .int .i64 0]) ?_ 0 _ rfl; (with_reducible repeat (first | refine blk_drewN ?_ _ | refine blk_drew ?_ | refine blk_alloc ?_ _)); exact BK258.out) hb); replace HB := bst hb; (try clear hb); (try clear hb2); (try clear hk); (try clear hi); have C120_0 : w119.cell? ⟨gb258, 0, none⟩ = some (.slice A257_0 ((rd_T94 l0_2 x112_3).f0).length c257_0) := (blk_cell BK258.out 0).trans rfl; have C120_1 : w119.cell? ⟨gb258, 1, none⟩ = some (.int .i64 ((rd_T94 l0_2 x112_3).f1)) := (blk_cell BK258.out 1).trans rfl; obtain ⟨F120_0, F120_1, -⟩ := frz_2 BK258.out) | (go_at_call 47; (with_reducible refine (impl_KeyOk.calls k3 _ _ ((rd_T94 l0_2 x112_3).f0) true _ ?side1 ?side2 A109.out).mono ?_); (case side1 => exact kcb); (case side2 => exact HC257_0.out); rintro e w' ⟨rfl, ⟨nd, rfl⟩⟩; obtain ⟨C121_0, C121_1, C121_2, C121_3, C121_4, C121_5, -⟩ := cells_6 BK244.out trivial; obtain ⟨F121_0, F121_1, F121_2, F121_3, F121_4, F121_5, -⟩ := frz_6 BK244.out) | (go_at_call 86; (with_reducible refine (impl_State_tomb.calls a0_0 _ _ l0_1 _ _ l0_2 a0_3 _ _ l0_4 _ _ l0_5 _ _ ((rd_T94 l0_2 x112_3).f0) t262 _ ?side1 ?side2 ?side3 ?side4 ?side5 ?side6 ?side7 ?side8 ?side9 ?side10 A111.out).mono ?_); (case side1 => exact kcb); (case side2 => exact HC0_1.out); (case side3 => exact kcb); (case side4 => exact HC0_2.out); (case side5 => exact kcb); (case side6 => exact HC0_4.out); (case side7 => exact kcb); (case side8 => exact HC0_5.out); (case side9 => exact kcb); (case side10 => exact HC257_0.out); rintro e w122 ⟨rfl, hb⟩; replace BK244 := Aside0.mk (blb BK244 hb); replace BK258 := Aside0.mk (blb BK258 hb); replace HB := bst hb; (try clear hb); (try clear hb2); (try clear hk); (try clear hi); have C123_0 : w122.cell? ⟨gb258, 0, none⟩ = some (.slice A257_0 ((rd_T94 l0_2 x112_3).f0).length c257_0) := (blk_cell BK258.out 0).trans rfl; have C123_1 : w122.cell? ⟨gb258, 1, none⟩ = some (.int .i64 ((rd_T94 l0_2 x112_3).f1)) := (blk_cell BK258.out 1).trans rfl; obtain ⟨F123_0, F123_1, -⟩ := frz_2 BK258.out; obtain ⟨C124_0, C124_1, C124_2, C124_3, C124_4, C124_5, -⟩ := cells_6 BK244.out trivial; obtain ⟨F124_0, F124_1, F124_2, F124_3, F124_4, F124_5, -⟩ := frz_6 BK244.out) | (go_at_call 81; (with_reducible refine (impl_within.calls ((rd_T94 l0_2 x112_3).f1) x5_3 a0_0 true _ A113.out).mono ?_); rintro e w' ⟨rfl, ⟨nd, rfl⟩⟩))
              go_roundg k3
              case measure => have := HJ1.out; have := HK2.out; have := HK3.out; omega
              case rel => exact ⟨((rd_T94 l0_2 x112_3).f1), (wrap64 (x112_3 + 1)), rs_, rs_, H', ⟨by have := HJ1.out; have := HK2.out; have := HK3.out; omega⟩, ⟨bkp BK244⟩, ⟨bel⟩⟩
            replace c114 := Bool.eq_false_iff.mpr c114
            subst c114
            have H1 : (some false) = some r := by rw [if_neg (show ¬ (false = true) by decide)] at H; exact H
            clear H
            have H := H1
            clear H1
            as_aux_lemma =>
             obtain rfl := Option.some.inj H
             have p257 : 0 ≤ (x112_3 : Int) := od
             have q257 : x112_3 < (l0_2.length : Int) := od
             obtain ⟨ad257, A257_0, c257_0, e257, hx257_0, hx257_1, hl257_0, hi257_0⟩ := at_T94 HR0_2.out x112_3 p257 q257
             cases e257
             replace hx257_0 := hxb HB hx257_0
             replace hx257_1 := hxb HB hx257_1
             have HR257_0 := Aside0.mk hi257_0
             have HC257_0 := Aside0.mk hl257_0
             clear hi257_0 hl257_0
             replace p257 := eq_true p257
             replace q257 := eq_true q257
             go_wp2_with (first | ((with_reducible refine gate_dst (N := 7) rfl ?_); (try (refine gate_guard (by rfl) ?_; dsimp only)); refine bx_ 7 #[.slice none 0 0, .int .i64 0] 94 (h := ?_); intro gb258 hg w125 hbox hb; have BK258 := Aside0.mk (hbox); have GW258 := Aside0.mk ((by rw [hg]; exact (below_size bel) : w.heap.size ≤ gb258)); have GE258 := GW258; have NB244_258 := Aside0.mk ((by rw [hg]; exact Nat.ne_of_lt (blt BK244) : gb244 ≠ gb258)); have NB258_244 := Aside0.mk NB244_258.out.symm; replace BK244 := Aside0.mk (blb BK244 hb); replace HB := bst hb; clear hb hbox hg; have hnb126 := NB258_244.out; have hnc126 := NB244_258.out; obtain ⟨C127_0, C127_1, -⟩ := cells_2 BK258.out trivial; obtain ⟨F127_0, F127_1, -⟩ := frz_2 BK258.out; obtain ⟨C128_0, C128_1, C128_2, C128_3, C128_4, C128_5, -⟩ := cells_6 BK244.out trivial; obtain ⟨F128_0, F128_1, F128_2, F128_3, F128_4, F128_5, -⟩ := frz_6 BK244.out) | ((with_reducible refine gate_callee (f := 85) rfl ?_); refine gl_ (some 121) Try.func85 #[.agg #[.int .i64 a0_0, .slice A0_1 l0_1.length c0_1, .slice (some ad257) l0_2.length c0_2, .int .i64 a0_3, .slice A0_4 l0_4.length c0_4, .slice A0_5 l0_5.length c0_5], .slice A257_0 ((rd_T94 l0_2 x112_3).f0).length c257_0] (h := ?_); (with_reducible refine (impl_State_row.calls k3 a0_0 _ _ l0_1 _ _ l0_2 a0_3 _ _ l0_4 _ _ l0_5 _ _ ((rd_T94 l0_2 x112_3).f0) t259 false _ ?side1 ?side2 ?side3 ?side4 ?side5 ?side6 ?side7 ?side8 ?side9 ?side10 A102.out).mono ?_); (case side1 => exact Kd.C_below HR0_1.out bel); (case side2 => exact HC0_1.out); (case side3 => exact Kd.C_below HR0_2.out bel); (case side4 => exact HC0_2.out); (case side5 => exact Kd.C_below HR0_4.out bel); (case side6 => exact HC0_4.out); (case side7 => exact Kd.C_below HR0_5.out bel); (case side8 => exact HC0_5.out); (case side9 => exact Kd.C_below HR257_0.out bel); (case side10 => exact HC257_0.out); rintro e w129 ⟨rfl, hb⟩; refine ⟨_, rfl, ?_⟩; replace BK244 := Aside0.mk (blk_below (g := gb244) (o := .cells #[.int .i64 a0_0, .slice A0_1 l0_1.length c0_1, .slice (some ad257) l0_2.length c0_2, .int .i64 a0_3, .slice A0_4 l0_4.length c0_4, .slice A0_5 l0_5.length c0_5] 35 (0, 0)) (by (with_reducible repeat (first | refine blk_drewN ?_ _ | refine blk_drew ?_ | refine blk_alloc ?_ _)); refine blk_far ?_ NB244_258.out _; (with_reducible repeat (first | refine blk_drewN ?_ _ | refine blk_drew ?_ | refine blk_alloc ?_ _)); refine blk_far ?_ NB244_258.out _; (with_reducible repeat (first | refine blk_drewN ?_ _ | refine blk_drew ?_ | refine blk_alloc ?_ _)); exact BK244.out) hb); replace BK258 := Aside0.mk (blk_below (g := gb258) (o := .cells #[.slice A257_0 ((rd_T94 l0_2 x112_3).f0).length c257_0, .int .i64 ((rd_T94 l0_2 x112_3).f1)] 94 (0, 0)) (by (with_reducible repeat (first | refine blk_drewN ?_ _ | refine blk_drew ?_ | refine blk_alloc ?_ _)); refine blk_put (cs := #[.slice A257_0 ((rd_T94 l0_2 x112_3).f0).length c257_0, .int .i64 0]) ?_ 1 _ rfl; (with_reducible repeat (first | refine blk_drewN ?_ _ | refine blk_drew ?_ | refine blk_alloc ?_ _)); refine blk_put (cs := #[.slice none 0 0, .int .i64 0]) ?_ 0 _ rfl; (with_reducible repeat (first | refine blk_drewN ?_ _ | refine blk_drew ?_ | refine blk_alloc ?_ _)); exact BK258.out) hb); replace HB := bst hb; (try clear hb); (try clear hb2); (try clear hk); (try clear hi); have C130_0 : w129.cell? ⟨gb258, 0, none⟩ = some (.slice A257_0 ((rd_T94 l0_2 x112_3).f0).length c257_0) := (blk_cell BK258.out 0).trans rfl; have C130_1 : w129.cell? ⟨gb258, 1, none⟩ = some (.int .i64 ((rd_T94 l0_2 x112_3).f1)) := (blk_cell BK258.out 1).trans rfl; obtain ⟨F130_0, F130_1, -⟩ := frz_2 BK258.out) | (go_at_call 47; (with_reducible refine (impl_KeyOk.calls k3 _ _ ((rd_T94 l0_2 x112_3).f0) true _ ?side1 ?side2 A109.out).mono ?_); (case side1 => exact kcb); (case side2 => exact HC257_0.out); rintro e w' ⟨rfl, ⟨nd, rfl⟩⟩; obtain ⟨C131_0, C131_1, C131_2, C131_3, C131_4, C131_5, -⟩ := cells_6 BK244.out trivial; obtain ⟨F131_0, F131_1, F131_2, F131_3, F131_4, F131_5, -⟩ := frz_6 BK244.out) | (go_at_call 86; (with_reducible refine (impl_State_tomb.calls a0_0 _ _ l0_1 _ _ l0_2 a0_3 _ _ l0_4 _ _ l0_5 _ _ ((rd_T94 l0_2 x112_3).f0) t262 _ ?side1 ?side2 ?side3 ?side4 ?side5 ?side6 ?side7 ?side8 ?side9 ?side10 A111.out).mono ?_); (case side1 => exact kcb); (case side2 => exact HC0_1.out); (case side3 => exact kcb); (case side4 => exact HC0_2.out); (case side5 => exact kcb); (case side6 => exact HC0_4.out); (case side7 => exact kcb); (case side8 => exact HC0_5.out); (case side9 => exact kcb); (case side10 => exact HC257_0.out); rintro e w132 ⟨rfl, hb⟩; replace BK244 := Aside0.mk (blb BK244 hb); replace BK258 := Aside0.mk (blb BK258 hb); replace HB := bst hb; (try clear hb); (try clear hb2); (try clear hk); (try clear hi); have C133_0 : w132.cell? ⟨gb258, 0, none⟩ = some (.slice A257_0 ((rd_T94 l0_2 x112_3).f0).length c257_0) := (blk_cell BK258.out 0).trans rfl; have C133_1 : w132.cell? ⟨gb258, 1, none⟩ = some (.int .i64 ((rd_T94 l0_2 x112_3).f1)) := (blk_cell BK258.out 1).trans rfl; obtain ⟨F133_0, F133_1, -⟩ := frz_2 BK258.out; obtain ⟨C134_0, C134_1, C134_2, C134_3, C134_4, C134_5, -⟩ := cells_6 BK244.out trivial; obtain ⟨F134_0, F134_1, F134_2, F134_3, F134_4, F134_5, -⟩ := frz_6 BK244.out) | (go_at_call 81; (with_reducible refine (impl_within.calls ((rd_T94 l0_2 x112_3).f1) x5_3 a0_0 false _ A113.out).mono ?_); rintro e w' ⟨rfl, ⟨nd, rfl⟩⟩))
             go_ret
             exact ⟨by first | rfl | (simp [errW_none, errW_some] <;> rfl) | (simp only [← hji97]; first | rfl | (simp [errW_none, errW_some] <;> rfl)) | (simp [*, errW_none, errW_some] <;> rfl), bel⟩
           rw [if_neg c112] at H
           have c112b0 : (t262 == x112_3) = false := beq_eq_false_iff_ne.mpr c112
           have c112b1 : (t262 != x112_3) = true := bne_iff_ne.mpr c112
           as_aux_lemma =>
            obtain rfl := Option.some.inj H
            have p257 : 0 ≤ (x112_3 : Int) := od
            have q257 : x112_3 < (l0_2.length : Int) := od
            obtain ⟨ad257, A257_0, c257_0, e257, hx257_0, hx257_1, hl257_0, hi257_0⟩ := at_T94 HR0_2.out x112_3 p257 q257
            cases e257
            replace hx257_0 := hxb HB hx257_0
            replace hx257_1 := hxb HB hx257_1
            have HR257_0 := Aside0.mk hi257_0
            have HC257_0 := Aside0.mk hl257_0
            clear hi257_0 hl257_0
            replace p257 := eq_true p257
            replace q257 := eq_true q257
            go_wp2_with (first | ((with_reducible refine gate_dst (N := 7) rfl ?_); (try (refine gate_guard (by rfl) ?_; dsimp only)); refine bx_ 7 #[.slice none 0 0, .int .i64 0] 94 (h := ?_); intro gb258 hg w135 hbox hb; have BK258 := Aside0.mk (hbox); have GW258 := Aside0.mk ((by rw [hg]; exact (below_size bel) : w.heap.size ≤ gb258)); have GE258 := GW258; have NB244_258 := Aside0.mk ((by rw [hg]; exact Nat.ne_of_lt (blt BK244) : gb244 ≠ gb258)); have NB258_244 := Aside0.mk NB244_258.out.symm; replace BK244 := Aside0.mk (blb BK244 hb); replace HB := bst hb; clear hb hbox hg; have hnb136 := NB258_244.out; have hnc136 := NB244_258.out; obtain ⟨C137_0, C137_1, -⟩ := cells_2 BK258.out trivial; obtain ⟨F137_0, F137_1, -⟩ := frz_2 BK258.out; obtain ⟨C138_0, C138_1, C138_2, C138_3, C138_4, C138_5, -⟩ := cells_6 BK244.out trivial; obtain ⟨F138_0, F138_1, F138_2, F138_3, F138_4, F138_5, -⟩ := frz_6 BK244.out) | ((with_reducible refine gate_callee (f := 85) rfl ?_); refine gl_ (some 121) Try.func85 #[.agg #[.int .i64 a0_0, .slice A0_1 l0_1.length c0_1, .slice (some ad257) l0_2.length c0_2, .int .i64 a0_3, .slice A0_4 l0_4.length c0_4, .slice A0_5 l0_5.length c0_5], .slice A257_0 ((rd_T94 l0_2 x112_3).f0).length c257_0] (h := ?_); (with_reducible refine (impl_State_row.calls k3 a0_0 _ _ l0_1 _ _ l0_2 a0_3 _ _ l0_4 _ _ l0_5 _ _ ((rd_T94 l0_2 x112_3).f0) t259 false _ ?side1 ?side2 ?side3 ?side4 ?side5 ?side6 ?side7 ?side8 ?side9 ?side10 A102.out).mono ?_); (case side1 => exact Kd.C_below HR0_1.out bel); (case side2 => exact HC0_1.out); (case side3 => exact Kd.C_below HR0_2.out bel); (case side4 => exact HC0_2.out); (case side5 => exact Kd.C_below HR0_4.out bel); (case side6 => exact HC0_4.out); (case side7 => exact Kd.C_below HR0_5.out bel); (case side8 => exact HC0_5.out); (case side9 => exact Kd.C_below HR257_0.out bel); (case side10 => exact HC257_0.out); rintro e w139 ⟨rfl, hb⟩; refine ⟨_, rfl, ?_⟩; replace BK244 := Aside0.mk (blk_below (g := gb244) (o := .cells #[.int .i64 a0_0, .slice A0_1 l0_1.length c0_1, .slice (some ad257) l0_2.length c0_2, .int .i64 a0_3, .slice A0_4 l0_4.length c0_4, .slice A0_5 l0_5.length c0_5] 35 (0, 0)) (by (with_reducible repeat (first | refine blk_drewN ?_ _ | refine blk_drew ?_ | refine blk_alloc ?_ _)); refine blk_far ?_ NB244_258.out _; (with_reducible repeat (first | refine blk_drewN ?_ _ | refine blk_drew ?_ | refine blk_alloc ?_ _)); refine blk_far ?_ NB244_258.out _; (with_reducible repeat (first | refine blk_drewN ?_ _ | refine blk_drew ?_ | refine blk_alloc ?_ _)); exact BK244.out) hb); replace BK258 := Aside0.mk (blk_below (g := gb258) (o := .cells #[.slice A257_0 ((rd_T94 l0_2 x112_3).f0).length c257_0, .int .i64 ((rd_T94 l0_2 x112_3).f1)] 94 (0, 0)) (by (with_reducible repeat (first | refine blk_drewN ?_ _ | refine blk_drew ?_ | refine blk_alloc ?_ _)); refine blk_put (cs := #[.slice A257_0 ((rd_T94 l0_2 x112_3).f0).length c257_0, .int .i64 0]) ?_ 1 _ rfl; (with_reducible repeat (first | refine blk_drewN ?_ _ | refine blk_drew ?_ | refine blk_alloc ?_ _)); refine blk_put (cs := #[.slice none 0 0, .int .i64 0]) ?_ 0 _ rfl; (with_reducible repeat (first | refine blk_drewN ?_ _ | refine blk_drew ?_ | refine blk_alloc ?_ _)); exact BK258.out) hb); replace HB := bst hb; (try clear hb); (try clear hb2); (try clear hk); (try clear hi); have C140_0 : w139.cell? ⟨gb258, 0, none⟩ = some (.slice A257_0 ((rd_T94 l0_2 x112_3).f0).length c257_0) := (blk_cell BK258.out 0).trans rfl; have C140_1 : w139.cell? ⟨gb258, 1, none⟩ = some (.int .i64 ((rd_T94 l0_2 x112_3).f1)) := (blk_cell BK258.out 1).trans rfl; obtain ⟨F140_0, F140_1, -⟩ := frz_2 BK258.out) | (go_at_call 47; (with_reducible refine (impl_KeyOk.calls k3 _ _ ((rd_T94 l0_2 x112_3).f0) true _ ?side1 ?side2 A109.out).mono ?_); (case side1 => exact kcb); (case side2 => exact HC257_0.out); rintro e w' ⟨rfl, ⟨nd, rfl⟩⟩; obtain ⟨C141_0, C141_1, C141_2, C141_3, C141_4, C141_5, -⟩ := cells_6 BK244.out trivial; obtain ⟨F141_0, F141_1, F141_2, F141_3, F141_4, F141_5, -⟩ := frz_6 BK244.out) | (go_at_call 86; (with_reducible refine (impl_State_tomb.calls a0_0 _ _ l0_1 _ _ l0_2 a0_3 _ _ l0_4 _ _ l0_5 _ _ ((rd_T94 l0_2 x112_3).f0) t262 _ ?side1 ?side2 ?side3 ?side4 ?side5 ?side6 ?side7 ?side8 ?side9 ?side10 A111.out).mono ?_); (case side1 => exact kcb); (case side2 => exact HC0_1.out); (case side3 => exact kcb); (case side4 => exact HC0_2.out); (case side5 => exact kcb); (case side6 => exact HC0_4.out); (case side7 => exact kcb); (case side8 => exact HC0_5.out); (case side9 => exact kcb); (case side10 => exact HC257_0.out); rintro e w142 ⟨rfl, hb⟩; replace BK244 := Aside0.mk (blb BK244 hb); replace BK258 := Aside0.mk (blb BK258 hb); replace HB := bst hb; (try clear hb); (try clear hb2); (try clear hk); (try clear hi)))
            go_ret
            exact ⟨by first | rfl | (simp [errW_none, errW_some] <;> rfl) | (simp only [← hji97]; first | rfl | (simp [errW_none, errW_some] <;> rfl)) | (simp [*, errW_none, errW_some] <;> rfl), bel⟩
          replace c110 := Bool.eq_false_iff.mpr c110
          subst c110
          have H1 : (some false) = some r := by rw [if_neg (show ¬ (false = true) by decide)] at H; exact H
          clear H
          have H := H1
          clear H1
          as_aux_lemma =>
           obtain rfl := Option.some.inj H
           have p257 : 0 ≤ (x112_3 : Int) := od
           have q257 : x112_3 < (l0_2.length : Int) := od
           obtain ⟨ad257, A257_0, c257_0, e257, hx257_0, hx257_1, hl257_0, hi257_0⟩ := at_T94 HR0_2.out x112_3 p257 q257
           cases e257
           replace hx257_0 := hxb HB hx257_0
           replace hx257_1 := hxb HB hx257_1
           have HR257_0 := Aside0.mk hi257_0
           have HC257_0 := Aside0.mk hl257_0
           clear hi257_0 hl257_0
           replace p257 := eq_true p257
           replace q257 := eq_true q257
           go_wp2_with (first | ((with_reducible refine gate_dst (N := 7) rfl ?_); (try (refine gate_guard (by rfl) ?_; dsimp only)); refine bx_ 7 #[.slice none 0 0, .int .i64 0] 94 (h := ?_); intro gb258 hg w143 hbox hb; have BK258 := Aside0.mk (hbox); have GW258 := Aside0.mk ((by rw [hg]; exact (below_size bel) : w.heap.size ≤ gb258)); have GE258 := GW258; have NB244_258 := Aside0.mk ((by rw [hg]; exact Nat.ne_of_lt (blt BK244) : gb244 ≠ gb258)); have NB258_244 := Aside0.mk NB244_258.out.symm; replace BK244 := Aside0.mk (blb BK244 hb); replace HB := bst hb; clear hb hbox hg; have hnb144 := NB258_244.out; have hnc144 := NB244_258.out; obtain ⟨C145_0, C145_1, -⟩ := cells_2 BK258.out trivial; obtain ⟨F145_0, F145_1, -⟩ := frz_2 BK258.out; obtain ⟨C146_0, C146_1, C146_2, C146_3, C146_4, C146_5, -⟩ := cells_6 BK244.out trivial; obtain ⟨F146_0, F146_1, F146_2, F146_3, F146_4, F146_5, -⟩ := frz_6 BK244.out) | ((with_reducible refine gate_callee (f := 85) rfl ?_); refine gl_ (some 121) Try.func85 #[.agg #[.int .i64 a0_0, .slice A0_1 l0_1.length c0_1, .slice (some ad257) l0_2.length c0_2, .int .i64 a0_3, .slice A0_4 l0_4.length c0_4, .slice A0_5 l0_5.length c0_5], .slice A257_0 ((rd_T94 l0_2 x112_3).f0).length c257_0] (h := ?_); (with_reducible refine (impl_State_row.calls k3 a0_0 _ _ l0_1 _ _ l0_2 a0_3 _ _ l0_4 _ _ l0_5 _ _ ((rd_T94 l0_2 x112_3).f0) t259 false _ ?side1 ?side2 ?side3 ?side4 ?side5 ?side6 ?side7 ?side8 ?side9 ?side10 A102.out).mono ?_); (case side1 => exact Kd.C_below HR0_1.out bel); (case side2 => exact HC0_1.out); (case side3 => exact Kd.C_below HR0_2.out bel); (case side4 => exact HC0_2.out); (case side5 => exact Kd.C_below HR0_4.out bel); (case side6 => exact HC0_4.out); (case side7 => exact Kd.C_below HR0_5.out bel); (case side8 => exact HC0_5.out); (case side9 => exact Kd.C_below HR257_0.out bel); (case side10 => exact HC257_0.out); rintro e w147 ⟨rfl, hb⟩; refine ⟨_, rfl, ?_⟩; replace BK244 := Aside0.mk (blk_below (g := gb244) (o := .cells #[.int .i64 a0_0, .slice A0_1 l0_1.length c0_1, .slice (some ad257) l0_2.length c0_2, .int .i64 a0_3, .slice A0_4 l0_4.length c0_4, .slice A0_5 l0_5.length c0_5] 35 (0, 0)) (by (with_reducible repeat (first | refine blk_drewN ?_ _ | refine blk_drew ?_ | refine blk_alloc ?_ _)); refine blk_far ?_ NB244_258.out _; (with_reducible repeat (first | refine blk_drewN ?_ _ | refine blk_drew ?_ | refine blk_alloc ?_ _)); refine blk_far ?_ NB244_258.out _; (with_reducible repeat (first | refine blk_drewN ?_ _ | refine blk_drew ?_ | refine blk_alloc ?_ _)); exact BK244.out) hb); replace BK258 := Aside0.mk (blk_below (g := gb258) (o := .cells #[.slice A257_0 ((rd_T94 l0_2 x112_3).f0).length c257_0, .int .i64 ((rd_T94 l0_2 x112_3).f1)] 94 (0, 0)) (by (with_reducible repeat (first | refine blk_drewN ?_ _ | refine blk_drew ?_ | refine blk_alloc ?_ _)); refine blk_put (cs := #[.slice A257_0 ((rd_T94 l0_2 x112_3).f0).length c257_0, .int .i64 0]) ?_ 1 _ rfl; (with_reducible repeat (first | refine blk_drewN ?_ _ | refine blk_drew ?_ | refine blk_alloc ?_ _)); refine blk_put (cs := #[.slice none 0 0, .int .i64 0]) ?_ 0 _ rfl; (with_reducible repeat (first | refine blk_drewN ?_ _ | refine blk_drew ?_ | refine blk_alloc ?_ _)); exact BK258.out) hb); replace HB := bst hb; (try clear hb); (try clear hb2); (try clear hk); (try clear hi); have C148_0 : w147.cell? ⟨gb258, 0, none⟩ = some (.slice A257_0 ((rd_T94 l0_2 x112_3).f0).length c257_0) := (blk_cell BK258.out 0).trans rfl; have C148_1 : w147.cell? ⟨gb258, 1, none⟩ = some (.int .i64 ((rd_T94 l0_2 x112_3).f1)) := (blk_cell BK258.out 1).trans rfl; obtain ⟨F148_0, F148_1, -⟩ := frz_2 BK258.out) | (go_at_call 47; (with_reducible refine (impl_KeyOk.calls k3 _ _ ((rd_T94 l0_2 x112_3).f0) false _ ?side1 ?side2 A109.out).mono ?_); (case side1 => exact kcb); (case side2 => exact HC257_0.out); rintro e w' ⟨rfl, ⟨nd, rfl⟩⟩))
           go_ret
           exact ⟨by first | rfl | (simp [errW_none, errW_some] <;> rfl) | (simp only [← hji97]; first | rfl | (simp [errW_none, errW_some] <;> rfl)) | (simp [*, errW_none, errW_some] <;> rfl), bel⟩
         rw [if_neg c101] at H
         exact absurd H (by simp)
        rw [if_neg c100] at H
        exact absurd H (by simp)
       rw [if_neg c99] at H
       have c99b0 : decide (x112_3 < (l0_2.length : Int)) = false := decide_eq_false c99
       clear c99
       have H' := Aside0.mk H
       clear H
       obtain ⟨C149_0, C149_1, C149_2, C149_3, C149_4, C149_5, -⟩ := cells_6 BK244.out trivial
       obtain ⟨F149_0, F149_1, F149_2, F149_3, F149_4, F149_5, -⟩ := frz_6 BK244.out
       go_wp2
       go_loopg [154] k3 (fun kq v154 w' => ∃ (x154_4 : Int), v154 = .int .i64 x154_4 ∧ Aside0 (impl_StateOk.l2 kq l0_4 (l0_4.length : Int) x154_4 a0_0 l0_1 l0_2 a0_3 l0_4 l0_5 = some r) ∧ Aside0 (kq ≤ k3) ∧ Aside0 (w'.heap[gb244]? = some (.cells #[.int .i64 a0_0, (.slice A0_1 l0_1.length c0_1), (.slice A0_2 l0_2.length c0_2), .int .i64 a0_3, (.slice A0_4 l0_4.length c0_4), (.slice A0_5 l0_5.length c0_5)] 35 (0, 0))) ∧ Aside0 (Below w.heap.size w w'))
       case atStart => exact ⟨(0), rs_, H', ⟨Nat.le_refl _⟩, ⟨bkp BK244⟩, ⟨bel⟩⟩
       case round => as_aux_lemma =>
        clear H'
        try clear c1; try clear c2; try clear p2; try clear q2; try clear hx2; try clear c4; try clear p6; try clear c8; try clear c9; try clear c10; try clear c11; try clear c12; try clear c13; try clear c14; try clear c19; try clear c19b0; try clear c20; try clear c21; try clear c23; try clear c24; try clear p24; try clear q24; try clear hx24; try clear c25; try clear p25; try clear q25; try clear hx25; try clear c47; try clear p64; try clear c82; try clear c85; try clear c93; try clear c99; try clear c99b0; try clear c100; try clear c100b0; try clear c101; try clear c101b0; try clear c103; try clear c105; try clear c110; try clear c112; try clear c112b0; try clear c112b1; try clear c114; try clear c116; try clear c126; try clear c136; try clear c144; try clear C106_0 C106_1; try clear C107_0 C107_1 C107_2 C107_3 C107_4 C107_5; try clear C117_0 C117_1; try clear C118_0 C118_1 C118_2 C118_3 C118_4 C118_5; try clear C120_0 C120_1; try clear C121_0 C121_1 C121_2 C121_3 C121_4 C121_5; try clear C123_0 C123_1; try clear C124_0 C124_1 C124_2 C124_3 C124_4 C124_5; try clear C127_0 C127_1; try clear C128_0 C128_1 C128_2 C128_3 C128_4 C128_5; try clear C130_0 C130_1; try clear C131_0 C131_1 C131_2 C131_3 C131_4 C131_5; try clear C133_0 C133_1; try clear C134_0 C134_1 C134_2 C134_3 C134_4 C134_5; try clear C137_0 C137_1; try clear C138_0 C138_1 C138_2 C138_3 C138_4 C138_5; try clear C140_0 C140_1; try clear C141_0 C141_1 C141_2 C141_3 C141_4 C141_5; try clear C145_0 C145_1; try clear C146_0 C146_1 C146_2 C146_3 C146_4 C146_5; try clear C148_0 C148_1; try clear C149_0 C149_1 C149_2 C149_3 C149_4 C149_5; try clear C94_0 C94_1 C94_2 C94_3; try clear C98_0 C98_1 C98_2 C98_3 C98_4 C98_5; try clear F106_0 F106_1; try clear F107_0 F107_1 F107_2 F107_3 F107_4 F107_5; try clear F117_0 F117_1; try clear F118_0 F118_1 F118_2 F118_3 F118_4 F118_5; try clear F120_0 F120_1; try clear F121_0 F121_1 F121_2 F121_3 F121_4 F121_5; try clear F123_0 F123_1; try clear F124_0 F124_1 F124_2 F124_3 F124_4 F124_5; try clear F127_0 F127_1; try clear F128_0 F128_1 F128_2 F128_3 F128_4 F128_5; try clear F130_0 F130_1; try clear F131_0 F131_1 F131_2 F131_3 F131_4 F131_5; try clear F133_0 F133_1; try clear F134_0 F134_1 F134_2 F134_3 F134_4 F134_5; try clear F137_0 F137_1; try clear F138_0 F138_1 F138_2 F138_3 F138_4 F138_5; try clear F140_0 F140_1; try clear F141_0 F141_1 F141_2 F141_3 F141_4 F141_5; try clear F145_0 F145_1; try clear F146_0 F146_1 F146_2 F146_3 F146_4 F146_5; try clear F148_0 F148_1; try clear F149_0 F149_1 F149_2 F149_3 F149_4 F149_5; try clear F94_0 F94_1 F94_2 F94_3; try clear F98_0 F98_1 F98_2 F98_3 F98_4 F98_5; try clear hx247_0; try clear hx247_1; try clear hx247_2; try clear hx247_3; try clear hx257_0; try clear hx257_1; try clear p2; try clear p24; try clear p247; try clear p257; try clear q2; try clear q24; try clear q247; try clear q257
        obtain ⟨x154_4, rfl, HA, HK4, BK244, HB⟩ := hrel
        cases gk with
        | zero => exact absurd HA.out (by simp [impl_StateOk.l2])
        | succ k4 =>
         have H := HA.out
         clear HA
         simp only [impl_StateOk.l2] at H
         by_cases c150 : x154_4 < (l0_4.length : Int)
         ·rw [if_pos c150] at H
          have c150b0 : decide (x154_4 < (l0_4.length : Int)) = true := decide_eq_true c150
          clear c150
          by_cases c151 : 0 ≤ x154_4
          ·rw [if_pos c151] at H
           have c151b0 : decide (0 ≤ x154_4) = true := decide_eq_true c151
           clear c151
           by_cases c152 : x154_4 < (l0_4.length : Int)
           ·rw [if_pos c152] at H
            have c152b0 : decide (x154_4 < (l0_4.length : Int)) = true := decide_eq_true c152
            clear c152
            replace H := Option.bind_eq_some_iff.mp H
            obtain ⟨t266, A1530, H⟩ := H
            replace H : (if t266 = true then (if x154_4 > 0 then (if 0 ≤ (wrap64 (x154_4 - 1)) then (if (wrap64 (x154_4 - 1)) < (l0_4.length : Int) then (if ((rd_T109 l0_4 (wrap64 (x154_4 - 1))).f0) ≥ ((rd_T109 l0_4 x154_4).f0) then (some false) else (impl_StateOk.l2 k4 l0_4 (l0_4.length : Int) (wrap64 (x154_4 + 1)) a0_0 l0_1 l0_2 a0_3 l0_4 l0_5)) else (none)) else (none)) else (impl_StateOk.l2 k4 l0_4 (l0_4.length : Int) (wrap64 (x154_4 + 1)) a0_0 l0_1 l0_2 a0_3 l0_4 l0_5)) else (some false)) = some r := H
            have A153 := Aside0.mk A1530
            clear A1530
            have p264 : 0 ≤ (x154_4 : Int) := od
            have q264 : x154_4 < (l0_4.length : Int) := od
            obtain ⟨ad264, e264, hx264_0, hx264_1⟩ := at_T109 HR0_4.out x154_4 p264 q264
            cases e264
            replace hx264_0 := hxb HB hx264_0
            replace hx264_1 := hxb HB hx264_1
            replace p264 := eq_true p264
            replace q264 := eq_true q264
            try go_wp2_with (first | ((with_reducible refine gate_dst (N := 11) rfl ?_); (try (refine gate_guard (by rfl) ?_; dsimp only)); refine bx_ 11 #[.int .i64 0, .bool false] 109 (h := ?_); intro gb265 hg wv1 hbox hb; have BK265 := Aside0.mk (hbox); have GW265 := Aside0.mk ((by rw [hg]; exact (below_size bel) : w.heap.size ≤ gb265)); have GE265 := GW265; have NB244_265 := Aside0.mk ((by rw [hg]; exact Nat.ne_of_lt (blt BK244) : gb244 ≠ gb265)); have NB265_244 := Aside0.mk NB244_265.out.symm; replace BK244 := Aside0.mk (blb BK244 hb); replace HB := bst hb; clear hb hbox hg; have hnbv1 := NB265_244.out; have hncv2 := NB244_265.out; obtain ⟨hczv3_0, hczv3_1, -⟩ := cells_2 BK265.out trivial; obtain ⟨hfzv4_0, hfzv4_1, -⟩ := frz_2 BK265.out))
            refine put2_ BK265.out ?_
            intro wv2 hp_ hf_ hb_
            replace BK244 := Aside0.mk ((hf_ _ NB244_265.out).trans BK244.out)
            replace HB := Aside0.mk (hb_ _ HB.out GE265.out)
            replace BK265 := Aside0.mk hp_
            clear hp_ hf_ hb_
            replace BK244 := Aside0.mk (blk_drew BK244.out)
            replace BK265 := Aside0.mk (blk_drew BK265.out)
            replace HB := Aside0.mk (below_drew1 HB.out)
            refine start_ (n := 22) (S := fun w' => w'.cell? ⟨gb265, 0, none⟩ = some (.int .i64 ((rd_T109 l0_4 x154_4).f0)) ∧ w'.cell? ⟨gb265, 1, none⟩ = some (.bool ((rd_T109 l0_4 x154_4).f1)) ∧ w'.cell? ⟨gb244, 0, none⟩ = some (.int .i64 a0_0) ∧ w'.cell? ⟨gb244, 1, none⟩ = some (.slice A0_1 l0_1.length c0_1) ∧ w'.cell? ⟨gb244, 2, none⟩ = some (.slice A0_2 l0_2.length c0_2) ∧ w'.cell? ⟨gb244, 3, none⟩ = some (.int .i64 a0_3) ∧ w'.cell? ⟨gb244, 4, none⟩ = some (.slice (some ad264) l0_4.length c0_4) ∧ w'.cell? ⟨gb244, 5, none⟩ = some (.slice A0_5 l0_5.length c0_5)) (ds := []) (tf 0 22) (by kernel_rfl) rfl rfl (cells_2 BK265.out (cellz_6 BK244.out)) (fun hHeld => ?_); refine with_tabW impl_StateOk.tab21 impl_StateOk.bits21 (fun HT_ HW_ => ?_)
            generalize wv2.drew = wv3 at BK244 BK265 HB hHeld ⊢
            refine pvn_ HT_ (h := ?_)
            refine pv_ HT_ 2 (some 161) (tb 22 5) (h := ?_)
            refine tv_ HT_ HW_ hHeld 1 (some 160) (tf 3 19) (h := ?_)
            refine tvn_ HT_ HW_ hHeld (h := ?_)
            refine one_ (i := 4) (N := some 163) (tf 5 17) rfl rfl (one_of HT_.out (by kernel_rfl)) (by decide) (fun K hK => ?_)
            refine gs_ Try.func81 #[.int .i64 ((rd_T109 l0_4 x154_4).f0), .int .i64 1, .int .i64 a0_0] (h := ?_)
            with_reducible refine (impl_within.calls ((rd_T109 l0_4 x154_4).f0) 1 a0_0 t266 _ A153.out).mono ?_
            rintro e w' ⟨rfl, ⟨nd, rfl⟩⟩
            refine ⟨_, rfl, ?_⟩
            refine hK.out _ _ (cells_2 BK265.out (cellz_6 BK244.out)) (fun hHeld => ?_)
            clear hK K
            refine nrm_ (some 163) (h := ?_)
            by_cases c154 : t266 = true
            ·subst c154
             have H1 : (if x154_4 > 0 then (if 0 ≤ (wrap64 (x154_4 - 1)) then (if (wrap64 (x154_4 - 1)) < (l0_4.length : Int) then (if ((rd_T109 l0_4 (wrap64 (x154_4 - 1))).f0) ≥ ((rd_T109 l0_4 x154_4).f0) then (some false) else (impl_StateOk.l2 k4 l0_4 (l0_4.length : Int) (wrap64 (x154_4 + 1)) a0_0 l0_1 l0_2 a0_3 l0_4 l0_5)) else (none)) else (none)) else (impl_StateOk.l2 k4 l0_4 (l0_4.length : Int) (wrap64 (x154_4 + 1)) a0_0 l0_1 l0_2 a0_3 l0_4 l0_5)) = some r := by rw [if_pos rfl] at H; exact H
             clear H
             have H := H1
             clear H1
             by_cases c155 : x154_4 > 0
             ·rw [if_pos c155] at H
              have c155b0 : decide (0 < x154_4) = true := decide_eq_true c155
              clear c155
              obtain ⟨ji156, hji156⟩ : ∃ j_ : Int, (wrap64 (x154_4 - 1)) = j_ := ⟨_, rfl⟩
              replace H : (if 0 ≤ (ji156) then (if (ji156) < (l0_4.length : Int) then (if ((rd_T109 l0_4 (ji156)).f0) ≥ ((rd_T109 l0_4 x154_4).f0) then (some false) else (impl_StateOk.l2 k4 l0_4 (l0_4.length : Int) (wrap64 (x154_4 + 1)) a0_0 l0_1 l0_2 a0_3 l0_4 l0_5)) else (none)) else (none)) = some r := by first | (rw [hji156] at H; exact H) | (simp only [hji156] at H ⊢; exact H)
              (try rw [hji156] at A153)
              have hji156w : (IntKind.i64.wrap (x154_4 - 1)) = ji156 := (i64_w _).trans hji156
              by_cases c157 : 0 ≤ (ji156)
              ·rw [if_pos c157] at H
               have c157b0 : decide (0 ≤ (ji156)) = true := decide_eq_true c157
               clear c157
               by_cases c158 : (ji156) < (l0_4.length : Int)
               ·rw [if_pos c158] at H
                have c158b0 : decide ((ji156) < (l0_4.length : Int)) = true := decide_eq_true c158
                clear c158
                have p267 : 0 ≤ ((ji156) : Int) := od
                have q267 : (ji156) < (l0_4.length : Int) := od
                obtain ⟨ad267, e267, hx267_0, hx267_1⟩ := at_T109 HR0_4.out (ji156) p267 q267
                have hw267_1 := hx267_1
                have hw267_0 := hx267_0
                obtain rfl : ad264 = ad267 := (by injection e267)
                replace hx267_0 := hxb HB hx267_0
                replace hx267_1 := hxb HB hx267_1
                replace p267 := eq_true p267
                replace q267 := eq_true q267
                refine widen_ (S' := fun w' => w'.cell? ⟨gb265, 0, none⟩ = some (.int .i64 ((rd_T109 l0_4 x154_4).f0)) ∧ w'.cell? ⟨gb265, 1, none⟩ = some (.bool ((rd_T109 l0_4 x154_4).f1)) ∧ w'.cell? ⟨gb244, 0, none⟩ = some (.int .i64 a0_0) ∧ w'.cell? ⟨gb244, 1, none⟩ = some (.slice A0_1 l0_1.length c0_1) ∧ w'.cell? ⟨gb244, 2, none⟩ = some (.slice A0_2 l0_2.length c0_2) ∧ w'.cell? ⟨gb244, 3, none⟩ = some (.int .i64 a0_3) ∧ w'.cell? ⟨gb244, 4, none⟩ = some (.slice (some ad264) l0_4.length c0_4) ∧ w'.cell? ⟨gb244, 5, none⟩ = some (.slice A0_5 l0_5.length c0_5) ∧ w'.cell? (ad264.add (((ji156)).toNat * 2)) = some (.int .i64 ((rd_T109 l0_4 (ji156)).f0)) ∧ w'.cell? ⟨(ad264.add (((ji156)).toNat * 2)).block, (ad264.add (((ji156)).toNat * 2)).off + 1, none⟩ = some (.bool ((rd_T109 l0_4 (ji156)).f1))) (fun _ h_ => ⟨h_.1, h_.2.1, h_.2.2.1, h_.2.2.2.1, h_.2.2.2.2.1, h_.2.2.2.2.2.1, h_.2.2.2.2.2.2.1, h_.2.2.2.2.2.2.2.1⟩) (cells_2 BK265.out (cells_6 BK244.out ⟨(hxb HB hw267_0 :), (hxb HB hw267_1 :)⟩)) (h := ?_)
                clear hHeld; intro hHeld
                iterate 6 (refine pvn_ HT_ (h := ?_))
                refine pv_ HT_ 12 (some 171) (tb 22 6143) (h := ?_)
                refine pv_ HT_ 13 (some 172) (tb 22 14335) (h := ?_)
                refine pv_ HT_ 17 (some 176) (tb 22 145407) (h := ?_)
                refine tv_ HT_ HW_ hHeld 11 (some 170) (tb 22 147455) (h := ?_)
                refine pv_ HT_ 14 (some 173) (tb 22 163839) (h := ?_)
                refine pv_ HT_ 15 (some 174) (tb 22 196607) (h := ?_)
                refine tv_ HT_ HW_ hHeld 16 (some 175) (tf 18 4) (h := ?_)
                by_cases c159 : ((rd_T109 l0_4 (ji156)).f0) ≥ ((rd_T109 l0_4 x154_4).f0)
                ·rw [if_pos c159] at H
                 have c159b0 : decide (((rd_T109 l0_4 x154_4).f0) ≤ ((rd_T109 l0_4 (ji156)).f0)) = true := decide_eq_true c159
                 clear c159
                 obtain rfl := Option.some.inj H
                 refine tvn_ HT_ HW_ hHeld (h := ?_)
                 iterate 3 (refine pvn_ HT_ (h := ?_))
                 refine done_ (done_of HT_.out (by kernel_rfl)) ?_
                 try go_wp2
                 go_ret
                 exact ⟨by first | rfl | (simp [errW_none, errW_some] <;> rfl) | (simp only [← hji97, ← hji156]; first | rfl | (simp [errW_none, errW_some] <;> rfl)) | (simp [*, errW_none, errW_some] <;> rfl), bel⟩
                rw [if_neg c159] at H
                have c159b0 : decide (((rd_T109 l0_4 x154_4).f0) ≤ ((rd_T109 l0_4 (ji156)).f0)) = false := decide_eq_false c159
                clear c159
                have H' := Aside0.mk H
                clear H
                refine tvn_ HT_ HW_ hHeld (h := ?_)
                iterate 3 (refine pvn_ HT_ (h := ?_))
                refine done_ (done_of HT_.out (by kernel_rfl)) ?_
                try go_wp2
                go_roundg k4
                case measure => have := HJ1.out; have := HK2.out; have := HK3.out; have := HK4.out; omega
                case rel => exact ⟨(wrap64 (x154_4 + 1)), rs_, H', ⟨by have := HJ1.out; have := HK2.out; have := HK3.out; have := HK4.out; omega⟩, ⟨bkp BK244⟩, ⟨bel⟩⟩
               rw [if_neg c158] at H
               exact absurd H (by simp)
              rw [if_neg c157] at H
              exact absurd H (by simp)
             rw [if_neg c155] at H
             have c155b0 : decide (0 < x154_4) = false := decide_eq_false c155
             clear c155
             have H' := Aside0.mk H
             clear H
             iterate 5 (refine pvn_ HT_ (h := ?_))
             refine puns_ HT_ 10 [some _, some _, some _, some _, some _, some _, some _, some _, some _, some _] (h := ?_)
             iterate 2 (refine pvn_ HT_ (h := ?_))
             refine done_ (done_of HT_.out (by kernel_rfl)) ?_
             try go_wp2
             go_roundg k4
             case measure => have := HJ1.out; have := HK2.out; have := HK3.out; have := HK4.out; omega
             case rel => exact ⟨(wrap64 (x154_4 + 1)), rs_, H', ⟨by have := HJ1.out; have := HK2.out; have := HK3.out; have := HK4.out; omega⟩, ⟨bkp BK244⟩, ⟨bel⟩⟩
            replace c154 := Bool.eq_false_iff.mpr c154
            subst c154
            have H1 : (some false) = some r := by rw [if_neg (show ¬ (false = true) by decide)] at H; exact H
            clear H
            have H := H1
            clear H1
            obtain rfl := Option.some.inj H
            iterate 2 (refine pvn_ HT_ (h := ?_))
            refine puns_ HT_ 14 [some _, some _, some _, some _, some _, some _, some _, some _, some _, some _, some _, some _, some _, some _] (h := ?_)
            refine pvn_ HT_ (h := ?_)
            refine done_ (done_of HT_.out (by kernel_rfl)) ?_
            try go_wp2
            go_ret
            exact ⟨by first | rfl | (simp [errW_none, errW_some] <;> rfl) | (simp only [← hji97]; first | rfl | (simp [errW_none, errW_some] <;> rfl)) | (simp [*, errW_none, errW_some] <;> rfl), bel⟩
           rw [if_neg c152] at H
           exact absurd H (by simp)
          rw [if_neg c151] at H
          exact absurd H (by simp)
         rw [if_neg c150] at H
         have c150b0 : decide (x154_4 < (l0_4.length : Int)) = false := decide_eq_false c150
         clear c150
         have H' := Aside0.mk H
         clear H
         obtain ⟨C180_0, C180_1, C180_2, C180_3, C180_4, C180_5, -⟩ := cells_6 BK244.out trivial
         obtain ⟨F180_0, F180_1, F180_2, F180_3, F180_4, F180_5, -⟩ := frz_6 BK244.out
         go_wp2
         go_loopg [185] k4 (fun kq v185 w' => ∃ (x185_5 : Int), v185 = .int .i64 x185_5 ∧ Aside0 (impl_StateOk.l3 kq l0_5 (l0_5.length : Int) x185_5 a0_0 l0_1 l0_2 a0_3 l0_4 l0_5 = some r) ∧ Aside0 (kq ≤ k4) ∧ Aside0 (w'.heap[gb244]? = some (.cells #[.int .i64 a0_0, (.slice A0_1 l0_1.length c0_1), (.slice A0_2 l0_2.length c0_2), .int .i64 a0_3, (.slice A0_4 l0_4.length c0_4), (.slice A0_5 l0_5.length c0_5)] 35 (0, 0))) ∧ Aside0 (Below w.heap.size w w'))
         case atStart => exact ⟨(0), rs_, H', ⟨Nat.le_refl _⟩, ⟨bkp BK244⟩, ⟨bel⟩⟩
         case round => as_aux_lemma =>
          clear H'
          try clear c1; try clear p2; try clear q2; try clear hx2; try clear p6; try clear c8; try clear c15; try clear c16; try clear c17; try clear p26; try clear q26; try clear hx26; try clear p64; try clear c81; try clear c150; try clear c150b0; try clear c151; try clear c152; try clear c154; try clear c155; try clear c155b0; try clear c157; try clear c158; try clear c166; try clear c171; try clear c176; try clear C167_0 C167_1; try clear C172_0 C172_1; try clear C177_0 C177_1; try clear C180_0 C180_1 C180_2 C180_3 C180_4 C180_5; try clear F167_0 F167_1; try clear F172_0 F172_1; try clear F177_0 F177_1; try clear F180_0 F180_1 F180_2 F180_3 F180_4 F180_5; try clear hx264_0; try clear hx264_1; try clear hx267_0; try clear hx267_1; try clear p264; try clear p267; try clear q264; try clear q267
          obtain ⟨x185_5, rfl, HA, HK5, BK244, HB⟩ := hrel
          cases gk with
          | zero => exact absurd HA.out (by simp [impl_StateOk.l3])
          | succ k5 =>
           have H := HA.out
           clear HA
           simp only [impl_StateOk.l3] at H
           by_cases c181 : x185_5 < (l0_5.length : Int)
           ·rw [if_pos c181] at H
            have c181b0 : decide (x185_5 < (l0_5.length : Int)) = true := decide_eq_true c181
            clear c181
            by_cases c182 : 0 ≤ x185_5
            ·rw [if_pos c182] at H
             have c182b0 : decide (0 ≤ x185_5) = true := decide_eq_true c182
             clear c182
             by_cases c183 : x185_5 < (l0_5.length : Int)
             ·rw [if_pos c183] at H
              have c183b0 : decide (x185_5 < (l0_5.length : Int)) = true := decide_eq_true c183
              clear c183
              replace H := Option.bind_eq_some_iff.mp H
              obtain ⟨t270, A1840, H⟩ := H
              replace H : (if t270 = true then ((impl_within.f ((rd_T75 l0_5 x185_5).f1) 1 1000000).bind fun t271 => (if t271 = true then ((impl_within.f ((rd_T75 l0_5 x185_5).f2.f0) 0 5).bind fun t272 => (if t272 = true then ((impl_within.f ((rd_T75 l0_5 x185_5).f2.f1) 1 a0_0).bind fun t273 => (if t273 = true then (if x185_5 > 0 then (if 0 ≤ (wrap64 (x185_5 - 1)) then (if (wrap64 (x185_5 - 1)) < (l0_5.length : Int) then (if ((rd_T75 l0_5 (wrap64 (x185_5 - 1))).f0) ≥ ((rd_T75 l0_5 x185_5).f0) then (some false) else (impl_StateOk.l3 k5 l0_5 (l0_5.length : Int) (wrap64 (x185_5 + 1)) a0_0 l0_1 l0_2 a0_3 l0_4 l0_5)) else (none)) else (none)) else (impl_StateOk.l3 k5 l0_5 (l0_5.length : Int) (wrap64 (x185_5 + 1)) a0_0 l0_1 l0_2 a0_3 l0_4 l0_5)) else (some false))) else (some false))) else (some false))) else (some false)) = some r := H
              have A184 := Aside0.mk A1840
              clear A1840
              have p268 : 0 ≤ (x185_5 : Int) := od
              have q268 : x185_5 < (l0_5.length : Int) := od
              obtain ⟨ad268, e268, hx268_0, hx268_1, hx268_2, hx268_3⟩ := at_T75 HR0_5.out x185_5 p268 q268
              cases e268
              replace hx268_0 := hxb HB hx268_0
              replace hx268_1 := hxb HB hx268_1
              replace hx268_2 := hxb HB hx268_2
              replace hx268_3 := hxb HB hx268_3
              replace p268 := eq_true p268
              replace q268 := eq_true q268
              try go_wp2_with (first | ((with_reducible refine gate_dst (N := 13) rfl ?_); (try (refine gate_guard (by rfl) ?_; dsimp only)); refine bx_ 13 #[.int .i64 0, .int .i64 0, .int .i64 0, .int .i64 0] 75 (h := ?_); intro gb269 hg wv1 hbox hb; have BK269 := Aside0.mk (hbox); have GW269 := Aside0.mk ((by rw [hg]; exact (below_size bel) : w.heap.size ≤ gb269)); have GE269 := GW269; have NB244_269 := Aside0.mk ((by rw [hg]; exact Nat.ne_of_lt (blt BK244) : gb244 ≠ gb269)); have NB269_244 := Aside0.mk NB244_269.out.symm; replace BK244 := Aside0.mk (blb BK244 hb); replace HB := bst hb; clear hb hbox hg; have hnbv1 := NB269_244.out; have hncv2 := NB244_269.out; obtain ⟨hczv3_0, hczv3_1, hczv3_2, hczv3_3, -⟩ := cells_4 BK269.out trivial; obtain ⟨hfzv4_0, hfzv4_1, hfzv4_2, hfzv4_3, -⟩ := frz_4 BK269.out))
              refine put4_ BK269.out ?_
              intro wv2 hp_ hf_ hb_
              replace BK244 := Aside0.mk ((hf_ _ NB244_269.out).trans BK244.out)
              replace HB := Aside0.mk (hb_ _ HB.out GE269.out)
              replace BK269 := Aside0.mk hp_
              clear hp_ hf_ hb_
              replace BK244 := Aside0.mk (blk_drew BK244.out)
              replace BK269 := Aside0.mk (blk_drew BK269.out)
              replace HB := Aside0.mk (below_drew1 HB.out)
              refine start_ (n := 42) (S := fun w' => w'.cell? ⟨gb269, 0, none⟩ = some (.int .i64 ((rd_T75 l0_5 x185_5).f0)) ∧ w'.cell? ⟨gb269, 1, none⟩ = some (.int .i64 ((rd_T75 l0_5 x185_5).f1)) ∧ w'.cell? ⟨gb269, 2, none⟩ = some (.int .i64 ((rd_T75 l0_5 x185_5).f2.f0)) ∧ w'.cell? ⟨gb269, 3, none⟩ = some (.int .i64 ((rd_T75 l0_5 x185_5).f2.f1)) ∧ w'.cell? ⟨gb244, 0, none⟩ = some (.int .i64 a0_0) ∧ w'.cell? ⟨gb244, 1, none⟩ = some (.slice A0_1 l0_1.length c0_1) ∧ w'.cell? ⟨gb244, 2, none⟩ = some (.slice A0_2 l0_2.length c0_2) ∧ w'.cell? ⟨gb244, 3, none⟩ = some (.int .i64 a0_3) ∧ w'.cell? ⟨gb244, 4, none⟩ = some (.slice A0_4 l0_4.length c0_4) ∧ w'.cell? ⟨gb244, 5, none⟩ = some (.slice (some ad268) l0_5.length c0_5)) (ds := []) (tf 0 42) (by kernel_rfl) rfl rfl (cells_4 BK269.out (cellz_6 BK244.out)) (fun hHeld => ?_); refine with_tabW impl_StateOk.tab27 impl_StateOk.bits27 (fun HT_ HW_ => ?_)
              generalize wv2.drew = wv3 at BK244 BK269 HB hHeld ⊢
              refine pvn_ HT_ (h := ?_)
              refine tvn_ HT_ HW_ hHeld (h := ?_)
              refine one_ (i := 2) (N := some 192) (tf 3 39) rfl rfl (one_of HT_.out (by kernel_rfl)) (by decide) (fun K hK => ?_)
              refine gs_ Try.func81 #[.int .i64 ((rd_T75 l0_5 x185_5).f0), .int .i64 0, .int .i64 3] (h := ?_)
              with_reducible refine (impl_within.calls ((rd_T75 l0_5 x185_5).f0) 0 3 t270 _ A184.out).mono ?_
              rintro e w' ⟨rfl, ⟨nd, rfl⟩⟩
              refine ⟨_, rfl, ?_⟩
              refine hK.out _ _ (cells_4 BK269.out (cellz_6 BK244.out)) (fun hHeld => ?_)
              clear hK K
              refine nrm_ (some 192) (h := ?_)
              by_cases c185 : t270 = true
              ·subst c185
               have H1 : ((impl_within.f ((rd_T75 l0_5 x185_5).f1) 1 1000000).bind fun t271 => (if t271 = true then ((impl_within.f ((rd_T75 l0_5 x185_5).f2.f0) 0 5).bind fun t272 => (if t272 = true then ((impl_within.f ((rd_T75 l0_5 x185_5).f2.f1) 1 a0_0).bind fun t273 => (if t273 = true then (if x185_5 > 0 then (if 0 ≤ (wrap64 (x185_5 - 1)) then (if (wrap64 (x185_5 - 1)) < (l0_5.length : Int) then (if ((rd_T75 l0_5 (wrap64 (x185_5 - 1))).f0) ≥ ((rd_T75 l0_5 x185_5).f0) then (some false) else (impl_StateOk.l3 k5 l0_5 (l0_5.length : Int) (wrap64 (x185_5 + 1)) a0_0 l0_1 l0_2 a0_3 l0_4 l0_5)) else (none)) else (none)) else (impl_StateOk.l3 k5 l0_5 (l0_5.length : Int) (wrap64 (x185_5 + 1)) a0_0 l0_1 l0_2 a0_3 l0_4 l0_5)) else (some false))) else (some false))) else (some false))) = some r := by rw [if_pos rfl] at H; exact H
               clear H
               have H := H1
               clear H1
               replace H := Option.bind_eq_some_iff.mp H
               obtain ⟨t271, A1860, H⟩ := H
               replace H : (if t271 = true then ((impl_within.f ((rd_T75 l0_5 x185_5).f2.f0) 0 5).bind fun t272 => (if t272 = true then ((impl_within.f ((rd_T75 l0_5 x185_5).f2.f1) 1 a0_0).bind fun t273 => (if t273 = true then (if x185_5 > 0 then (if 0 ≤ (wrap64 (x185_5 - 1)) then (if (wrap64 (x185_5 - 1)) < (l0_5.length : Int) then (if ((rd_T75 l0_5 (wrap64 (x185_5 - 1))).f0) ≥ ((rd_T75 l0_5 x185_5).f0) then (some false) else (impl_StateOk.l3 k5 l0_5 (l0_5.length : Int) (wrap64 (x185_5 + 1)) a0_0 l0_1 l0_2 a0_3 l0_4 l0_5)) else (none)) else (none)) else (impl_StateOk.l3 k5 l0_5 (l0_5.length : Int) (wrap64 (x185_5 + 1)) a0_0 l0_1 l0_2 a0_3 l0_4 l0_5)) else (some false))) else (some false))) else (some false)) = some r := H
               have A186 := Aside0.mk A1860
               clear A1860
               iterate 3 (refine pvn_ HT_ (h := ?_))
               refine tvn_ HT_ HW_ hHeld (h := ?_)
               refine one_ (i := 7) (N := some 197) (tf 8 34) rfl rfl (one_of HT_.out (by kernel_rfl)) (by decide) (fun K hK => ?_)
               refine gs_ Try.func81 #[.int .i64 ((rd_T75 l0_5 x185_5).f1), .int .i64 1, .int .i64 1000000] (h := ?_)
               with_reducible refine (impl_within.calls ((rd_T75 l0_5 x185_5).f1) 1 1000000 t271 _ A186.out).mono ?_
               rintro e w' ⟨rfl, ⟨nd, rfl⟩⟩
               refine ⟨_, rfl, ?_⟩
               refine hK.out _ _ (cells_4 BK269.out (cellz_6 BK244.out)) (fun hHeld => ?_)
               clear hK K
               refine nrm_ (some 197) (h := ?_)
               by_cases c187 : t271 = true
               ·subst c187
                have H1 : ((impl_within.f ((rd_T75 l0_5 x185_5).f2.f0) 0 5).bind fun t272 => (if t272 = true then ((impl_within.f ((rd_T75 l0_5 x185_5).f2.f1) 1 a0_0).bind fun t273 => (if t273 = true then (if x185_5 > 0 then (if 0 ≤ (wrap64 (x185_5 - 1)) then (if (wrap64 (x185_5 - 1)) < (l0_5.length : Int) then (if ((rd_T75 l0_5 (wrap64 (x185_5 - 1))).f0) ≥ ((rd_T75 l0_5 x185_5).f0) then (some false) else (impl_StateOk.l3 k5 l0_5 (l0_5.length : Int) (wrap64 (x185_5 + 1)) a0_0 l0_1 l0_2 a0_3 l0_4 l0_5)) else (none)) else (none)) else (impl_StateOk.l3 k5 l0_5 (l0_5.length : Int) (wrap64 (x185_5 + 1)) a0_0 l0_1 l0_2 a0_3 l0_4 l0_5)) else (some false))) else (some false))) = some r := by rw [if_pos rfl] at H; exact H
                clear H
                have H := H1
                clear H1
                replace H := Option.bind_eq_some_iff.mp H
                obtain ⟨t272, A1880, H⟩ := H
                replace H : (if t272 = true then ((impl_within.f ((rd_T75 l0_5 x185_5).f2.f1) 1 a0_0).bind fun t273 => (if t273 = true then (if x185_5 > 0 then (if 0 ≤ (wrap64 (x185_5 - 1)) then (if (wrap64 (x185_5 - 1)) < (l0_5.length : Int) then (if ((rd_T75 l0_5 (wrap64 (x185_5 - 1))).f0) ≥ ((rd_T75 l0_5 x185_5).f0) then (some false) else (impl_StateOk.l3 k5 l0_5 (l0_5.length : Int) (wrap64 (x185_5 + 1)) a0_0 l0_1 l0_2 a0_3 l0_4 l0_5)) else (none)) else (none)) else (impl_StateOk.l3 k5 l0_5 (l0_5.length : Int) (wrap64 (x185_5 + 1)) a0_0 l0_1 l0_2 a0_3 l0_4 l0_5)) else (some false))) else (some false)) = some r := H
                have A188 := Aside0.mk A1880
                clear A1880
                iterate 5 (refine pvn_ HT_ (h := ?_))
                refine tvn_ HT_ HW_ hHeld (h := ?_)
                refine one_ (i := 14) (N := some 204) (tf 15 27) rfl rfl (one_of HT_.out (by kernel_rfl)) (by decide) (fun K hK => ?_)
                refine gs_ Try.func81 #[.int .i64 ((rd_T75 l0_5 x185_5).f2.f0), .int .i64 0, .int .i64 5] (h := ?_)
                with_reducible refine (impl_within.calls ((rd_T75 l0_5 x185_5).f2.f0) 0 5 t272 _ A188.out).mono ?_
                rintro e w' ⟨rfl, ⟨nd, rfl⟩⟩
                refine ⟨_, rfl, ?_⟩
                refine hK.out _ _ (cells_4 BK269.out (cellz_6 BK244.out)) (fun hHeld => ?_)
                clear hK K
                refine nrm_ (some 204) (h := ?_)
                by_cases c189 : t272 = true
                ·subst c189
                 have H1 : ((impl_within.f ((rd_T75 l0_5 x185_5).f2.f1) 1 a0_0).bind fun t273 => (if t273 = true then (if x185_5 > 0 then (if 0 ≤ (wrap64 (x185_5 - 1)) then (if (wrap64 (x185_5 - 1)) < (l0_5.length : Int) then (if ((rd_T75 l0_5 (wrap64 (x185_5 - 1))).f0) ≥ ((rd_T75 l0_5 x185_5).f0) then (some false) else (impl_StateOk.l3 k5 l0_5 (l0_5.length : Int) (wrap64 (x185_5 + 1)) a0_0 l0_1 l0_2 a0_3 l0_4 l0_5)) else (none)) else (none)) else (impl_StateOk.l3 k5 l0_5 (l0_5.length : Int) (wrap64 (x185_5 + 1)) a0_0 l0_1 l0_2 a0_3 l0_4 l0_5)) else (some false))) = some r := by rw [if_pos rfl] at H; exact H
                 clear H
                 have H := H1
                 clear H1
                 replace H := Option.bind_eq_some_iff.mp H
                 obtain ⟨t273, A1900, H⟩ := H
                 replace H : (if t273 = true then (if x185_5 > 0 then (if 0 ≤ (wrap64 (x185_5 - 1)) then (if (wrap64 (x185_5 - 1)) < (l0_5.length : Int) then (if ((rd_T75 l0_5 (wrap64 (x185_5 - 1))).f0) ≥ ((rd_T75 l0_5 x185_5).f0) then (some false) else (impl_StateOk.l3 k5 l0_5 (l0_5.length : Int) (wrap64 (x185_5 + 1)) a0_0 l0_1 l0_2 a0_3 l0_4 l0_5)) else (none)) else (none)) else (impl_StateOk.l3 k5 l0_5 (l0_5.length : Int) (wrap64 (x185_5 + 1)) a0_0 l0_1 l0_2 a0_3 l0_4 l0_5)) else (some false)) = some r := H
                 have A190 := Aside0.mk A1900
                 clear A1900
                 iterate 5 (refine pvn_ HT_ (h := ?_))
                 refine pv_ HT_ 21 (some 211) (tb 42 3145727) (h := ?_)
                 refine tv_ HT_ HW_ hHeld 20 (some 210) (tf 22 20) (h := ?_)
                 refine tvn_ HT_ HW_ hHeld (h := ?_)
                 refine one_ (i := 23) (N := some 213) (tf 24 18) rfl rfl (one_of HT_.out (by kernel_rfl)) (by decide) (fun K hK => ?_)
                 refine gs_ Try.func81 #[.int .i64 ((rd_T75 l0_5 x185_5).f2.f1), .int .i64 1, .int .i64 a0_0] (h := ?_)
                 with_reducible refine (impl_within.calls ((rd_T75 l0_5 x185_5).f2.f1) 1 a0_0 t273 _ A190.out).mono ?_
                 rintro e w' ⟨rfl, ⟨nd, rfl⟩⟩
                 refine ⟨_, rfl, ?_⟩
                 refine hK.out _ _ (cells_4 BK269.out (cellz_6 BK244.out)) (fun hHeld => ?_)
                 clear hK K
                 refine nrm_ (some 213) (h := ?_)
                 by_cases c191 : t273 = true
                 ·subst c191
                  have H1 : (if x185_5 > 0 then (if 0 ≤ (wrap64 (x185_5 - 1)) then (if (wrap64 (x185_5 - 1)) < (l0_5.length : Int) then (if ((rd_T75 l0_5 (wrap64 (x185_5 - 1))).f0) ≥ ((rd_T75 l0_5 x185_5).f0) then (some false) else (impl_StateOk.l3 k5 l0_5 (l0_5.length : Int) (wrap64 (x185_5 + 1)) a0_0 l0_1 l0_2 a0_3 l0_4 l0_5)) else (none)) else (none)) else (impl_StateOk.l3 k5 l0_5 (l0_5.length : Int) (wrap64 (x185_5 + 1)) a0_0 l0_1 l0_2 a0_3 l0_4 l0_5)) = some r := by rw [if_pos rfl] at H; exact H
                  clear H
                  have H := H1
                  clear H1
                  by_cases c192 : x185_5 > 0
                  ·rw [if_pos c192] at H
                   have c192b0 : decide (0 < x185_5) = true := decide_eq_true c192
                   clear c192
                   obtain ⟨ji193, hji193⟩ : ∃ j_ : Int, (wrap64 (x185_5 - 1)) = j_ := ⟨_, rfl⟩
                   replace H : (if 0 ≤ (ji193) then (if (ji193) < (l0_5.length : Int) then (if ((rd_T75 l0_5 (ji193)).f0) ≥ ((rd_T75 l0_5 x185_5).f0) then (some false) else (impl_StateOk.l3 k5 l0_5 (l0_5.length : Int) (wrap64 (x185_5 + 1)) a0_0 l0_1 l0_2 a0_3 l0_4 l0_5)) else (none)) else (none)) = some r := by first | (rw [hji193] at H; exact H) | (simp only [hji193] at H ⊢; exact H)
                   (try rw [hji193] at A184)
                   (try rw [hji193] at A186)
                   (try rw [hji193] at A188)
                   (try rw [hji193] at A190)
                   have hji193w : (IntKind.i64.wrap (x185_5 - 1)) = ji193 := (i64_w _).trans hji193
                   by_cases c194 : 0 ≤ (ji193)
                   ·rw [if_pos c194] at H
                    have c194b0 : decide (0 ≤ (ji193)) = true := decide_eq_true c194
                    clear c194
                    by_cases c195 : (ji193) < (l0_5.length : Int)
                    ·rw [if_pos c195] at H
                     have c195b0 : decide ((ji193) < (l0_5.length : Int)) = true := decide_eq_true c195
                     clear c195
                     have p274 : 0 ≤ ((ji193) : Int) := od
                     have q274 : (ji193) < (l0_5.length : Int) := od
                     obtain ⟨ad274, e274, hx274_0, hx274_1, hx274_2, hx274_3⟩ := at_T75 HR0_5.out (ji193) p274 q274
                     have hw274_3 := hx274_3
                     have hw274_2 := hx274_2
                     have hw274_1 := hx274_1
                     have hw274_0 := hx274_0
                     obtain rfl : ad268 = ad274 := (by injection e274)
                     replace hx274_0 := hxb HB hx274_0
                     replace hx274_1 := hxb HB hx274_1
                     replace hx274_2 := hxb HB hx274_2
                     replace hx274_3 := hxb HB hx274_3
                     replace p274 := eq_true p274
                     replace q274 := eq_true q274
                     refine widen_ (S' := fun w' => w'.cell? ⟨gb269, 0, none⟩ = some (.int .i64 ((rd_T75 l0_5 x185_5).f0)) ∧ w'.cell? ⟨gb269, 1, none⟩ = some (.int .i64 ((rd_T75 l0_5 x185_5).f1)) ∧ w'.cell? ⟨gb269, 2, none⟩ = some (.int .i64 ((rd_T75 l0_5 x185_5).f2.f0)) ∧ w'.cell? ⟨gb269, 3, none⟩ = some (.int .i64 ((rd_T75 l0_5 x185_5).f2.f1)) ∧ w'.cell? ⟨gb244, 0, none⟩ = some (.int .i64 a0_0) ∧ w'.cell? ⟨gb244, 1, none⟩ = some (.slice A0_1 l0_1.length c0_1) ∧ w'.cell? ⟨gb244, 2, none⟩ = some (.slice A0_2 l0_2.length c0_2) ∧ w'.cell? ⟨gb244, 3, none⟩ = some (.int .i64 a0_3) ∧ w'.cell? ⟨gb244, 4, none⟩ = some (.slice A0_4 l0_4.length c0_4) ∧ w'.cell? ⟨gb244, 5, none⟩ = some (.slice (some ad268) l0_5.length c0_5) ∧ w'.cell? (ad268.add (((ji193)).toNat * 4)) = some (.int .i64 ((rd_T75 l0_5 (ji193)).f0)) ∧ w'.cell? ⟨(ad268.add (((ji193)).toNat * 4)).block, (ad268.add (((ji193)).toNat * 4)).off + 1, none⟩ = some (.int .i64 ((rd_T75 l0_5 (ji193)).f1)) ∧ w'.cell? ⟨(ad268.add (((ji193)).toNat * 4)).block, (ad268.add (((ji193)).toNat * 4)).off + 2, none⟩ = some (.int .i64 ((rd_T75 l0_5 (ji193)).f2.f0)) ∧ w'.cell? ⟨(ad268.add (((ji193)).toNat * 4)).block, (ad268.add (((ji193)).toNat * 4)).off + 3, none⟩ = some (.int .i64 ((rd_T75 l0_5 (ji193)).f2.f1))) (fun _ h_ => ⟨h_.1, h_.2.1, h_.2.2.1, h_.2.2.2.1, h_.2.2.2.2.1, h_.2.2.2.2.2.1, h_.2.2.2.2.2.2.1, h_.2.2.2.2.2.2.2.1, h_.2.2.2.2.2.2.2.2.1, h_.2.2.2.2.2.2.2.2.2.1⟩) (cells_4 BK269.out (cells_6 BK244.out ⟨(hxb HB hw274_0 :), (hxb HB hw274_1 :), (hxb HB hw274_2 :), (hxb HB hw274_3 :)⟩)) (h := ?_)
                     clear hHeld; intro hHeld
                     iterate 7 (refine pvn_ HT_ (h := ?_))
                     refine pv_ HT_ 32 (some 222) (tb 42 6442450943) (h := ?_)
                     refine pv_ HT_ 33 (some 223) (tb 42 15032385535) (h := ?_)
                     refine pv_ HT_ 37 (some 227) (tb 42 152471339007) (h := ?_)
                     refine tv_ HT_ HW_ hHeld 31 (some 221) (tb 42 154618822655) (h := ?_)
                     refine pv_ HT_ 34 (some 224) (tb 42 171798691839) (h := ?_)
                     refine pv_ HT_ 35 (some 225) (tb 42 206158430207) (h := ?_)
                     refine tv_ HT_ HW_ hHeld 36 (some 226) (tf 38 4) (h := ?_)
                     by_cases c196 : ((rd_T75 l0_5 (ji193)).f0) ≥ ((rd_T75 l0_5 x185_5).f0)
                     ·rw [if_pos c196] at H
                      have c196b0 : decide (((rd_T75 l0_5 x185_5).f0) ≤ ((rd_T75 l0_5 (ji193)).f0)) = true := decide_eq_true c196
                      clear c196
                      obtain rfl := Option.some.inj H
                      refine tvn_ HT_ HW_ hHeld (h := ?_)
                      iterate 3 (refine pvn_ HT_ (h := ?_))
                      refine done_ (done_of HT_.out (by kernel_rfl)) ?_
                      try go_wp2
                      go_ret
                      exact ⟨by first | rfl | (simp [errW_none, errW_some] <;> rfl) | (simp only [← hji97, ← hji193]; first | rfl | (simp [errW_none, errW_some] <;> rfl)) | (simp [*, errW_none, errW_some] <;> rfl), bel⟩
                     rw [if_neg c196] at H
                     have c196b0 : decide (((rd_T75 l0_5 x185_5).f0) ≤ ((rd_T75 l0_5 (ji193)).f0)) = false := decide_eq_false c196
                     clear c196
                     have H' := Aside0.mk H
                     clear H
                     refine tvn_ HT_ HW_ hHeld (h := ?_)
                     iterate 3 (refine pvn_ HT_ (h := ?_))
                     refine done_ (done_of HT_.out (by kernel_rfl)) ?_
                     try go_wp2
                     go_roundg k5
                     case measure => have := HJ1.out; have := HK2.out; have := HK3.out; have := HK4.out; have := HK5.out; omega
                     case rel => exact ⟨(wrap64 (x185_5 + 1)), rs_, H', ⟨by have := HJ1.out; have := HK2.out; have := HK3.out; have := HK4.out; have := HK5.out; omega⟩, ⟨bkp BK244⟩, ⟨bel⟩⟩
                    rw [if_neg c195] at H
                    exact absurd H (by simp)
                   rw [if_neg c194] at H
                   exact absurd H (by simp)
                  rw [if_neg c192] at H
                  have c192b0 : decide (0 < x185_5) = false := decide_eq_false c192
                  clear c192
                  have H' := Aside0.mk H
                  clear H
                  iterate 6 (refine pvn_ HT_ (h := ?_))
                  refine puns_ HT_ 10 [some _, some _, some _, some _, some _, some _, some _, some _, some _, some _] (h := ?_)
                  iterate 2 (refine pvn_ HT_ (h := ?_))
                  refine done_ (done_of HT_.out (by kernel_rfl)) ?_
                  try go_wp2
                  go_roundg k5
                  case measure => have := HJ1.out; have := HK2.out; have := HK3.out; have := HK4.out; have := HK5.out; omega
                  case rel => exact ⟨(wrap64 (x185_5 + 1)), rs_, H', ⟨by have := HJ1.out; have := HK2.out; have := HK3.out; have := HK4.out; have := HK5.out; omega⟩, ⟨bkp BK244⟩, ⟨bel⟩⟩
                 replace c191 := Bool.eq_false_iff.mpr c191
                 subst c191
                 have H1 : (some false) = some r := by rw [if_neg (show ¬ (false = true) by decide)] at H; exact H
                 clear H
                 have H := H1
                 clear H1
                 obtain rfl := Option.some.inj H
                 iterate 3 (refine pvn_ HT_ (h := ?_))
                 refine puns_ HT_ 14 [some _, some _, some _, some _, some _, some _, some _, some _, some _, some _, some _, some _, some _, some _] (h := ?_)
                 refine pvn_ HT_ (h := ?_)
                 refine done_ (done_of HT_.out (by kernel_rfl)) ?_
                 try go_wp2
                 go_ret
                 exact ⟨by first | rfl | (simp [errW_none, errW_some] <;> rfl) | (simp only [← hji97]; first | rfl | (simp [errW_none, errW_some] <;> rfl)) | (simp [*, errW_none, errW_some] <;> rfl), bel⟩
                replace c189 := Bool.eq_false_iff.mpr c189
                subst c189
                have H1 : (some false) = some r := by rw [if_neg (show ¬ (false = true) by decide)] at H; exact H
                clear H
                have H := H1
                clear H1
                obtain rfl := Option.some.inj H
                iterate 3 (refine pvn_ HT_ (h := ?_))
                refine puns_ HT_ 7 [some _, some _, some _, some _, some _, some _, some _] (h := ?_)
                iterate 2 (refine pvn_ HT_ (h := ?_))
                refine puns_ HT_ 14 [some _, some _, some _, some _, some _, some _, some _, some _, some _, some _, some _, some _, some _, some _] (h := ?_)
                refine pvn_ HT_ (h := ?_)
                refine done_ (done_of HT_.out (by kernel_rfl)) ?_
                try go_wp2
                go_ret
                exact ⟨by first | rfl | (simp [errW_none, errW_some] <;> rfl) | (simp only [← hji97]; first | rfl | (simp [errW_none, errW_some] <;> rfl)) | (simp [*, errW_none, errW_some] <;> rfl), bel⟩
               replace c187 := Bool.eq_false_iff.mpr c187
               subst c187
               have H1 : (some false) = some r := by rw [if_neg (show ¬ (false = true) by decide)] at H; exact H
               clear H
               have H := H1
               clear H1
               obtain rfl := Option.some.inj H
               iterate 3 (refine pvn_ HT_ (h := ?_))
               refine puns_ HT_ 5 [some _, some _, some _, some _, some _] (h := ?_)
               iterate 2 (refine pvn_ HT_ (h := ?_))
               refine puns_ HT_ 7 [some _, some _, some _, some _, some _, some _, some _] (h := ?_)
               iterate 2 (refine pvn_ HT_ (h := ?_))
               refine puns_ HT_ 14 [some _, some _, some _, some _, some _, some _, some _, some _, some _, some _, some _, some _, some _, some _] (h := ?_)
               refine pvn_ HT_ (h := ?_)
               refine done_ (done_of HT_.out (by kernel_rfl)) ?_
               try go_wp2
               go_ret
               exact ⟨by first | rfl | (simp [errW_none, errW_some] <;> rfl) | (simp only [← hji97]; first | rfl | (simp [errW_none, errW_some] <;> rfl)) | (simp [*, errW_none, errW_some] <;> rfl), bel⟩
              replace c185 := Bool.eq_false_iff.mpr c185
              subst c185
              have H1 : (some false) = some r := by rw [if_neg (show ¬ (false = true) by decide)] at H; exact H
              clear H
              have H := H1
              clear H1
              obtain rfl := Option.some.inj H
              iterate 2 (refine pvn_ HT_ (h := ?_))
              refine puns_ HT_ 4 [some _, some _, some _, some _] (h := ?_)
              iterate 2 (refine pvn_ HT_ (h := ?_))
              refine puns_ HT_ 5 [some _, some _, some _, some _, some _] (h := ?_)
              iterate 2 (refine pvn_ HT_ (h := ?_))
              refine puns_ HT_ 7 [some _, some _, some _, some _, some _, some _, some _] (h := ?_)
              iterate 2 (refine pvn_ HT_ (h := ?_))
              refine puns_ HT_ 14 [some _, some _, some _, some _, some _, some _, some _, some _, some _, some _, some _, some _, some _, some _] (h := ?_)
              refine pvn_ HT_ (h := ?_)
              refine done_ (done_of HT_.out (by kernel_rfl)) ?_
              try go_wp2
              go_ret
              exact ⟨by first | rfl | (simp [errW_none, errW_some] <;> rfl) | (simp only [← hji97]; first | rfl | (simp [errW_none, errW_some] <;> rfl)) | (simp [*, errW_none, errW_some] <;> rfl), bel⟩
             rw [if_neg c183] at H
             exact absurd H (by simp)
            rw [if_neg c182] at H
            exact absurd H (by simp)
           rw [if_neg c181] at H
           have c181b0 : decide (x185_5 < (l0_5.length : Int)) = false := decide_eq_false c181
           clear c181
           as_aux_lemma =>
            obtain rfl := Option.some.inj H
            go_wp2
            go_ret
            exact ⟨by first | rfl | (simp [errW_none, errW_some] <;> rfl) | (simp only [← hji97]; first | rfl | (simp [errW_none, errW_some] <;> rfl)) | (simp [*, errW_none, errW_some] <;> rfl), bel⟩

end Go.Proofs.Ytdgegnakiljfjaa.PT
