-- Written for this claim by the session's program pp.py, out of the kit's print and the seat's translation.
import Derived.Test.YtdgegnakiljfjaaPAx0
import Derived.Test.YtdgegnakiljfjaaPAx4
import Derived.Test.YtdgegnakiljfjaaPAx5
namespace Go.Proofs.Ytdgegnakiljfjaa.PA
open Go.RowKit Go.Proofs.YtdgegnakiljfjaaW.PrintWords Go.Proofs.YtdgegnakiljfjaaW.PrintLast Go.Proofs.YtdgegnakiljfjaaW.PrintMore
attribute [local go_sem] max2_int min2_int max_two min_two max_three min_three max_four min_four   -- for this text's walks alone
set_option linter.unusedVariables false
set_option linter.unusedSimpArgs false

/-! ### impl_StateOk: function 18 -/
mutual
def impl_StateOk.j0 : Nat → Bool → Int → List (S92) → List (S94) → Int → List (S109) → List (S75) → Option (Bool)
 | 0, _, _, _, _, _, _, _ => none
 | k + 1, x49, x243000, x243001, x243002, x243003, x243004, x243005 => if x49 = true then (some false) else (impl_StateOk.l0 k x243001 (x243001.length : Int) 0 x243000 x243001 x243002 x243003 x243004 x243005)
def impl_StateOk.l0 : Nat → List (S92) → Int → Int → Int → List (S92) → List (S94) → Int → List (S109) → List (S75) → Option (Bool)
 | 0, _, _, _, _, _, _, _, _, _ => none
 | k + 1, x51, x52, x53, x243000, x243001, x243002, x243003, x243004, x243005 => if x53 < x52 then (if 0 ≤ x53 then (if x53 < (x51.length : Int) then ((impl_KeyOk.f k ((rd_T92 x51 x53).f0)).bind fun t247 => (if t247 = true then ((impl_isValue.f ((rd_T92 x51 x53).f1)).bind fun t248 => (if t248 = true then ((impl_within.f ((rd_T92 x51 x53).f2) 1 x243000).bind fun t249 => (if t249 = true then (if ((rd_T92 x51 x53).f3) = 0 then (if x53 > 0 then (if 0 ≤ (wrap64 (x53 - 1)) then (if (wrap64 (x53 - 1)) < (x243001.length : Int) then ((bytes_Compare.f ((rd_T92 x243001 (wrap64 (x53 - 1))).f0) ((rd_T92 x51 x53).f0)).bind fun t251 => (if t251 ≥ 0 then (some false) else (impl_StateOk.l0 k x51 x52 (wrap64 (x53 + 1)) x243000 x243001 x243002 x243003 x243004 x243005))) else (none)) else (none)) else (impl_StateOk.l0 k x51 x52 (wrap64 (x53 + 1)) x243000 x243001 x243002 x243003 x243004 x243005)) else ((impl_State_session.f x243000 x243001 x243002 x243003 x243004 x243005 ((rd_T92 x51 x53).f3)).bind fun t252 => (if t252 < 0 then (some false) else (if x53 > 0 then (if 0 ≤ (wrap64 (x53 - 1)) then (if (wrap64 (x53 - 1)) < (x243001.length : Int) then ((bytes_Compare.f ((rd_T92 x243001 (wrap64 (x53 - 1))).f0) ((rd_T92 x51 x53).f0)).bind fun t254 => (if t254 ≥ 0 then (some false) else (impl_StateOk.l0 k x51 x52 (wrap64 (x53 + 1)) x243000 x243001 x243002 x243003 x243004 x243005))) else (none)) else (none)) else (impl_StateOk.l0 k x51 x52 (wrap64 (x53 + 1)) x243000 x243001 x243002 x243003 x243004 x243005))))) else (some false))) else (some false))) else (some false))) else (none)) else (none)) else (impl_StateOk.l1 k (mx 1 x243003) x243002 (x243002.length : Int) 0 x243000 x243001 x243002 x243003 x243004 x243005)
def impl_StateOk.l1 : Nat → Int → List (S94) → Int → Int → Int → List (S92) → List (S94) → Int → List (S109) → List (S75) → Option (Bool)
 | 0, _, _, _, _, _, _, _, _, _, _ => none
 | k + 1, x5, x110, x111, x112, x243000, x243001, x243002, x243003, x243004, x243005 => if x112 < x111 then (if 0 ≤ x112 then (if x112 < (x110.length : Int) then ((impl_State_row.f k x243000 x243001 x243002 x243003 x243004 x243005 ((rd_T94 x110 x112).f0)).bind fun bt257 => (if bt257.2 = true then (some false) else ((impl_KeyOk.f k ((rd_T94 x110 x112).f0)).bind fun t259 => (if t259 = true then ((impl_State_tomb.f x243000 x243001 x243002 x243003 x243004 x243005 ((rd_T94 x110 x112).f0)).bind fun t260 => (if t260 = x112 then ((impl_within.f ((rd_T94 x110 x112).f1) x5 x243000).bind fun t261 => (if t261 = true then (impl_StateOk.l1 k ((rd_T94 x110 x112).f1) x110 x111 (wrap64 (x112 + 1)) x243000 x243001 x243002 x243003 x243004 x243005) else (some false))) else (some false))) else (some false))))) else (none)) else (none)) else (impl_StateOk.l2 k x243004 (x243004.length : Int) 0 x243000 x243001 x243002 x243003 x243004 x243005)
def impl_StateOk.l2 : Nat → List (S109) → Int → Int → Int → List (S92) → List (S94) → Int → List (S109) → List (S75) → Option (Bool)
 | 0, _, _, _, _, _, _, _, _, _ => none
 | k + 1, x152, x153, x154, x243000, x243001, x243002, x243003, x243004, x243005 => if x154 < x153 then (if 0 ≤ x154 then (if x154 < (x152.length : Int) then ((impl_within.f ((rd_T109 x152 x154).f0) 1 x243000).bind fun t264 => (if t264 = true then (if x154 > 0 then (if 0 ≤ (wrap64 (x154 - 1)) then (if (wrap64 (x154 - 1)) < (x243004.length : Int) then (if ((rd_T109 x243004 (wrap64 (x154 - 1))).f0) ≥ ((rd_T109 x152 x154).f0) then (some false) else (impl_StateOk.l2 k x152 x153 (wrap64 (x154 + 1)) x243000 x243001 x243002 x243003 x243004 x243005)) else (none)) else (none)) else (impl_StateOk.l2 k x152 x153 (wrap64 (x154 + 1)) x243000 x243001 x243002 x243003 x243004 x243005)) else (some false))) else (none)) else (none)) else (impl_StateOk.l3 k x243005 (x243005.length : Int) 0 x243000 x243001 x243002 x243003 x243004 x243005)
def impl_StateOk.l3 : Nat → List (S75) → Int → Int → Int → List (S92) → List (S94) → Int → List (S109) → List (S75) → Option (Bool)
 | 0, _, _, _, _, _, _, _, _, _ => none
 | k + 1, x183, x184, x185, x243000, x243001, x243002, x243003, x243004, x243005 => if x185 < x184 then (if 0 ≤ x185 then (if x185 < (x183.length : Int) then ((impl_within.f ((rd_T75 x183 x185).f0) 0 3).bind fun t268 => (if t268 = true then ((impl_within.f ((rd_T75 x183 x185).f1) 1 1000000).bind fun t269 => (if t269 = true then ((impl_within.f ((rd_T75 x183 x185).f2.f0) 0 5).bind fun t270 => (if t270 = true then ((impl_within.f ((rd_T75 x183 x185).f2.f1) 1 x243000).bind fun t271 => (if t271 = true then (if x185 > 0 then (if 0 ≤ (wrap64 (x185 - 1)) then (if (wrap64 (x185 - 1)) < (x243005.length : Int) then (if ((rd_T75 x243005 (wrap64 (x185 - 1))).f0) ≥ ((rd_T75 x183 x185).f0) then (some false) else (impl_StateOk.l3 k x183 x184 (wrap64 (x185 + 1)) x243000 x243001 x243002 x243003 x243004 x243005)) else (none)) else (none)) else (impl_StateOk.l3 k x183 x184 (wrap64 (x185 + 1)) x243000 x243001 x243002 x243003 x243004 x243005)) else (some false))) else (some false))) else (some false))) else (some false))) else (none)) else (none)) else (some true)
end
def impl_StateOk.f (k : Nat) (a0_0 : Int) (l0_1 : List (S92)) (l0_2 : List (S94)) (a0_3 : Int) (l0_4 : List (S109)) (l0_5 : List (S75)) : Option (Bool) := (impl_within.f a0_0 0 1000000).bind fun t243 => (if t243 = true then ((impl_within.f a0_3 0 a0_0).bind fun t244 => (if t244 = true then (if (l0_1.length : Int) > 20 then (impl_StateOk.j0 k true a0_0 l0_1 l0_2 a0_3 l0_4 l0_5) else (if (l0_2.length : Int) > 10 then (impl_StateOk.j0 k true a0_0 l0_1 l0_2 a0_3 l0_4 l0_5) else (if (l0_4.length : Int) > 8 then (impl_StateOk.j0 k true a0_0 l0_1 l0_2 a0_3 l0_4 l0_5) else (impl_StateOk.j0 k (decide ((l0_5.length : Int) > 4)) a0_0 l0_1 l0_2 a0_3 l0_4 l0_5)))) else (impl_StateOk.j0 k true a0_0 l0_1 l0_2 a0_3 l0_4 l0_5))) else (impl_StateOk.j0 k true a0_0 l0_1 l0_2 a0_3 l0_4 l0_5))
def impl_StateOk.T6 : Bool × List (List Nat × List Nat) := (true, [([], []), ([0], [0]), ([1], [1]), ([2], [2]), ([3, 2], [3]), ([4], [4]), ([5, 4], [4, 5]), ([6, 4, 4], [4, 6]), ([7, 4], [4, 7]), ([4, 8], [4, 8]), ([9, 7], [9]), ([10], [10]), ([11, 10], [10, 11]), ([10], [10]), ([13, 10], [10, 13]), ([12, 14, 10, 10], [10, 12, 14]), ([15, 10], [10, 15]), ([10, 16], [10, 16]), ([17, 15], [17]), ([18], [18]), ([19, 18], [18, 19]), ([20, 18], [18, 20]), ([21, 18, 18], [18, 21]), ([22], [22]), ([22], [22]), ([24, 22], [22, 24]), ([23, 25, 22, 22], [22, 23, 25]), ([26, 22], [22, 26]), ([22, 27, 18], [18, 22, 27]), ([18, 28], [18, 28]), ([29, 26], [29]), ([30], [30]), ([31, 30], [30, 31]), ([32, 30, 30], [30, 32]), ([33], [33]), ([34, 33], [33, 34]), ([33], [33]), ([36, 33], [33, 36]), ([35, 37, 33], [33, 35, 37]), ([38, 33], [33, 38]), ([39, 33], [33, 39]), ([33], [33]), ([41, 33], [33, 41]), ([40, 42, 33, 33], [33, 40, 42]), ([43, 33], [33, 43]), ([33, 44, 30], [30, 33, 44]), ([30, 45], [30, 45])])
def impl_StateOk.B6 : List Nat := [0, 1, 3, 7, 15, 31, 63, 127, 255, 511, 1023, 2047, 4095, 2047, 10239, 32767, 65535, 131071, 262143, 524287, 1048575, 2097151, 4194303, 8388607, 8388607, 25165823, 67108863, 134217727, 268435455, 536870911, 1073741823, 2147483647, 4294967295, 8589934591, 17179869183, 34359738367, 17179869183, 85899345919, 274877906943, 549755813887, 1099511627775, 17179869183, 2216203124735, 8796093022207, 17592186044415, 35184372088831, 70368744177663]
theorem impl_StateOk.tab6 : rtab .any (opsOf Try.f18 6) = impl_StateOk.T6 := by kernel_rfl
theorem impl_StateOk.bits6 : waitsOk impl_StateOk.T6.2 impl_StateOk.B6 = true := by kernel_rfl
def impl_StateOk.T21 : Bool × List (List Nat × List Nat) := (true, [([], []), ([0], [0]), ([], []), ([2], [2]), ([1, 3], [1, 3]), ([4], [4]), ([5, 4], [5]), ([6], [6]), ([7, 6], [6, 7]), ([8, 6, 6], [6, 8]), ([9], [9]), ([10, 9], [9, 10]), ([9], [9]), ([12, 9], [9, 12]), ([11, 13, 9], [9, 11, 13]), ([14, 9], [9, 14]), ([15, 9], [9, 15]), ([9], [9]), ([17, 9], [9, 17]), ([16, 18, 9], [9, 16, 18]), ([9, 19, 6], [6, 9, 19]), ([6, 20], [6, 20])])
def impl_StateOk.B21 : List Nat := [0, 1, 0, 4, 15, 31, 63, 127, 255, 511, 1023, 2047, 1023, 5119, 16383, 32767, 65535, 1023, 132095, 524287, 1048575, 2097151]
theorem impl_StateOk.tab21 : rtab .any (opsOf Try.f18 21) = impl_StateOk.T21 := by kernel_rfl
theorem impl_StateOk.bits21 : waitsOk impl_StateOk.T21.2 impl_StateOk.B21 = true := by kernel_rfl
def impl_StateOk.T27 : Bool × List (List Nat × List Nat) := (true, [([], []), ([0], [0]), ([1], [1]), ([2], [2]), ([3, 2], [3]), ([4], [4]), ([5, 4], [4, 5]), ([6, 4, 4], [4, 6]), ([7, 4], [4, 7]), ([4, 8], [4, 8]), ([9, 7], [9]), ([10], [10]), ([11, 10], [10, 11]), ([12, 10], [10, 12]), ([13, 10, 10], [10, 13]), ([14, 10], [10, 14]), ([10, 15], [10, 15]), ([16, 14], [16]), ([17], [17]), ([18, 17], [17, 18]), ([19, 17], [17, 19]), ([17], [17]), ([21, 17], [17, 21]), ([20, 22, 17, 17], [17, 20, 22]), ([23, 17], [17, 23]), ([17, 24], [17, 24]), ([25, 23], [25]), ([26], [26]), ([27, 26], [26, 27]), ([28, 26, 26], [26, 28]), ([29], [29]), ([30, 29], [29, 30]), ([29], [29]), ([32, 29], [29, 32]), ([31, 33, 29], [29, 31, 33]), ([34, 29], [29, 34]), ([35, 29], [29, 35]), ([29], [29]), ([37, 29], [29, 37]), ([36, 38, 29], [29, 36, 38]), ([29, 39, 26], [26, 29, 39]), ([26, 40], [26, 40])])
def impl_StateOk.B27 : List Nat := [0, 1, 3, 7, 15, 31, 63, 127, 255, 511, 1023, 2047, 4095, 8191, 16383, 32767, 65535, 131071, 262143, 524287, 1048575, 262143, 2359295, 8388607, 16777215, 33554431, 67108863, 134217727, 268435455, 536870911, 1073741823, 2147483647, 1073741823, 5368709119, 17179869183, 34359738367, 68719476735, 1073741823, 138512695295, 549755813887, 1099511627775, 2199023255551]
theorem impl_StateOk.tab27 : rtab .any (opsOf Try.f18 27) = impl_StateOk.T27 := by kernel_rfl
theorem impl_StateOk.bits27 : waitsOk impl_StateOk.T27.2 impl_StateOk.B27 = true := by kernel_rfl
set_option maxHeartbeats 200000000 in
set_option maxRecDepth 100000 in
theorem impl_StateOk.calls (k : Nat) (a0_0 : Int) (A0_1 : Option Addr) (c0_1 : Nat) (l0_1 : List (S92)) (A0_2 : Option Addr) (c0_2 : Nat) (l0_2 : List (S94)) (a0_3 : Int) (A0_4 : Option Addr) (c0_4 : Nat) (l0_4 : List (S109)) (A0_5 : Option Addr) (c0_5 : Nat) (l0_5 : List (S75)) (r : Bool) (w : World) (hr0_1 : Kd.C k92 w A0_1 l0_1.length l0_1) (hc0_1 : l0_1.length ≤ c0_1) (hr0_2 : Kd.C k94 w A0_2 l0_2.length l0_2) (hc0_2 : l0_2.length ≤ c0_2) (hr0_4 : Kd.C k109 w A0_4 l0_4.length l0_4) (hc0_4 : l0_4.length ≤ c0_4) (hr0_5 : Kd.C k75 w A0_5 l0_5.length l0_5) (hc0_5 : l0_5.length ≤ c0_5) (h : impl_StateOk.f k a0_0 l0_1 l0_2 a0_3 l0_4 l0_5 = some r) :
  Calls Try.prog 18 #[.agg #[.int .i64 a0_0, .slice A0_1 l0_1.length c0_1, .slice A0_2 l0_2.length c0_2, .int .i64 a0_3, .slice A0_4 l0_4.length c0_4, .slice A0_5 l0_5.length c0_5]] w fun e w' => e = .returned (.bool r) ∧ Below w.heap.size w w' := by
 have hu35 := Try.underlying35
 have hu92 := Try.underlying92
 have hu94 := Try.underlying94
 have hu109 := Try.underlying109
 have hu75 := Try.underlying75
 have HR0_1 := Aside0.mk hr0_1
 have HC0_1 := Aside0.mk hc0_1
 clear hr0_1 hc0_1
 have HR0_2 := Aside0.mk hr0_2
 have HC0_2 := Aside0.mk hc0_2
 clear hr0_2 hc0_2
 have HR0_4 := Aside0.mk hr0_4
 have HC0_4 := Aside0.mk hc0_4
 clear hr0_4 hc0_4
 have HR0_5 := Aside0.mk hr0_5
 have HC0_5 := Aside0.mk hc0_5
 clear hr0_5 hc0_5
 have HB := Aside0.mk (Below.refl w.heap.size w)
 have H : ((impl_within.f a0_0 0 1000000).bind fun t243 => (if t243 = true then ((impl_within.f a0_3 0 a0_0).bind fun t244 => (if t244 = true then (if (l0_1.length : Int) > 20 then (impl_StateOk.j0 k true a0_0 l0_1 l0_2 a0_3 l0_4 l0_5) else (if (l0_2.length : Int) > 10 then (impl_StateOk.j0 k true a0_0 l0_1 l0_2 a0_3 l0_4 l0_5) else (if (l0_4.length : Int) > 8 then (impl_StateOk.j0 k true a0_0 l0_1 l0_2 a0_3 l0_4 l0_5) else (impl_StateOk.j0 k (decide ((l0_5.length : Int) > 4)) a0_0 l0_1 l0_2 a0_3 l0_4 l0_5)))) else (impl_StateOk.j0 k true a0_0 l0_1 l0_2 a0_3 l0_4 l0_5))) else (impl_StateOk.j0 k true a0_0 l0_1 l0_2 a0_3 l0_4 l0_5))) = some r := h
 clear h
 have HC2 := Aside0.mk H
 clear H
 go_enter Try.func18, Try.ntmps18
 go_upto_region 1 with (first | ((with_reducible refine gate_dst (N := 1) rfl ?_); (try (refine gate_guard (by rfl) ?_; dsimp only)); refine bx_ 1 #[.int .i64 a0_0, .slice A0_1 l0_1.length c0_1, .slice A0_2 l0_2.length c0_2, .int .i64 a0_3, .slice A0_4 l0_4.length c0_4, .slice A0_5 l0_5.length c0_5] 35 (h := ?_); intro gb242 hg w3 hbox hb; have BK242 := Aside0.mk (hbox); have GW242 := Aside0.mk ((by rw [hg]; exact (below_size bel) : w.heap.size ≤ gb242)); have GE242 := GW242; replace HB := Aside0.mk (below_step bel hb); clear hb hbox hg))
 (try simp only [Act.put, List.setIfInBounds_toArray, List.set_cons_zero, List.set_cons_succ])
 go_cut [49] (fun v49 wc => ∃ (kq : Nat) (x49_1 : Bool), v49 = .bool x49_1 ∧ Aside0 (impl_StateOk.j0 kq x49_1 a0_0 l0_1 l0_2 a0_3 l0_4 l0_5 = some r) ∧ Aside0 (kq ≤ k) ∧ Aside0 (wc.heap[gb242]? = some (.cells #[.int .i64 a0_0, (.slice A0_1 l0_1.length c0_1), (.slice A0_2 l0_2.length c0_2), .int .i64 a0_3, (.slice A0_4 l0_4.length c0_4), (.slice A0_5 l0_5.length c0_5)] 35 (0, 0))) ∧ Aside0 (Below w.heap.size w wc))
 case first => as_aux_lemma =>
  have H := HC2.out
  clear HC2
  replace H := Option.bind_eq_some_iff.mp H
  obtain ⟨t243, A40, H⟩ := H
  replace H : (if t243 = true then ((impl_within.f a0_3 0 a0_0).bind fun t244 => (if t244 = true then (if (l0_1.length : Int) > 20 then (impl_StateOk.j0 k true a0_0 l0_1 l0_2 a0_3 l0_4 l0_5) else (if (l0_2.length : Int) > 10 then (impl_StateOk.j0 k true a0_0 l0_1 l0_2 a0_3 l0_4 l0_5) else (if (l0_4.length : Int) > 8 then (impl_StateOk.j0 k true a0_0 l0_1 l0_2 a0_3 l0_4 l0_5) else (impl_StateOk.j0 k (decide ((l0_5.length : Int) > 4)) a0_0 l0_1 l0_2 a0_3 l0_4 l0_5)))) else (impl_StateOk.j0 k true a0_0 l0_1 l0_2 a0_3 l0_4 l0_5))) else (impl_StateOk.j0 k true a0_0 l0_1 l0_2 a0_3 l0_4 l0_5)) = some r := H
  have A4 := Aside0.mk A40
  clear A40
  by_cases c5 : t243 = true
  ·subst c5
   have H1 : ((impl_within.f a0_3 0 a0_0).bind fun t244 => (if t244 = true then (if (l0_1.length : Int) > 20 then (impl_StateOk.j0 k true a0_0 l0_1 l0_2 a0_3 l0_4 l0_5) else (if (l0_2.length : Int) > 10 then (impl_StateOk.j0 k true a0_0 l0_1 l0_2 a0_3 l0_4 l0_5) else (if (l0_4.length : Int) > 8 then (impl_StateOk.j0 k true a0_0 l0_1 l0_2 a0_3 l0_4 l0_5) else (impl_StateOk.j0 k (decide ((l0_5.length : Int) > 4)) a0_0 l0_1 l0_2 a0_3 l0_4 l0_5)))) else (impl_StateOk.j0 k true a0_0 l0_1 l0_2 a0_3 l0_4 l0_5))) = some r := by rw [if_pos rfl] at H; exact H
   clear H
   have H := H1
   clear H1
   replace H := Option.bind_eq_some_iff.mp H
   obtain ⟨t244, A60, H⟩ := H
   replace H : (if t244 = true then (if (l0_1.length : Int) > 20 then (impl_StateOk.j0 k true a0_0 l0_1 l0_2 a0_3 l0_4 l0_5) else (if (l0_2.length : Int) > 10 then (impl_StateOk.j0 k true a0_0 l0_1 l0_2 a0_3 l0_4 l0_5) else (if (l0_4.length : Int) > 8 then (impl_StateOk.j0 k true a0_0 l0_1 l0_2 a0_3 l0_4 l0_5) else (impl_StateOk.j0 k (decide ((l0_5.length : Int) > 4)) a0_0 l0_1 l0_2 a0_3 l0_4 l0_5)))) else (impl_StateOk.j0 k true a0_0 l0_1 l0_2 a0_3 l0_4 l0_5)) = some r := H
   have A6 := Aside0.mk A60
   clear A60
   by_cases c7 : t244 = true
   ·subst c7
    have H1 : (if (l0_1.length : Int) > 20 then (impl_StateOk.j0 k true a0_0 l0_1 l0_2 a0_3 l0_4 l0_5) else (if (l0_2.length : Int) > 10 then (impl_StateOk.j0 k true a0_0 l0_1 l0_2 a0_3 l0_4 l0_5) else (if (l0_4.length : Int) > 8 then (impl_StateOk.j0 k true a0_0 l0_1 l0_2 a0_3 l0_4 l0_5) else (impl_StateOk.j0 k (decide ((l0_5.length : Int) > 4)) a0_0 l0_1 l0_2 a0_3 l0_4 l0_5)))) = some r := by rw [if_pos rfl] at H; exact H
    clear H
    have H := H1
    clear H1
    by_cases c8 : (l0_1.length : Int) > 20
    ·rw [if_pos c8] at H
     have c8b0 : decide (20 < (l0_1.length : Int)) = true := decide_eq_true c8
     have c8b1 : decide (20 < l0_1.length) = true := decide_eq_true (by omega)
     clear c8
     (first | rw [c8b0] | (simp only [i64_w, i32_w]; rw [c8b0]) | skip)
     as_aux_lemma =>
      have H' := Aside0.mk H
      clear H
      obtain ⟨hcz9_0, hcz9_1, hcz9_2, hcz9_3, hcz9_4, hcz9_5, -⟩ := cells_6 BK242.out trivial
      obtain ⟨hfz9_0, hfz9_1, hfz9_2, hfz9_3, hfz9_4, hfz9_5, -⟩ := frz_6 BK242.out
      go_wp2_with (first | ((with_reducible refine gate_callee (f := 81) rfl ?_); refine gl_ (some 16) Try.func81 #[.int .i64 a0_0, .int .i64 0, .int .i64 1000000] (h := ?_); (with_reducible refine (impl_within.calls a0_0 0 1000000 true _ A4.out).mono ?_); rintro e w' ⟨rfl, ⟨nd, rfl⟩⟩; refine ⟨_, rfl, ?_⟩) | (go_at_call 81; (with_reducible refine (impl_within.calls a0_3 0 a0_0 true _ A6.out).mono ?_); rintro e w' ⟨rfl, ⟨nd, rfl⟩⟩))
      go_meet
      case rel => exact ⟨_, (true), rs_, H', ⟨by first | omega | exact Nat.le_refl _⟩, ⟨by (with_reducible repeat (first | refine blk_drewN ?_ _ | refine blk_drew ?_ | refine blk_alloc ?_ _)); exact BK242.out⟩, ⟨bel⟩⟩
    rw [if_neg c8] at H
    have c8b0 : decide (20 < (l0_1.length : Int)) = false := decide_eq_false c8
    have c8b1 : decide (20 < l0_1.length) = false := decide_eq_false (by omega)
    clear c8
    (first | rw [c8b0] | (simp only [i64_w, i32_w]; rw [c8b0]) | skip)
    by_cases c10 : (l0_2.length : Int) > 10
    ·rw [if_pos c10] at H
     have c10b0 : decide (10 < (l0_2.length : Int)) = true := decide_eq_true c10
     have c10b1 : decide (10 < l0_2.length) = true := decide_eq_true (by omega)
     clear c10
     as_aux_lemma =>
      have H' := Aside0.mk H
      clear H
      obtain ⟨hcz11_0, hcz11_1, hcz11_2, hcz11_3, hcz11_4, hcz11_5, -⟩ := cells_6 BK242.out trivial
      obtain ⟨hfz11_0, hfz11_1, hfz11_2, hfz11_3, hfz11_4, hfz11_5, -⟩ := frz_6 BK242.out
      go_wp2_with (first | ((with_reducible refine gate_callee (f := 81) rfl ?_); refine gl_ (some 16) Try.func81 #[.int .i64 a0_0, .int .i64 0, .int .i64 1000000] (h := ?_); (with_reducible refine (impl_within.calls a0_0 0 1000000 true _ A4.out).mono ?_); rintro e w' ⟨rfl, ⟨nd, rfl⟩⟩; refine ⟨_, rfl, ?_⟩) | (go_at_call 81; (with_reducible refine (impl_within.calls a0_3 0 a0_0 true _ A6.out).mono ?_); rintro e w' ⟨rfl, ⟨nd, rfl⟩⟩))
      go_meet
      case rel => exact ⟨_, (true), rs_, H', ⟨by first | omega | exact Nat.le_refl _⟩, ⟨by (with_reducible repeat (first | refine blk_drewN ?_ _ | refine blk_drew ?_ | refine blk_alloc ?_ _)); exact BK242.out⟩, ⟨bel⟩⟩
    rw [if_neg c10] at H
    have c10b0 : decide (10 < (l0_2.length : Int)) = false := decide_eq_false c10
    have c10b1 : decide (10 < l0_2.length) = false := decide_eq_false (by omega)
    clear c10
    by_cases c12 : (l0_4.length : Int) > 8
    ·rw [if_pos c12] at H
     have c12b0 : decide (8 < (l0_4.length : Int)) = true := decide_eq_true c12
     have c12b1 : decide (8 < l0_4.length) = true := decide_eq_true (by omega)
     clear c12
     as_aux_lemma =>
      have H' := Aside0.mk H
      clear H
      obtain ⟨hcz13_0, hcz13_1, hcz13_2, hcz13_3, hcz13_4, hcz13_5, -⟩ := cells_6 BK242.out trivial
      obtain ⟨hfz13_0, hfz13_1, hfz13_2, hfz13_3, hfz13_4, hfz13_5, -⟩ := frz_6 BK242.out
      go_wp2_with (first | ((with_reducible refine gate_callee (f := 81) rfl ?_); refine gl_ (some 16) Try.func81 #[.int .i64 a0_0, .int .i64 0, .int .i64 1000000] (h := ?_); (with_reducible refine (impl_within.calls a0_0 0 1000000 true _ A4.out).mono ?_); rintro e w' ⟨rfl, ⟨nd, rfl⟩⟩; refine ⟨_, rfl, ?_⟩) | (go_at_call 81; (with_reducible refine (impl_within.calls a0_3 0 a0_0 true _ A6.out).mono ?_); rintro e w' ⟨rfl, ⟨nd, rfl⟩⟩))
      go_meet
      case rel => exact ⟨_, (true), rs_, H', ⟨by first | omega | exact Nat.le_refl _⟩, ⟨by (with_reducible repeat (first | refine blk_drewN ?_ _ | refine blk_drew ?_ | refine blk_alloc ?_ _)); exact BK242.out⟩, ⟨bel⟩⟩
    rw [if_neg c12] at H
    have c12b0 : decide (8 < (l0_4.length : Int)) = false := decide_eq_false c12
    have c12b1 : decide (8 < l0_4.length) = false := decide_eq_false (by omega)
    clear c12
    as_aux_lemma =>
     have H' := Aside0.mk H
     clear H
     obtain ⟨hcz14_0, hcz14_1, hcz14_2, hcz14_3, hcz14_4, hcz14_5, -⟩ := cells_6 BK242.out trivial
     obtain ⟨hfz14_0, hfz14_1, hfz14_2, hfz14_3, hfz14_4, hfz14_5, -⟩ := frz_6 BK242.out
     go_wp2_with (first | ((with_reducible refine gate_callee (f := 81) rfl ?_); refine gl_ (some 16) Try.func81 #[.int .i64 a0_0, .int .i64 0, .int .i64 1000000] (h := ?_); (with_reducible refine (impl_within.calls a0_0 0 1000000 true _ A4.out).mono ?_); rintro e w' ⟨rfl, ⟨nd, rfl⟩⟩; refine ⟨_, rfl, ?_⟩) | (go_at_call 81; (with_reducible refine (impl_within.calls a0_3 0 a0_0 true _ A6.out).mono ?_); rintro e w' ⟨rfl, ⟨nd, rfl⟩⟩))
     go_meet
     case rel => exact ⟨_, (decide ((l0_5.length : Int) > 4)), rs_, H', ⟨by first | omega | exact Nat.le_refl _⟩, ⟨by (with_reducible repeat (first | refine blk_drewN ?_ _ | refine blk_drew ?_ | refine blk_alloc ?_ _)); exact BK242.out⟩, ⟨bel⟩⟩
   replace c7 := Bool.eq_false_iff.mpr c7
   subst c7
   have H1 : (impl_StateOk.j0 k true a0_0 l0_1 l0_2 a0_3 l0_4 l0_5) = some r := by rw [if_neg (show ¬ (false = true) by decide)] at H; exact H
   clear H
   have H := H1
   clear H1
   as_aux_lemma =>
    have H' := Aside0.mk H
    clear H
    obtain ⟨hcz15_0, hcz15_1, hcz15_2, hcz15_3, hcz15_4, hcz15_5, -⟩ := cells_6 BK242.out trivial
    obtain ⟨hfz15_0, hfz15_1, hfz15_2, hfz15_3, hfz15_4, hfz15_5, -⟩ := frz_6 BK242.out
    go_wp2_with (first | ((with_reducible refine gate_callee (f := 81) rfl ?_); refine gl_ (some 16) Try.func81 #[.int .i64 a0_0, .int .i64 0, .int .i64 1000000] (h := ?_); (with_reducible refine (impl_within.calls a0_0 0 1000000 true _ A4.out).mono ?_); rintro e w' ⟨rfl, ⟨nd, rfl⟩⟩; refine ⟨_, rfl, ?_⟩) | (go_at_call 81; (with_reducible refine (impl_within.calls a0_3 0 a0_0 false _ A6.out).mono ?_); rintro e w' ⟨rfl, ⟨nd, rfl⟩⟩))
    go_meet
    case rel => exact ⟨_, (true), rs_, H', ⟨by first | omega | exact Nat.le_refl _⟩, ⟨by (with_reducible repeat (first | refine blk_drewN ?_ _ | refine blk_drew ?_ | refine blk_alloc ?_ _)); exact BK242.out⟩, ⟨bel⟩⟩
  replace c5 := Bool.eq_false_iff.mpr c5
  subst c5
  have H1 : (impl_StateOk.j0 k true a0_0 l0_1 l0_2 a0_3 l0_4 l0_5) = some r := by rw [if_neg (show ¬ (false = true) by decide)] at H; exact H
  clear H
  have H := H1
  clear H1
  as_aux_lemma =>
   have H' := Aside0.mk H
   clear H
   obtain ⟨hcz16_0, hcz16_1, hcz16_2, hcz16_3, hcz16_4, hcz16_5, -⟩ := cells_6 BK242.out trivial
   obtain ⟨hfz16_0, hfz16_1, hfz16_2, hfz16_3, hfz16_4, hfz16_5, -⟩ := frz_6 BK242.out
   go_wp2_with (first | ((with_reducible refine gate_callee (f := 81) rfl ?_); refine gl_ (some 16) Try.func81 #[.int .i64 a0_0, .int .i64 0, .int .i64 1000000] (h := ?_); (with_reducible refine (impl_within.calls a0_0 0 1000000 false _ A4.out).mono ?_); rintro e w' ⟨rfl, ⟨nd, rfl⟩⟩; refine ⟨_, rfl, ?_⟩))
   go_meet
   case rel => exact ⟨_, (true), rs_, H', ⟨by first | omega | exact Nat.le_refl _⟩, ⟨by (with_reducible repeat (first | refine blk_drewN ?_ _ | refine blk_drew ?_ | refine blk_alloc ?_ _)); exact BK242.out⟩, ⟨bel⟩⟩
 case rest => as_aux_lemma =>
  clear HC2
  try clear c1; try clear p2; try clear c5; try clear c7; try clear c8; try clear c8b0; try clear c8b1; try clear c10; try clear c10b0; try clear c10b1; try clear c12; try clear c12b0; try clear c12b1; try clear hcz11_0; try clear hcz11_1; try clear hcz11_2; try clear hcz11_3; try clear hcz11_4; try clear hcz11_5; try clear hcz13_0; try clear hcz13_1; try clear hcz13_2; try clear hcz13_3; try clear hcz13_4; try clear hcz13_5; try clear hcz14_0; try clear hcz14_1; try clear hcz14_2; try clear hcz14_3; try clear hcz14_4; try clear hcz14_5; try clear hcz15_0; try clear hcz15_1; try clear hcz15_2; try clear hcz15_3; try clear hcz15_4; try clear hcz15_5; try clear hcz16_0; try clear hcz16_1; try clear hcz16_2; try clear hcz16_3; try clear hcz16_4; try clear hcz16_5; try clear hcz9_0; try clear hcz9_1; try clear hcz9_2; try clear hcz9_3; try clear hcz9_4; try clear hcz9_5; try clear hfz11_0; try clear hfz11_1; try clear hfz11_2; try clear hfz11_3; try clear hfz11_4; try clear hfz11_5; try clear hfz13_0; try clear hfz13_1; try clear hfz13_2; try clear hfz13_3; try clear hfz13_4; try clear hfz13_5; try clear hfz14_0; try clear hfz14_1; try clear hfz14_2; try clear hfz14_3; try clear hfz14_4; try clear hfz14_5; try clear hfz15_0; try clear hfz15_1; try clear hfz15_2; try clear hfz15_3; try clear hfz15_4; try clear hfz15_5; try clear hfz16_0; try clear hfz16_1; try clear hfz16_2; try clear hfz16_3; try clear hfz16_4; try clear hfz16_5; try clear hfz9_0; try clear hfz9_1; try clear hfz9_2; try clear hfz9_3; try clear hfz9_4; try clear hfz9_5
  obtain ⟨kq, x49_1, rfl, HA, HJ1, BK242, HB⟩ := hcut
  cases kq with
  | zero => exact absurd HA.out (by simp [impl_StateOk.j0])
  | succ kj1 =>
   have H := HA.out
   clear HA
   simp only [impl_StateOk.j0] at H
   by_cases c17 : x49_1 = true
   ·subst c17
    have H1 : (some false) = some r := by rw [if_pos rfl] at H; exact H
    clear H
    have H := H1
    clear H1
    as_aux_lemma =>
     obtain rfl := Option.some.inj H
     go_wp2
     go_ret
     exact ⟨rz_, bel⟩
   replace c17 := Bool.eq_false_iff.mpr c17
   subst c17
   have H1 : (impl_StateOk.l0 kj1 l0_1 (l0_1.length : Int) 0 a0_0 l0_1 l0_2 a0_3 l0_4 l0_5) = some r := by rw [if_neg (show ¬ (false = true) by decide)] at H; exact H
   clear H
   have H := H1
   clear H1
   have H' := Aside0.mk H
   clear H
   obtain ⟨hcz18_0, hcz18_1, hcz18_2, hcz18_3, hcz18_4, hcz18_5, -⟩ := cells_6 BK242.out trivial
   obtain ⟨hfz18_0, hfz18_1, hfz18_2, hfz18_3, hfz18_4, hfz18_5, -⟩ := frz_6 BK242.out
   go_wp2
   go_loopg [53] kj1 (fun kq v53 w' => ∃ (x53_2 : Int), v53 = .int .i64 x53_2 ∧ Aside0 (impl_StateOk.l0 kq l0_1 (l0_1.length : Int) x53_2 a0_0 l0_1 l0_2 a0_3 l0_4 l0_5 = some r) ∧ Aside0 (kq ≤ kj1) ∧ Aside0 (w'.heap[gb242]? = some (.cells #[.int .i64 a0_0, (.slice A0_1 l0_1.length c0_1), (.slice A0_2 l0_2.length c0_2), .int .i64 a0_3, (.slice A0_4 l0_4.length c0_4), (.slice A0_5 l0_5.length c0_5)] 35 (0, 0))) ∧ Aside0 (Below w.heap.size w w'))
   case atStart => exact ⟨(0), rs_, H', ⟨Nat.le_refl _⟩, ⟨by (with_reducible repeat (first | refine blk_drewN ?_ _ | refine blk_drew ?_ | refine blk_alloc ?_ _)); exact BK242.out⟩, ⟨bel⟩⟩
   case round => as_aux_lemma =>
    clear H'
    try clear c1; try clear p2; try clear c5; try clear c7; try clear c8; try clear c8b0; try clear c8b1; try clear c10; try clear c10b0; try clear c10b1; try clear c12; try clear c12b0; try clear c12b1; try clear c17; try clear c18; try clear hcz11_0; try clear hcz11_1; try clear hcz11_2; try clear hcz11_3; try clear hcz11_4; try clear hcz11_5; try clear hcz13_0; try clear hcz13_1; try clear hcz13_2; try clear hcz13_3; try clear hcz13_4; try clear hcz13_5; try clear hcz14_0; try clear hcz14_1; try clear hcz14_2; try clear hcz14_3; try clear hcz14_4; try clear hcz14_5; try clear hcz15_0; try clear hcz15_1; try clear hcz15_2; try clear hcz15_3; try clear hcz15_4; try clear hcz15_5; try clear hcz16_0; try clear hcz16_1; try clear hcz16_2; try clear hcz16_3; try clear hcz16_4; try clear hcz16_5; try clear hcz18_0; try clear hcz18_1; try clear hcz18_2; try clear hcz18_3; try clear hcz18_4; try clear hcz18_5; try clear hcz9_0; try clear hcz9_1; try clear hcz9_2; try clear hcz9_3; try clear hcz9_4; try clear hcz9_5; try clear hfz11_0; try clear hfz11_1; try clear hfz11_2; try clear hfz11_3; try clear hfz11_4; try clear hfz11_5; try clear hfz13_0; try clear hfz13_1; try clear hfz13_2; try clear hfz13_3; try clear hfz13_4; try clear hfz13_5; try clear hfz14_0; try clear hfz14_1; try clear hfz14_2; try clear hfz14_3; try clear hfz14_4; try clear hfz14_5; try clear hfz15_0; try clear hfz15_1; try clear hfz15_2; try clear hfz15_3; try clear hfz15_4; try clear hfz15_5; try clear hfz16_0; try clear hfz16_1; try clear hfz16_2; try clear hfz16_3; try clear hfz16_4; try clear hfz16_5; try clear hfz18_0; try clear hfz18_1; try clear hfz18_2; try clear hfz18_3; try clear hfz18_4; try clear hfz18_5; try clear hfz9_0; try clear hfz9_1; try clear hfz9_2; try clear hfz9_3; try clear hfz9_4; try clear hfz9_5; try clear p2
    obtain ⟨x53_2, rfl, HA, HK2, BK242, HB⟩ := hrel
    cases gk with
    | zero => exact absurd HA.out (by simp [impl_StateOk.l0])
    | succ k2 =>
     have H := HA.out
     clear HA
     simp only [impl_StateOk.l0] at H
     by_cases c19 : x53_2 < (l0_1.length : Int)
     ·rw [if_pos c19] at H
      have c19b0 : decide (x53_2 < (l0_1.length : Int)) = true := decide_eq_true c19
      clear c19
      by_cases c20 : 0 ≤ x53_2
      ·rw [if_pos c20] at H
       have c20b0 : decide (0 ≤ x53_2) = true := decide_eq_true c20
       clear c20
       by_cases c21 : x53_2 < (l0_1.length : Int)
       ·rw [if_pos c21] at H
        have c21b0 : decide (x53_2 < (l0_1.length : Int)) = true := decide_eq_true c21
        clear c21
        replace H := Option.bind_eq_some_iff.mp H
        obtain ⟨t247, A220, H⟩ := H
        replace H : (if t247 = true then ((impl_isValue.f ((rd_T92 l0_1 x53_2).f1)).bind fun t248 => (if t248 = true then ((impl_within.f ((rd_T92 l0_1 x53_2).f2) 1 a0_0).bind fun t249 => (if t249 = true then (if ((rd_T92 l0_1 x53_2).f3) = 0 then (if x53_2 > 0 then (if 0 ≤ (wrap64 (x53_2 - 1)) then (if (wrap64 (x53_2 - 1)) < (l0_1.length : Int) then ((bytes_Compare.f ((rd_T92 l0_1 (wrap64 (x53_2 - 1))).f0) ((rd_T92 l0_1 x53_2).f0)).bind fun t251 => (if t251 ≥ 0 then (some false) else (impl_StateOk.l0 k2 l0_1 (l0_1.length : Int) (wrap64 (x53_2 + 1)) a0_0 l0_1 l0_2 a0_3 l0_4 l0_5))) else (none)) else (none)) else (impl_StateOk.l0 k2 l0_1 (l0_1.length : Int) (wrap64 (x53_2 + 1)) a0_0 l0_1 l0_2 a0_3 l0_4 l0_5)) else ((impl_State_session.f a0_0 l0_1 l0_2 a0_3 l0_4 l0_5 ((rd_T92 l0_1 x53_2).f3)).bind fun t252 => (if t252 < 0 then (some false) else (if x53_2 > 0 then (if 0 ≤ (wrap64 (x53_2 - 1)) then (if (wrap64 (x53_2 - 1)) < (l0_1.length : Int) then ((bytes_Compare.f ((rd_T92 l0_1 (wrap64 (x53_2 - 1))).f0) ((rd_T92 l0_1 x53_2).f0)).bind fun t254 => (if t254 ≥ 0 then (some false) else (impl_StateOk.l0 k2 l0_1 (l0_1.length : Int) (wrap64 (x53_2 + 1)) a0_0 l0_1 l0_2 a0_3 l0_4 l0_5))) else (none)) else (none)) else (impl_StateOk.l0 k2 l0_1 (l0_1.length : Int) (wrap64 (x53_2 + 1)) a0_0 l0_1 l0_2 a0_3 l0_4 l0_5))))) else (some false))) else (some false))) else (some false)) = some r := H
        have A22 := Aside0.mk A220
        clear A220
        have p245 : 0 ≤ (x53_2 : Int) := od
        have q245 : x53_2 < (l0_1.length : Int) := od
        obtain ⟨ad245, A245_0, c245_0, A245_1, c245_1, e245, hx245_0, hx245_1, hx245_2, hx245_3, hl245_0, hi245_0, hl245_1, hi245_1⟩ := at_T92 HR0_1.out x53_2 p245 q245
        cases e245
        replace hx245_0 := hxb HB hx245_0
        replace hx245_1 := hxb HB hx245_1
        replace hx245_2 := hxb HB hx245_2
        replace hx245_3 := hxb HB hx245_3
        have HR245_0 := Aside0.mk hi245_0
        have HC245_0 := Aside0.mk hl245_0
        clear hi245_0 hl245_0
        have HR245_1 := Aside0.mk hi245_1
        have HC245_1 := Aside0.mk hl245_1
        clear hi245_1 hl245_1
        replace p245 := eq_true p245
        replace q245 := eq_true q245
        try go_wp2_with (first | ((with_reducible refine gate_dst (N := 4) rfl ?_); (try (refine gate_guard (by rfl) ?_; dsimp only)); refine bx_ 4 #[.slice none 0 0, .slice none 0 0, .int .i64 0, .int .i64 0] 92 (h := ?_); intro gb246 hg wv1 hbox hb; have BK246 := Aside0.mk (hbox); have GW246 := Aside0.mk ((by rw [hg]; exact (below_size bel) : w.heap.size ≤ gb246)); have GE246 := GW246; have NB242_246 := Aside0.mk ((by rw [hg]; exact Nat.ne_of_lt (blt BK242) : gb242 ≠ gb246)); have NB246_242 := Aside0.mk NB242_246.out.symm; replace BK242 := Aside0.mk (blb BK242 hb); replace HB := Aside0.mk (below_step bel hb); clear hb hbox hg; have hnbv1 := NB246_242.out; have hncv2 := NB242_246.out; obtain ⟨hczv3_0, hczv3_1, hczv3_2, hczv3_3, -⟩ := cells_4 BK246.out trivial; obtain ⟨hfzv4_0, hfzv4_1, hfzv4_2, hfzv4_3, -⟩ := frz_4 BK246.out))
        refine put4_ BK246.out ?_
        intro wv2 hp_ hf_ hb_
        replace BK242 := Aside0.mk ((hf_ _ NB242_246.out).trans BK242.out)
        replace HB := Aside0.mk (hb_ _ HB.out GE246.out)
        replace BK246 := Aside0.mk hp_
        clear hp_ hf_ hb_
        replace BK242 := Aside0.mk (blk_drew BK242.out)
        replace BK246 := Aside0.mk (blk_drew BK246.out)
        replace HB := Aside0.mk (below_drew1 HB.out)
        refine start_ (n := 47) (S := fun w' => w'.cell? ⟨gb246, 0, none⟩ = some (.slice A245_0 ((rd_T92 l0_1 x53_2).f0).length c245_0) ∧ w'.cell? ⟨gb246, 1, none⟩ = some (.slice A245_1 ((rd_T92 l0_1 x53_2).f1).length c245_1) ∧ w'.cell? ⟨gb246, 2, none⟩ = some (.int .i64 ((rd_T92 l0_1 x53_2).f2)) ∧ w'.cell? ⟨gb246, 3, none⟩ = some (.int .i64 ((rd_T92 l0_1 x53_2).f3)) ∧ w'.cell? ⟨gb242, 0, none⟩ = some (.int .i64 a0_0) ∧ w'.cell? ⟨gb242, 1, none⟩ = some (.slice (some ad245) l0_1.length c0_1) ∧ w'.cell? ⟨gb242, 2, none⟩ = some (.slice A0_2 l0_2.length c0_2) ∧ w'.cell? ⟨gb242, 3, none⟩ = some (.int .i64 a0_3) ∧ w'.cell? ⟨gb242, 4, none⟩ = some (.slice A0_4 l0_4.length c0_4) ∧ w'.cell? ⟨gb242, 5, none⟩ = some (.slice A0_5 l0_5.length c0_5)) (ds := []) (tf 0 47) (by kernel_rfl) rfl rfl (cells_4 BK246.out (cellz_6 BK242.out)) (fun hHeld => ?_); refine with_tabW impl_StateOk.tab6 impl_StateOk.bits6 (fun HT_ HW_ => ?_)
        generalize wv2.drew = wv3 at BK242 BK246 HB hHeld ⊢
        refine pvn_ HT_ (h := ?_)
        refine tvn_ HT_ HW_ hHeld (h := ?_)
        refine one_ (i := 2) (N := some 60) (tf 3 44) rfl rfl (one_of HT_.out (by kernel_rfl)) (by decide) (fun K hK => ?_)
        refine gs_ Try.func47 #[.slice A245_0 ((rd_T92 l0_1 x53_2).f0).length c245_0] (h := ?_)
        with_reducible refine (impl_KeyOk.calls k2 _ _ ((rd_T92 l0_1 x53_2).f0) t247 _ ?side1 ?side2 A22.out).mono ?_
        (case side1 => exact kcb)
        (case side2 => exact HC245_0.out)
        rintro e w' ⟨rfl, ⟨nd, rfl⟩⟩
        refine ⟨_, rfl, ?_⟩
        refine hK.out _ _ (cells_4 BK246.out (cellz_6 BK242.out)) (fun hHeld => ?_)
        clear hK K
        refine nrm_ (some 60) (h := ?_)
        by_cases c23 : t247 = true
        ·subst c23
         have H1 : ((impl_isValue.f ((rd_T92 l0_1 x53_2).f1)).bind fun t248 => (if t248 = true then ((impl_within.f ((rd_T92 l0_1 x53_2).f2) 1 a0_0).bind fun t249 => (if t249 = true then (if ((rd_T92 l0_1 x53_2).f3) = 0 then (if x53_2 > 0 then (if 0 ≤ (wrap64 (x53_2 - 1)) then (if (wrap64 (x53_2 - 1)) < (l0_1.length : Int) then ((bytes_Compare.f ((rd_T92 l0_1 (wrap64 (x53_2 - 1))).f0) ((rd_T92 l0_1 x53_2).f0)).bind fun t251 => (if t251 ≥ 0 then (some false) else (impl_StateOk.l0 k2 l0_1 (l0_1.length : Int) (wrap64 (x53_2 + 1)) a0_0 l0_1 l0_2 a0_3 l0_4 l0_5))) else (none)) else (none)) else (impl_StateOk.l0 k2 l0_1 (l0_1.length : Int) (wrap64 (x53_2 + 1)) a0_0 l0_1 l0_2 a0_3 l0_4 l0_5)) else ((impl_State_session.f a0_0 l0_1 l0_2 a0_3 l0_4 l0_5 ((rd_T92 l0_1 x53_2).f3)).bind fun t252 => (if t252 < 0 then (some false) else (if x53_2 > 0 then (if 0 ≤ (wrap64 (x53_2 - 1)) then (if (wrap64 (x53_2 - 1)) < (l0_1.length : Int) then ((bytes_Compare.f ((rd_T92 l0_1 (wrap64 (x53_2 - 1))).f0) ((rd_T92 l0_1 x53_2).f0)).bind fun t254 => (if t254 ≥ 0 then (some false) else (impl_StateOk.l0 k2 l0_1 (l0_1.length : Int) (wrap64 (x53_2 + 1)) a0_0 l0_1 l0_2 a0_3 l0_4 l0_5))) else (none)) else (none)) else (impl_StateOk.l0 k2 l0_1 (l0_1.length : Int) (wrap64 (x53_2 + 1)) a0_0 l0_1 l0_2 a0_3 l0_4 l0_5))))) else (some false))) else (some false))) = some r := by rw [if_pos rfl] at H; exact H
         clear H
         have H := H1
         clear H1
         replace H := Option.bind_eq_some_iff.mp H
         obtain ⟨t248, A240, H⟩ := H
         replace H : (if t248 = true then ((impl_within.f ((rd_T92 l0_1 x53_2).f2) 1 a0_0).bind fun t249 => (if t249 = true then (if ((rd_T92 l0_1 x53_2).f3) = 0 then (if x53_2 > 0 then (if 0 ≤ (wrap64 (x53_2 - 1)) then (if (wrap64 (x53_2 - 1)) < (l0_1.length : Int) then ((bytes_Compare.f ((rd_T92 l0_1 (wrap64 (x53_2 - 1))).f0) ((rd_T92 l0_1 x53_2).f0)).bind fun t251 => (if t251 ≥ 0 then (some false) else (impl_StateOk.l0 k2 l0_1 (l0_1.length : Int) (wrap64 (x53_2 + 1)) a0_0 l0_1 l0_2 a0_3 l0_4 l0_5))) else (none)) else (none)) else (impl_StateOk.l0 k2 l0_1 (l0_1.length : Int) (wrap64 (x53_2 + 1)) a0_0 l0_1 l0_2 a0_3 l0_4 l0_5)) else ((impl_State_session.f a0_0 l0_1 l0_2 a0_3 l0_4 l0_5 ((rd_T92 l0_1 x53_2).f3)).bind fun t252 => (if t252 < 0 then (some false) else (if x53_2 > 0 then (if 0 ≤ (wrap64 (x53_2 - 1)) then (if (wrap64 (x53_2 - 1)) < (l0_1.length : Int) then ((bytes_Compare.f ((rd_T92 l0_1 (wrap64 (x53_2 - 1))).f0) ((rd_T92 l0_1 x53_2).f0)).bind fun t254 => (if t254 ≥ 0 then (some false) else (impl_StateOk.l0 k2 l0_1 (l0_1.length : Int) (wrap64 (x53_2 + 1)) a0_0 l0_1 l0_2 a0_3 l0_4 l0_5))) else (none)) else (none)) else (impl_StateOk.l0 k2 l0_1 (l0_1.length : Int) (wrap64 (x53_2 + 1)) a0_0 l0_1 l0_2 a0_3 l0_4 l0_5))))) else (some false))) else (some false)) = some r := H
         have A24 := Aside0.mk A240
         clear A240
         iterate 3 (refine pvn_ HT_ (h := ?_))
         refine tvn_ HT_ HW_ hHeld (h := ?_)
         refine one_ (i := 7) (N := some 65) (tf 8 39) rfl rfl (one_of HT_.out (by kernel_rfl)) (by decide) (fun K hK => ?_)
         refine gs_ Try.func82 #[.slice A245_1 ((rd_T92 l0_1 x53_2).f1).length c245_1] (h := ?_)
         with_reducible refine (impl_isValue.calls _ _ ((rd_T92 l0_1 x53_2).f1) t248 _ ?side1 ?side2 A24.out).mono ?_
         (case side1 => exact kcb)
         (case side2 => exact HC245_1.out)
         rintro e w' ⟨rfl, ⟨nd, rfl⟩⟩
         refine ⟨_, rfl, ?_⟩
         refine hK.out _ _ (cells_4 BK246.out (cellz_6 BK242.out)) (fun hHeld => ?_)
         clear hK K
         refine nrm_ (some 65) (h := ?_)
         by_cases c25 : t248 = true
         ·subst c25
          have H1 : ((impl_within.f ((rd_T92 l0_1 x53_2).f2) 1 a0_0).bind fun t249 => (if t249 = true then (if ((rd_T92 l0_1 x53_2).f3) = 0 then (if x53_2 > 0 then (if 0 ≤ (wrap64 (x53_2 - 1)) then (if (wrap64 (x53_2 - 1)) < (l0_1.length : Int) then ((bytes_Compare.f ((rd_T92 l0_1 (wrap64 (x53_2 - 1))).f0) ((rd_T92 l0_1 x53_2).f0)).bind fun t251 => (if t251 ≥ 0 then (some false) else (impl_StateOk.l0 k2 l0_1 (l0_1.length : Int) (wrap64 (x53_2 + 1)) a0_0 l0_1 l0_2 a0_3 l0_4 l0_5))) else (none)) else (none)) else (impl_StateOk.l0 k2 l0_1 (l0_1.length : Int) (wrap64 (x53_2 + 1)) a0_0 l0_1 l0_2 a0_3 l0_4 l0_5)) else ((impl_State_session.f a0_0 l0_1 l0_2 a0_3 l0_4 l0_5 ((rd_T92 l0_1 x53_2).f3)).bind fun t252 => (if t252 < 0 then (some false) else (if x53_2 > 0 then (if 0 ≤ (wrap64 (x53_2 - 1)) then (if (wrap64 (x53_2 - 1)) < (l0_1.length : Int) then ((bytes_Compare.f ((rd_T92 l0_1 (wrap64 (x53_2 - 1))).f0) ((rd_T92 l0_1 x53_2).f0)).bind fun t254 => (if t254 ≥ 0 then (some false) else (impl_StateOk.l0 k2 l0_1 (l0_1.length : Int) (wrap64 (x53_2 + 1)) a0_0 l0_1 l0_2 a0_3 l0_4 l0_5))) else (none)) else (none)) else (impl_StateOk.l0 k2 l0_1 (l0_1.length : Int) (wrap64 (x53_2 + 1)) a0_0 l0_1 l0_2 a0_3 l0_4 l0_5))))) else (some false))) = some r := by rw [if_pos rfl] at H; exact H
          clear H
          have H := H1
          clear H1
          replace H := Option.bind_eq_some_iff.mp H
          obtain ⟨t249, A260, H⟩ := H
          replace H : (if t249 = true then (if ((rd_T92 l0_1 x53_2).f3) = 0 then (if x53_2 > 0 then (if 0 ≤ (wrap64 (x53_2 - 1)) then (if (wrap64 (x53_2 - 1)) < (l0_1.length : Int) then ((bytes_Compare.f ((rd_T92 l0_1 (wrap64 (x53_2 - 1))).f0) ((rd_T92 l0_1 x53_2).f0)).bind fun t251 => (if t251 ≥ 0 then (some false) else (impl_StateOk.l0 k2 l0_1 (l0_1.length : Int) (wrap64 (x53_2 + 1)) a0_0 l0_1 l0_2 a0_3 l0_4 l0_5))) else (none)) else (none)) else (impl_StateOk.l0 k2 l0_1 (l0_1.length : Int) (wrap64 (x53_2 + 1)) a0_0 l0_1 l0_2 a0_3 l0_4 l0_5)) else ((impl_State_session.f a0_0 l0_1 l0_2 a0_3 l0_4 l0_5 ((rd_T92 l0_1 x53_2).f3)).bind fun t252 => (if t252 < 0 then (some false) else (if x53_2 > 0 then (if 0 ≤ (wrap64 (x53_2 - 1)) then (if (wrap64 (x53_2 - 1)) < (l0_1.length : Int) then ((bytes_Compare.f ((rd_T92 l0_1 (wrap64 (x53_2 - 1))).f0) ((rd_T92 l0_1 x53_2).f0)).bind fun t254 => (if t254 ≥ 0 then (some false) else (impl_StateOk.l0 k2 l0_1 (l0_1.length : Int) (wrap64 (x53_2 + 1)) a0_0 l0_1 l0_2 a0_3 l0_4 l0_5))) else (none)) else (none)) else (impl_StateOk.l0 k2 l0_1 (l0_1.length : Int) (wrap64 (x53_2 + 1)) a0_0 l0_1 l0_2 a0_3 l0_4 l0_5))))) else (some false)) = some r := H
          have A26 := Aside0.mk A260
          clear A260
          iterate 4 (refine pvn_ HT_ (h := ?_))
          refine pv_ HT_ 13 (some 71) (tb 47 12287) (h := ?_)
          refine tv_ HT_ HW_ hHeld 12 (some 70) (tf 14 33) (h := ?_)
          refine tvn_ HT_ HW_ hHeld (h := ?_)
          refine one_ (i := 15) (N := some 73) (tf 16 31) rfl rfl (one_of HT_.out (by kernel_rfl)) (by decide) (fun K hK => ?_)
          refine gs_ Try.func81 #[.int .i64 ((rd_T92 l0_1 x53_2).f2), .int .i64 1, .int .i64 a0_0] (h := ?_)
          with_reducible refine (impl_within.calls ((rd_T92 l0_1 x53_2).f2) 1 a0_0 t249 _ A26.out).mono ?_
          rintro e w' ⟨rfl, ⟨nd, rfl⟩⟩
          refine ⟨_, rfl, ?_⟩
          refine hK.out _ _ (cells_4 BK246.out (cellz_6 BK242.out)) (fun hHeld => ?_)
          clear hK K
          refine nrm_ (some 73) (h := ?_)
          by_cases c27 : t249 = true
          ·subst c27
           have H1 : (if ((rd_T92 l0_1 x53_2).f3) = 0 then (if x53_2 > 0 then (if 0 ≤ (wrap64 (x53_2 - 1)) then (if (wrap64 (x53_2 - 1)) < (l0_1.length : Int) then ((bytes_Compare.f ((rd_T92 l0_1 (wrap64 (x53_2 - 1))).f0) ((rd_T92 l0_1 x53_2).f0)).bind fun t251 => (if t251 ≥ 0 then (some false) else (impl_StateOk.l0 k2 l0_1 (l0_1.length : Int) (wrap64 (x53_2 + 1)) a0_0 l0_1 l0_2 a0_3 l0_4 l0_5))) else (none)) else (none)) else (impl_StateOk.l0 k2 l0_1 (l0_1.length : Int) (wrap64 (x53_2 + 1)) a0_0 l0_1 l0_2 a0_3 l0_4 l0_5)) else ((impl_State_session.f a0_0 l0_1 l0_2 a0_3 l0_4 l0_5 ((rd_T92 l0_1 x53_2).f3)).bind fun t252 => (if t252 < 0 then (some false) else (if x53_2 > 0 then (if 0 ≤ (wrap64 (x53_2 - 1)) then (if (wrap64 (x53_2 - 1)) < (l0_1.length : Int) then ((bytes_Compare.f ((rd_T92 l0_1 (wrap64 (x53_2 - 1))).f0) ((rd_T92 l0_1 x53_2).f0)).bind fun t254 => (if t254 ≥ 0 then (some false) else (impl_StateOk.l0 k2 l0_1 (l0_1.length : Int) (wrap64 (x53_2 + 1)) a0_0 l0_1 l0_2 a0_3 l0_4 l0_5))) else (none)) else (none)) else (impl_StateOk.l0 k2 l0_1 (l0_1.length : Int) (wrap64 (x53_2 + 1)) a0_0 l0_1 l0_2 a0_3 l0_4 l0_5))))) = some r := by rw [if_pos rfl] at H; exact H
           clear H
           have H := H1
           clear H1
           refine pvn_ HT_ (h := ?_)
           by_cases c28 : ((rd_T92 l0_1 x53_2).f3) = 0
           ·rw [if_pos c28] at H
            have c28b0 : (((rd_T92 l0_1 x53_2).f3) == 0) = true := beq_iff_eq.mpr c28
            have c28b1 : (((rd_T92 l0_1 x53_2).f3) != 0) = false := bne_eq_false_iff_eq.mpr c28
            clear c28
            iterate 3 (refine pvn_ HT_ (h := ?_))
            refine tvn_ HT_ HW_ hHeld (h := ?_)
            iterate 2 (refine pvn_ HT_ (h := ?_))
            refine puns_ HT_ 5 [some _, some _, some _, some _, some _] (h := ?_)
            by_cases c29 : x53_2 > 0
            ·rw [if_pos c29] at H
             have c29b0 : decide (0 < x53_2) = true := decide_eq_true c29
             clear c29
             obtain ⟨ji30, hji30⟩ : ∃ j_ : Int, (wrap64 (x53_2 - 1)) = j_ := ⟨_, rfl⟩
             replace H : (if 0 ≤ (ji30) then (if (ji30) < (l0_1.length : Int) then ((bytes_Compare.f ((rd_T92 l0_1 (ji30)).f0) ((rd_T92 l0_1 x53_2).f0)).bind fun t251 => (if t251 ≥ 0 then (some false) else (impl_StateOk.l0 k2 l0_1 (l0_1.length : Int) (wrap64 (x53_2 + 1)) a0_0 l0_1 l0_2 a0_3 l0_4 l0_5))) else (none)) else (none)) = some r := by first | (rw [hji30] at H; exact H) | (simp only [hji30] at H ⊢; exact H)
             (try rw [hji30] at A22)
             (try rw [hji30] at A24)
             (try rw [hji30] at A26)
             have hji30w : (IntKind.i64.wrap (x53_2 - 1)) = ji30 := (i64_w _).trans hji30
             by_cases c31 : 0 ≤ (ji30)
             ·rw [if_pos c31] at H
              have c31b0 : decide (0 ≤ (ji30)) = true := decide_eq_true c31
              clear c31
              by_cases c32 : (ji30) < (l0_1.length : Int)
              ·rw [if_pos c32] at H
               have c32b0 : decide ((ji30) < (l0_1.length : Int)) = true := decide_eq_true c32
               clear c32
               replace H := Option.bind_eq_some_iff.mp H
               obtain ⟨t251, A330, H⟩ := H
               replace H : (if t251 ≥ 0 then (some false) else (impl_StateOk.l0 k2 l0_1 (l0_1.length : Int) (wrap64 (x53_2 + 1)) a0_0 l0_1 l0_2 a0_3 l0_4 l0_5)) = some r := H
               have A33 := Aside0.mk A330
               clear A330
               have p250 : 0 ≤ ((ji30) : Int) := od
               have q250 : (ji30) < (l0_1.length : Int) := od
               obtain ⟨ad250, A250_0, c250_0, A250_1, c250_1, e250, hx250_0, hx250_1, hx250_2, hx250_3, hl250_0, hi250_0, hl250_1, hi250_1⟩ := at_T92 HR0_1.out (ji30) p250 q250
               have hw250_3 := hx250_3
               have hw250_2 := hx250_2
               have hw250_1 := hx250_1
               have hw250_0 := hx250_0
               obtain rfl : ad245 = ad250 := (by injection e250)
               replace hx250_0 := hxb HB hx250_0
               replace hx250_1 := hxb HB hx250_1
               replace hx250_2 := hxb HB hx250_2
               replace hx250_3 := hxb HB hx250_3
               have HR250_0 := Aside0.mk hi250_0
               have HC250_0 := Aside0.mk hl250_0
               clear hi250_0 hl250_0
               have HR250_1 := Aside0.mk hi250_1
               have HC250_1 := Aside0.mk hl250_1
               clear hi250_1 hl250_1
               replace p250 := eq_true p250
               replace q250 := eq_true q250
               refine widen_ (S' := fun w' => w'.cell? ⟨gb246, 0, none⟩ = some (.slice A245_0 ((rd_T92 l0_1 x53_2).f0).length c245_0) ∧ w'.cell? ⟨gb246, 1, none⟩ = some (.slice A245_1 ((rd_T92 l0_1 x53_2).f1).length c245_1) ∧ w'.cell? ⟨gb246, 2, none⟩ = some (.int .i64 ((rd_T92 l0_1 x53_2).f2)) ∧ w'.cell? ⟨gb246, 3, none⟩ = some (.int .i64 ((rd_T92 l0_1 x53_2).f3)) ∧ w'.cell? ⟨gb242, 0, none⟩ = some (.int .i64 a0_0) ∧ w'.cell? ⟨gb242, 1, none⟩ = some (.slice (some ad245) l0_1.length c0_1) ∧ w'.cell? ⟨gb242, 2, none⟩ = some (.slice A0_2 l0_2.length c0_2) ∧ w'.cell? ⟨gb242, 3, none⟩ = some (.int .i64 a0_3) ∧ w'.cell? ⟨gb242, 4, none⟩ = some (.slice A0_4 l0_4.length c0_4) ∧ w'.cell? ⟨gb242, 5, none⟩ = some (.slice A0_5 l0_5.length c0_5) ∧ w'.cell? (ad245.add (((ji30)).toNat * 4)) = some (.slice A250_0 ((rd_T92 l0_1 (ji30)).f0).length c250_0) ∧ w'.cell? ⟨(ad245.add (((ji30)).toNat * 4)).block, (ad245.add (((ji30)).toNat * 4)).off + 1, none⟩ = some (.slice A250_1 ((rd_T92 l0_1 (ji30)).f1).length c250_1) ∧ w'.cell? ⟨(ad245.add (((ji30)).toNat * 4)).block, (ad245.add (((ji30)).toNat * 4)).off + 2, none⟩ = some (.int .i64 ((rd_T92 l0_1 (ji30)).f2)) ∧ w'.cell? ⟨(ad245.add (((ji30)).toNat * 4)).block, (ad245.add (((ji30)).toNat * 4)).off + 3, none⟩ = some (.int .i64 ((rd_T92 l0_1 (ji30)).f3))) (fun _ h_ => ⟨h_.1, h_.2.1, h_.2.2.1, h_.2.2.2.1, h_.2.2.2.2.1, h_.2.2.2.2.2.1, h_.2.2.2.2.2.2.1, h_.2.2.2.2.2.2.2.1, h_.2.2.2.2.2.2.2.2.1, h_.2.2.2.2.2.2.2.2.2.1⟩) (cells_4 BK246.out (cells_6 BK242.out ⟨(hxb HB hw250_0 :), (hxb HB hw250_1 :), (hxb HB hw250_2 :), (hxb HB hw250_3 :)⟩)) (h := ?_)
               clear hHeld; intro hHeld
               iterate 7 (refine pvn_ HT_ (h := ?_))
               refine pv_ HT_ 36 (some 94) (tb 47 103079215103) (h := ?_)
               refine pv_ HT_ 37 (some 95) (tb 47 240518168575) (h := ?_)
               refine pv_ HT_ 41 (some 99) (tb 47 2439541424127) (h := ?_)
               refine tv_ HT_ HW_ hHeld 35 (some 93) (tb 47 2473901162495) (h := ?_)
               refine pv_ HT_ 38 (some 96) (tb 47 2748779069439) (h := ?_)
               refine pv_ HT_ 39 (some 97) (tb 47 3298534883327) (h := ?_)
               refine tv_ HT_ HW_ hHeld 40 (some 98) (tf 42 5) (h := ?_)
               refine tvn_ HT_ HW_ hHeld (h := ?_)
               refine one_ (i := 43) (N := some 101) (tf 44 3) rfl rfl (one_of HT_.out (by kernel_rfl)) (by decide) (fun K hK => ?_)
               refine goes_ Try.func84 (by kernel_rfl) rfl #[.slice A250_0 ((rd_T92 l0_1 (ji30)).f0).length c250_0, .slice A245_0 ((rd_T92 l0_1 x53_2).f0).length c245_0] (by rfl) rfl rfl (by (try simp only [List.map_toArray, List.map_cons, List.map_nil]); first | done | (simp only [hji30]; rfl) | rfl | (simp only [List.length_drop, List.length_take]; rfl)) ?_
               with_reducible refine (bytes_Compare.calls _ _ ((rd_T92 l0_1 (ji30)).f0) _ _ ((rd_T92 l0_1 x53_2).f0) t251 _ ?side1 ?side2 ?side3 ?side4 A33.out).mono ?_
               (case side1 => exact kcb)
               (case side2 => exact HC250_0.out)
               (case side3 => exact kcb)
               (case side4 => exact HC245_0.out)
               rintro e w' ⟨rfl, ⟨nd, rfl⟩⟩
               refine ⟨_, rfl, ?_⟩
               refine hK.out _ _ (cells_4 BK246.out (cells_6 BK242.out ⟨(hxb HB hw250_0 :), (hxb HB hw250_1 :), (hxb HB hw250_2 :), (hxb HB hw250_3 :)⟩)) (fun hHeld => ?_)
               clear hK K
               refine nrm_ (some 101) (h := ?_)
               by_cases c34 : t251 ≥ 0
               ·rw [if_pos c34] at H
                have c34b0 : decide (0 ≤ t251) = true := decide_eq_true c34
                clear c34
                obtain rfl := Option.some.inj H
                refine pv_ HT_ 44 (some 102) (tf 45 2) (h := ?_)
                iterate 2 (refine pvn_ HT_ (h := ?_))
                refine done_ (done_of HT_.out (by kernel_rfl)) ?_
                try go_wp2
                go_ret
                exact ⟨by first | rfl | (simp [errW_none, errW_some] <;> rfl) | (simp only [← hji30]; first | rfl | (simp [errW_none, errW_some] <;> rfl)) | (simp [*, errW_none, errW_some] <;> rfl), bel⟩
               rw [if_neg c34] at H
               have c34b0 : decide (0 ≤ t251) = false := decide_eq_false c34
               clear c34
               have H' := Aside0.mk H
               clear H
               refine pv_ HT_ 44 (some 102) (tf 45 2) (h := ?_)
               iterate 2 (refine pvn_ HT_ (h := ?_))
               refine done_ (done_of HT_.out (by kernel_rfl)) ?_
               try go_wp2
               go_roundg k2
               case measure => have := HJ1.out; have := HK2.out; omega
               case rel => exact ⟨(wrap64 (x53_2 + 1)), rs_, H', ⟨by have := HJ1.out; have := HK2.out; omega⟩, ⟨by (with_reducible repeat (first | refine blk_drewN ?_ _ | refine blk_drew ?_ | refine blk_alloc ?_ _)); exact BK242.out⟩, ⟨bel⟩⟩
              rw [if_neg c32] at H
              exact absurd H (by simp)
             rw [if_neg c31] at H
             exact absurd H (by simp)
            rw [if_neg c29] at H
            have c29b0 : decide (0 < x53_2) = false := decide_eq_false c29
            clear c29
            have H' := Aside0.mk H
            clear H
            iterate 6 (refine pvn_ HT_ (h := ?_))
            refine puns_ HT_ 11 [some _, some _, some _, some _, some _, some _, some _, some _, some _, some _, some _] (h := ?_)
            iterate 2 (refine pvn_ HT_ (h := ?_))
            refine done_ (done_of HT_.out (by kernel_rfl)) ?_
            try go_wp2
            go_roundg k2
            case measure => have := HJ1.out; have := HK2.out; omega
            case rel => exact ⟨(wrap64 (x53_2 + 1)), rs_, H', ⟨by have := HJ1.out; have := HK2.out; omega⟩, ⟨by (with_reducible repeat (first | refine blk_drewN ?_ _ | refine blk_drew ?_ | refine blk_alloc ?_ _)); exact BK242.out⟩, ⟨bel⟩⟩
           rw [if_neg c28] at H
           have c28b0 : (((rd_T92 l0_1 x53_2).f3) == 0) = false := beq_eq_false_iff_ne.mpr c28
           have c28b1 : (((rd_T92 l0_1 x53_2).f3) != 0) = true := bne_iff_ne.mpr c28
           replace H := Option.bind_eq_some_iff.mp H
           obtain ⟨t252, A500, H⟩ := H
           replace H : (if t252 < 0 then (some false) else (if x53_2 > 0 then (if 0 ≤ (wrap64 (x53_2 - 1)) then (if (wrap64 (x53_2 - 1)) < (l0_1.length : Int) then ((bytes_Compare.f ((rd_T92 l0_1 (wrap64 (x53_2 - 1))).f0) ((rd_T92 l0_1 x53_2).f0)).bind fun t254 => (if t254 ≥ 0 then (some false) else (impl_StateOk.l0 k2 l0_1 (l0_1.length : Int) (wrap64 (x53_2 + 1)) a0_0 l0_1 l0_2 a0_3 l0_4 l0_5))) else (none)) else (none)) else (impl_StateOk.l0 k2 l0_1 (l0_1.length : Int) (wrap64 (x53_2 + 1)) a0_0 l0_1 l0_2 a0_3 l0_4 l0_5))) = some r := H
           have A50 := Aside0.mk A500
           clear A500
           iterate 3 (refine pvn_ HT_ (h := ?_))
           refine tvn_ HT_ HW_ hHeld (h := ?_)
           iterate 2 (refine pvn_ HT_ (h := ?_))
           refine pv_ HT_ 24 (some 82) (tb 47 25165823) (h := ?_)
           refine tv_ HT_ HW_ hHeld 23 (some 81) (tf 25 22) (h := ?_)
           refine tvn_ HT_ HW_ hHeld (h := ?_)
           refine one_ (i := 26) (N := some 84) (tf 27 20) rfl rfl (one_of HT_.out (by kernel_rfl)) (by decide) (fun K hK => ?_)
           refine gs_ Try.func83 #[.agg #[.int .i64 a0_0, .slice (some ad245) l0_1.length c0_1, .slice A0_2 l0_2.length c0_2, .int .i64 a0_3, .slice A0_4 l0_4.length c0_4, .slice A0_5 l0_5.length c0_5], .int .i64 ((rd_T92 l0_1 x53_2).f3)] (h := ?_)
           with_reducible refine (impl_State_session.calls a0_0 _ _ l0_1 _ _ l0_2 a0_3 _ _ l0_4 _ _ l0_5 ((rd_T92 l0_1 x53_2).f3) t252 _ ?side1 ?side2 ?side3 ?side4 ?side5 ?side6 ?side7 ?side8 A50.out).mono ?_
           (case side1 => exact kcb)
           (case side2 => exact HC0_1.out)
           (case side3 => exact kcb)
           (case side4 => exact HC0_2.out)
           (case side5 => exact kcb)
           (case side6 => exact HC0_4.out)
           (case side7 => exact kcb)
           (case side8 => exact HC0_5.out)
           rintro e wv4 ⟨rfl, hb⟩
           refine ⟨_, rfl, ?_⟩
           replace BK242 := Aside0.mk (blb BK242 hb)
           replace BK246 := Aside0.mk (blb BK246 hb)
           replace HB := Aside0.mk (below_step bel hb)
           (try clear hb)
           (try clear hb2)
           (try clear hk)
           (try clear hi)
           refine hK.out _ _ (cells_4 BK246.out (cellz_6 BK242.out)) (fun hHeld => ?_)
           clear hK K
           refine nrm_ (some 84) (h := ?_)
           by_cases c51 : t252 < 0
           ·rw [if_pos c51] at H
            have c51b0 : decide (t252 < 0) = true := decide_eq_true c51
            clear c51
            obtain rfl := Option.some.inj H
            iterate 4 (refine pvn_ HT_ (h := ?_))
            refine puns_ HT_ 15 [some _, some _, some _, some _, some _, some _, some _, some _, some _, some _, some _, some _, some _, some _, some _] (h := ?_)
            refine pvn_ HT_ (h := ?_)
            refine done_ (done_of HT_.out (by kernel_rfl)) ?_
            try go_wp2
            go_ret
            exact ⟨rz_, bel⟩
           rw [if_neg c51] at H
           have c51b0 : decide (t252 < 0) = false := decide_eq_false c51
           clear c51
           refine pvn_ HT_ (h := ?_)
           by_cases c58 : x53_2 > 0
           ·rw [if_pos c58] at H
            have c58b0 : decide (0 < x53_2) = true := decide_eq_true c58
            clear c58
            obtain ⟨ji59, hji59⟩ : ∃ j_ : Int, (wrap64 (x53_2 - 1)) = j_ := ⟨_, rfl⟩
            replace H : (if 0 ≤ (ji59) then (if (ji59) < (l0_1.length : Int) then ((bytes_Compare.f ((rd_T92 l0_1 (ji59)).f0) ((rd_T92 l0_1 x53_2).f0)).bind fun t254 => (if t254 ≥ 0 then (some false) else (impl_StateOk.l0 k2 l0_1 (l0_1.length : Int) (wrap64 (x53_2 + 1)) a0_0 l0_1 l0_2 a0_3 l0_4 l0_5))) else (none)) else (none)) = some r := by first | (rw [hji59] at H; exact H) | (simp only [hji59] at H ⊢; exact H)
            (try rw [hji59] at A22)
            (try rw [hji59] at A24)
            (try rw [hji59] at A26)
            (try rw [hji59] at A50)
            have hji59w : (IntKind.i64.wrap (x53_2 - 1)) = ji59 := (i64_w _).trans hji59
            by_cases c60 : 0 ≤ (ji59)
            ·rw [if_pos c60] at H
             have c60b0 : decide (0 ≤ (ji59)) = true := decide_eq_true c60
             clear c60
             by_cases c61 : (ji59) < (l0_1.length : Int)
             ·rw [if_pos c61] at H
              have c61b0 : decide ((ji59) < (l0_1.length : Int)) = true := decide_eq_true c61
              clear c61
              replace H := Option.bind_eq_some_iff.mp H
              obtain ⟨t254, A620, H⟩ := H
              replace H : (if t254 ≥ 0 then (some false) else (impl_StateOk.l0 k2 l0_1 (l0_1.length : Int) (wrap64 (x53_2 + 1)) a0_0 l0_1 l0_2 a0_3 l0_4 l0_5)) = some r := H
              have A62 := Aside0.mk A620
              clear A620
              have p253 : 0 ≤ ((ji59) : Int) := od
              have q253 : (ji59) < (l0_1.length : Int) := od
              obtain ⟨ad253, A253_0, c253_0, A253_1, c253_1, e253, hx253_0, hx253_1, hx253_2, hx253_3, hl253_0, hi253_0, hl253_1, hi253_1⟩ := at_T92 HR0_1.out (ji59) p253 q253
              have hw253_3 := hx253_3
              have hw253_2 := hx253_2
              have hw253_1 := hx253_1
              have hw253_0 := hx253_0
              obtain rfl : ad245 = ad253 := (by injection e253)
              replace hx253_0 := hxb HB hx253_0
              replace hx253_1 := hxb HB hx253_1
              replace hx253_2 := hxb HB hx253_2
              replace hx253_3 := hxb HB hx253_3
              have HR253_0 := Aside0.mk hi253_0
              have HC253_0 := Aside0.mk hl253_0
              clear hi253_0 hl253_0
              have HR253_1 := Aside0.mk hi253_1
              have HC253_1 := Aside0.mk hl253_1
              clear hi253_1 hl253_1
              replace p253 := eq_true p253
              replace q253 := eq_true q253
              refine widen_ (S' := fun w' => w'.cell? ⟨gb246, 0, none⟩ = some (.slice A245_0 ((rd_T92 l0_1 x53_2).f0).length c245_0) ∧ w'.cell? ⟨gb246, 1, none⟩ = some (.slice A245_1 ((rd_T92 l0_1 x53_2).f1).length c245_1) ∧ w'.cell? ⟨gb246, 2, none⟩ = some (.int .i64 ((rd_T92 l0_1 x53_2).f2)) ∧ w'.cell? ⟨gb246, 3, none⟩ = some (.int .i64 ((rd_T92 l0_1 x53_2).f3)) ∧ w'.cell? ⟨gb242, 0, none⟩ = some (.int .i64 a0_0) ∧ w'.cell? ⟨gb242, 1, none⟩ = some (.slice (some ad245) l0_1.length c0_1) ∧ w'.cell? ⟨gb242, 2, none⟩ = some (.slice A0_2 l0_2.length c0_2) ∧ w'.cell? ⟨gb242, 3, none⟩ = some (.int .i64 a0_3) ∧ w'.cell? ⟨gb242, 4, none⟩ = some (.slice A0_4 l0_4.length c0_4) ∧ w'.cell? ⟨gb242, 5, none⟩ = some (.slice A0_5 l0_5.length c0_5) ∧ w'.cell? (ad245.add (((ji59)).toNat * 4)) = some (.slice A253_0 ((rd_T92 l0_1 (ji59)).f0).length c253_0) ∧ w'.cell? ⟨(ad245.add (((ji59)).toNat * 4)).block, (ad245.add (((ji59)).toNat * 4)).off + 1, none⟩ = some (.slice A253_1 ((rd_T92 l0_1 (ji59)).f1).length c253_1) ∧ w'.cell? ⟨(ad245.add (((ji59)).toNat * 4)).block, (ad245.add (((ji59)).toNat * 4)).off + 2, none⟩ = some (.int .i64 ((rd_T92 l0_1 (ji59)).f2)) ∧ w'.cell? ⟨(ad245.add (((ji59)).toNat * 4)).block, (ad245.add (((ji59)).toNat * 4)).off + 3, none⟩ = some (.int .i64 ((rd_T92 l0_1 (ji59)).f3))) (fun _ h_ => ⟨h_.1, h_.2.1, h_.2.2.1, h_.2.2.2.1, h_.2.2.2.2.1, h_.2.2.2.2.2.1, h_.2.2.2.2.2.2.1, h_.2.2.2.2.2.2.2.1, h_.2.2.2.2.2.2.2.2.1, h_.2.2.2.2.2.2.2.2.2.1⟩) (cells_4 BK246.out (cells_6 BK242.out ⟨(hxb HB hw253_0 :), (hxb HB hw253_1 :), (hxb HB hw253_2 :), (hxb HB hw253_3 :)⟩)) (h := ?_)
              clear hHeld; intro hHeld
              iterate 7 (refine pvn_ HT_ (h := ?_))
              refine pv_ HT_ 36 (some 94) (tb 47 103079215103) (h := ?_)
              refine pv_ HT_ 37 (some 95) (tb 47 240518168575) (h := ?_)
              refine pv_ HT_ 41 (some 99) (tb 47 2439541424127) (h := ?_)
              refine tv_ HT_ HW_ hHeld 35 (some 93) (tb 47 2473901162495) (h := ?_)
              refine pv_ HT_ 38 (some 96) (tb 47 2748779069439) (h := ?_)
              refine pv_ HT_ 39 (some 97) (tb 47 3298534883327) (h := ?_)
              refine tv_ HT_ HW_ hHeld 40 (some 98) (tf 42 5) (h := ?_)
              refine tvn_ HT_ HW_ hHeld (h := ?_)
              refine one_ (i := 43) (N := some 101) (tf 44 3) rfl rfl (one_of HT_.out (by kernel_rfl)) (by decide) (fun K hK => ?_)
              refine goes_ Try.func84 (by kernel_rfl) rfl #[.slice A253_0 ((rd_T92 l0_1 (ji59)).f0).length c253_0, .slice A245_0 ((rd_T92 l0_1 x53_2).f0).length c245_0] (by rfl) rfl rfl (by (try simp only [List.map_toArray, List.map_cons, List.map_nil]); first | done | (simp only [hji59]; rfl) | rfl | (simp only [List.length_drop, List.length_take]; rfl)) ?_
              with_reducible refine (bytes_Compare.calls _ _ ((rd_T92 l0_1 (ji59)).f0) _ _ ((rd_T92 l0_1 x53_2).f0) t254 _ ?side1 ?side2 ?side3 ?side4 A62.out).mono ?_
              (case side1 => exact kcb)
              (case side2 => exact HC253_0.out)
              (case side3 => exact kcb)
              (case side4 => exact HC245_0.out)
              rintro e w' ⟨rfl, ⟨nd, rfl⟩⟩
              refine ⟨_, rfl, ?_⟩
              refine hK.out _ _ (cells_4 BK246.out (cells_6 BK242.out ⟨(hxb HB hw253_0 :), (hxb HB hw253_1 :), (hxb HB hw253_2 :), (hxb HB hw253_3 :)⟩)) (fun hHeld => ?_)
              clear hK K
              refine nrm_ (some 101) (h := ?_)
              by_cases c63 : t254 ≥ 0
              ·rw [if_pos c63] at H
               have c63b0 : decide (0 ≤ t254) = true := decide_eq_true c63
               clear c63
               obtain rfl := Option.some.inj H
               refine pv_ HT_ 44 (some 102) (tf 45 2) (h := ?_)
               iterate 2 (refine pvn_ HT_ (h := ?_))
               refine done_ (done_of HT_.out (by kernel_rfl)) ?_
               try go_wp2
               go_ret
               exact ⟨by first | rfl | (simp [errW_none, errW_some] <;> rfl) | (simp only [← hji59]; first | rfl | (simp [errW_none, errW_some] <;> rfl)) | (simp [*, errW_none, errW_some] <;> rfl), bel⟩
              rw [if_neg c63] at H
              have c63b0 : decide (0 ≤ t254) = false := decide_eq_false c63
              clear c63
              have H' := Aside0.mk H
              clear H
              refine pv_ HT_ 44 (some 102) (tf 45 2) (h := ?_)
              iterate 2 (refine pvn_ HT_ (h := ?_))
              refine done_ (done_of HT_.out (by kernel_rfl)) ?_
              try go_wp2
              go_roundg k2
              case measure => have := HJ1.out; have := HK2.out; omega
              case rel => exact ⟨(wrap64 (x53_2 + 1)), rs_, H', ⟨by have := HJ1.out; have := HK2.out; omega⟩, ⟨by (with_reducible repeat (first | refine blk_drewN ?_ _ | refine blk_drew ?_ | refine blk_alloc ?_ _)); exact BK242.out⟩, ⟨bel⟩⟩
             rw [if_neg c61] at H
             exact absurd H (by simp)
            rw [if_neg c60] at H
            exact absurd H (by simp)
           rw [if_neg c58] at H
           have c58b0 : decide (0 < x53_2) = false := decide_eq_false c58
           clear c58
           have H' := Aside0.mk H
           clear H
           iterate 6 (refine pvn_ HT_ (h := ?_))
           refine puns_ HT_ 11 [some _, some _, some _, some _, some _, some _, some _, some _, some _, some _, some _] (h := ?_)
           iterate 2 (refine pvn_ HT_ (h := ?_))
           refine done_ (done_of HT_.out (by kernel_rfl)) ?_
           try go_wp2
           go_roundg k2
           case measure => have := HJ1.out; have := HK2.out; omega
           case rel => exact ⟨(wrap64 (x53_2 + 1)), rs_, H', ⟨by have := HJ1.out; have := HK2.out; omega⟩, ⟨by (with_reducible repeat (first | refine blk_drewN ?_ _ | refine blk_drew ?_ | refine blk_alloc ?_ _)); exact BK242.out⟩, ⟨bel⟩⟩
          replace c27 := Bool.eq_false_iff.mpr c27
          subst c27
          have H1 : (some false) = some r := by rw [if_neg (show ¬ (false = true) by decide)] at H; exact H
          clear H
          have H := H1
          clear H1
          obtain rfl := Option.some.inj H
          iterate 3 (refine pvn_ HT_ (h := ?_))
          refine puns_ HT_ 10 [some _, some _, some _, some _, some _, some _, some _, some _, some _, some _] (h := ?_)
          iterate 2 (refine pvn_ HT_ (h := ?_))
          refine puns_ HT_ 15 [some _, some _, some _, some _, some _, some _, some _, some _, some _, some _, some _, some _, some _, some _, some _] (h := ?_)
          refine pvn_ HT_ (h := ?_)
          refine done_ (done_of HT_.out (by kernel_rfl)) ?_
          try go_wp2
          go_ret
          exact ⟨rz_, bel⟩
         replace c25 := Bool.eq_false_iff.mpr c25
         subst c25
         have H1 : (some false) = some r := by rw [if_neg (show ¬ (false = true) by decide)] at H; exact H
         clear H
         have H := H1
         clear H1
         obtain rfl := Option.some.inj H
         iterate 3 (refine pvn_ HT_ (h := ?_))
         refine puns_ HT_ 6 [some _, some _, some _, some _, some _, some _] (h := ?_)
         iterate 2 (refine pvn_ HT_ (h := ?_))
         refine puns_ HT_ 10 [some _, some _, some _, some _, some _, some _, some _, some _, some _, some _] (h := ?_)
         iterate 2 (refine pvn_ HT_ (h := ?_))
         refine puns_ HT_ 15 [some _, some _, some _, some _, some _, some _, some _, some _, some _, some _, some _, some _, some _, some _, some _] (h := ?_)
         refine pvn_ HT_ (h := ?_)
         refine done_ (done_of HT_.out (by kernel_rfl)) ?_
         try go_wp2
         go_ret
         exact ⟨rz_, bel⟩
        replace c23 := Bool.eq_false_iff.mpr c23
        subst c23
        have H1 : (some false) = some r := by rw [if_neg (show ¬ (false = true) by decide)] at H; exact H
        clear H
        have H := H1
        clear H1
        obtain rfl := Option.some.inj H
        iterate 2 (refine pvn_ HT_ (h := ?_))
        refine puns_ HT_ 4 [some _, some _, some _, some _] (h := ?_)
        iterate 2 (refine pvn_ HT_ (h := ?_))
        refine puns_ HT_ 6 [some _, some _, some _, some _, some _, some _] (h := ?_)
        iterate 2 (refine pvn_ HT_ (h := ?_))
        refine puns_ HT_ 10 [some _, some _, some _, some _, some _, some _, some _, some _, some _, some _] (h := ?_)
        iterate 2 (refine pvn_ HT_ (h := ?_))
        refine puns_ HT_ 15 [some _, some _, some _, some _, some _, some _, some _, some _, some _, some _, some _, some _, some _, some _, some _] (h := ?_)
        refine pvn_ HT_ (h := ?_)
        refine done_ (done_of HT_.out (by kernel_rfl)) ?_
        try go_wp2
        go_ret
        exact ⟨rz_, bel⟩
       rw [if_neg c21] at H
       exact absurd H (by simp)
      rw [if_neg c20] at H
      exact absurd H (by simp)
     rw [if_neg c19] at H
     have c19b0 : decide (x53_2 < (l0_1.length : Int)) = false := decide_eq_false c19
     clear c19
     obtain ⟨ji97, hji97⟩ : ∃ j_ : Int, (mx 1 a0_3) = j_ := ⟨_, rfl⟩
     replace H : (impl_StateOk.l1 k2 ji97 l0_2 (l0_2.length : Int) 0 a0_0 l0_1 l0_2 a0_3 l0_4 l0_5) = some r := by first | (rw [hji97] at H; exact H) | (simp only [hji97] at H ⊢; exact H)
     have hji97_ : (if 1 < a0_3 then a0_3 else 1) = ji97 := hji97
     have H' := Aside0.mk H
     clear H
     obtain ⟨hcz98_0, hcz98_1, hcz98_2, hcz98_3, hcz98_4, hcz98_5, -⟩ := cells_6 BK242.out trivial
     obtain ⟨hfz98_0, hfz98_1, hfz98_2, hfz98_3, hfz98_4, hfz98_5, -⟩ := frz_6 BK242.out
     go_wp2
     go_loopg [5, 112] k2 (fun kq v5 v112 w' => ∃ (x5_3 : Int) (x112_3 : Int), v5 = .int .i64 x5_3 ∧ v112 = .int .i64 x112_3 ∧ Aside0 (impl_StateOk.l1 kq x5_3 l0_2 (l0_2.length : Int) x112_3 a0_0 l0_1 l0_2 a0_3 l0_4 l0_5 = some r) ∧ Aside0 (kq ≤ k2) ∧ Aside0 (w'.heap[gb242]? = some (.cells #[.int .i64 a0_0, (.slice A0_1 l0_1.length c0_1), (.slice A0_2 l0_2.length c0_2), .int .i64 a0_3, (.slice A0_4 l0_4.length c0_4), (.slice A0_5 l0_5.length c0_5)] 35 (0, 0))) ∧ Aside0 (Below w.heap.size w w'))
     case atStart => exact ⟨(ji97), (0), (by first | rfl | (simp; done) | (simp only [← hji97] <;> (first | rfl | simp)) | (simp [*]; done)), rs_, H', ⟨Nat.le_refl _⟩, ⟨by (with_reducible repeat (first | refine blk_drewN ?_ _ | refine blk_drew ?_ | refine blk_alloc ?_ _)); exact BK242.out⟩, ⟨bel⟩⟩
     case round => as_aux_lemma =>
      clear H'
      try clear c1; try clear c2; try clear p2; try clear q2; try clear hx2; try clear c4; try clear c8; try clear c9; try clear c19; try clear c19b0; try clear c20; try clear c21; try clear c23; try clear c24; try clear p24; try clear q24; try clear hx24; try clear c47; try clear c82; try clear c93; try clear hcz94_0; try clear hcz94_1; try clear hcz94_2; try clear hcz94_3; try clear hcz98_0; try clear hcz98_1; try clear hcz98_2; try clear hcz98_3; try clear hcz98_4; try clear hcz98_5; try clear hfz94_0; try clear hfz94_1; try clear hfz94_2; try clear hfz94_3; try clear hfz98_0; try clear hfz98_1; try clear hfz98_2; try clear hfz98_3; try clear hfz98_4; try clear hfz98_5; try clear hx245_0; try clear hx245_1; try clear hx245_2; try clear hx245_3; try clear p245; try clear q245
      obtain ⟨x5_3, x112_3, rfl, rfl, HA, HK3, BK242, HB⟩ := hrel
      cases gk with
      | zero => exact absurd HA.out (by simp [impl_StateOk.l1])
      | succ k3 =>
       have H := HA.out
       clear HA
       simp only [impl_StateOk.l1] at H
       by_cases c99 : x112_3 < (l0_2.length : Int)
       ·rw [if_pos c99] at H
        have c99b0 : decide (x112_3 < (l0_2.length : Int)) = true := decide_eq_true c99
        clear c99
        by_cases c100 : 0 ≤ x112_3
        ·rw [if_pos c100] at H
         have c100b0 : decide (0 ≤ x112_3) = true := decide_eq_true c100
         clear c100
         by_cases c101 : x112_3 < (l0_2.length : Int)
         ·rw [if_pos c101] at H
          have c101b0 : decide (x112_3 < (l0_2.length : Int)) = true := decide_eq_true c101
          clear c101
          replace H := Option.bind_eq_some_iff.mp H
          obtain ⟨⟨t257, t258⟩, A1020, H⟩ := H
          replace H : (if t258 = true then (some false) else ((impl_KeyOk.f k3 ((rd_T94 l0_2 x112_3).f0)).bind fun t259 => (if t259 = true then ((impl_State_tomb.f a0_0 l0_1 l0_2 a0_3 l0_4 l0_5 ((rd_T94 l0_2 x112_3).f0)).bind fun t260 => (if t260 = x112_3 then ((impl_within.f ((rd_T94 l0_2 x112_3).f1) x5_3 a0_0).bind fun t261 => (if t261 = true then (impl_StateOk.l1 k3 ((rd_T94 l0_2 x112_3).f1) l0_2 (l0_2.length : Int) (wrap64 (x112_3 + 1)) a0_0 l0_1 l0_2 a0_3 l0_4 l0_5) else (some false))) else (some false))) else (some false)))) = some r := H
          have A102 := Aside0.mk A1020
          clear A1020
          by_cases c103 : t258 = true
          ·subst c103
           have H1 : (some false) = some r := by rw [if_pos rfl] at H; exact H
           clear H
           have H := H1
           clear H1
           as_aux_lemma =>
            obtain rfl := Option.some.inj H
            have p255 : 0 ≤ (x112_3 : Int) := od
            have q255 : x112_3 < (l0_2.length : Int) := od
            obtain ⟨ad255, A255_0, c255_0, e255, hx255_0, hx255_1, hl255_0, hi255_0⟩ := at_T94 HR0_2.out x112_3 p255 q255
            cases e255
            replace hx255_0 := hxb HB hx255_0
            replace hx255_1 := hxb HB hx255_1
            have HR255_0 := Aside0.mk hi255_0
            have HC255_0 := Aside0.mk hl255_0
            clear hi255_0 hl255_0
            replace p255 := eq_true p255
            replace q255 := eq_true q255
            go_wp2_with (first | ((with_reducible refine gate_dst (N := 7) rfl ?_); (try (refine gate_guard (by rfl) ?_; dsimp only)); refine bx_ 7 #[.slice none 0 0, .int .i64 0] 94 (h := ?_); intro gb256 hg w104 hbox hb; have BK256 := Aside0.mk (hbox); have GW256 := Aside0.mk ((by rw [hg]; exact (below_size bel) : w.heap.size ≤ gb256)); have GE256 := GW256; have NB242_256 := Aside0.mk ((by rw [hg]; exact Nat.ne_of_lt (blt BK242) : gb242 ≠ gb256)); have NB256_242 := Aside0.mk NB242_256.out.symm; replace BK242 := Aside0.mk (blb BK242 hb); replace HB := Aside0.mk (below_step bel hb); clear hb hbox hg; have hnb105 := NB256_242.out; have hnc105 := NB242_256.out; obtain ⟨hcz106_0, hcz106_1, -⟩ := cells_2 BK256.out trivial; obtain ⟨hfz106_0, hfz106_1, -⟩ := frz_2 BK256.out; obtain ⟨hcz107_0, hcz107_1, hcz107_2, hcz107_3, hcz107_4, hcz107_5, -⟩ := cells_6 BK242.out trivial; obtain ⟨hfz107_0, hfz107_1, hfz107_2, hfz107_3, hfz107_4, hfz107_5, -⟩ := frz_6 BK242.out) | ((with_reducible refine gate_callee (f := 85) rfl ?_); refine gl_ (some 121) Try.func85 #[.agg #[.int .i64 a0_0, .slice A0_1 l0_1.length c0_1, .slice (some ad255) l0_2.length c0_2, .int .i64 a0_3, .slice A0_4 l0_4.length c0_4, .slice A0_5 l0_5.length c0_5], .slice A255_0 ((rd_T94 l0_2 x112_3).f0).length c255_0] (h := ?_); (with_reducible refine (impl_State_row.calls k3 a0_0 _ _ l0_1 _ _ l0_2 a0_3 _ _ l0_4 _ _ l0_5 _ _ ((rd_T94 l0_2 x112_3).f0) t257 true _ ?side1 ?side2 ?side3 ?side4 ?side5 ?side6 ?side7 ?side8 ?side9 ?side10 A102.out).mono ?_); (case side1 => exact Kd.C_below HR0_1.out bel); (case side2 => exact HC0_1.out); (case side3 => exact Kd.C_below HR0_2.out bel); (case side4 => exact HC0_2.out); (case side5 => exact Kd.C_below HR0_4.out bel); (case side6 => exact HC0_4.out); (case side7 => exact Kd.C_below HR0_5.out bel); (case side8 => exact HC0_5.out); (case side9 => exact Kd.C_below HR255_0.out bel); (case side10 => exact HC255_0.out); rintro e w108 ⟨rfl, hb⟩; refine ⟨_, rfl, ?_⟩; replace BK242 := Aside0.mk (blk_below (g := gb242) (o := .cells #[.int .i64 a0_0, .slice A0_1 l0_1.length c0_1, .slice (some ad255) l0_2.length c0_2, .int .i64 a0_3, .slice A0_4 l0_4.length c0_4, .slice A0_5 l0_5.length c0_5] 35 (0, 0)) (by (with_reducible repeat (first | refine blk_drewN ?_ _ | refine blk_drew ?_ | refine blk_alloc ?_ _)); refine blk_far ?_ NB242_256.out _; (with_reducible repeat (first | refine blk_drewN ?_ _ | refine blk_drew ?_ | refine blk_alloc ?_ _)); refine blk_far ?_ NB242_256.out _; (with_reducible repeat (first | refine blk_drewN ?_ _ | refine blk_drew ?_ | refine blk_alloc ?_ _)); exact BK242.out) hb); replace BK256 := Aside0.mk (blk_below (g := gb256) (o := .cells #[.slice A255_0 ((rd_T94 l0_2 x112_3).f0).length c255_0, .int .i64 ((rd_T94 l0_2 x112_3).f1)] 94 (0, 0)) (by (with_reducible repeat (first | refine blk_drewN ?_ _ | refine blk_drew ?_ | refine blk_alloc ?_ _)); refine blk_put (cs := #[.slice A255_0 ((rd_T94 l0_2 x112_3).f0).length c255_0, .int .i64 0]) ?_ 1 _ rfl; (with_reducible repeat (first | refine blk_drewN ?_ _ | refine blk_drew ?_ | refine blk_alloc ?_ _)); refine blk_put (cs := #[.slice none 0 0, .int .i64 0]) ?_ 0 _ rfl; (with_reducible repeat (first | refine blk_drewN ?_ _ | refine blk_drew ?_ | refine blk_alloc ?_ _)); exact BK256.out) hb); replace HB := Aside0.mk (below_step bel hb); (try clear hb); (try clear hb2); (try clear hk); (try clear hi)))
            go_ret
            exact ⟨by first | rfl | (simp [errW_none, errW_some] <;> rfl) | (simp only [← hji97]; first | rfl | (simp [errW_none, errW_some] <;> rfl)) | (simp [*, errW_none, errW_some] <;> rfl), bel⟩
          replace c103 := Bool.eq_false_iff.mpr c103
          subst c103
          have H1 : ((impl_KeyOk.f k3 ((rd_T94 l0_2 x112_3).f0)).bind fun t259 => (if t259 = true then ((impl_State_tomb.f a0_0 l0_1 l0_2 a0_3 l0_4 l0_5 ((rd_T94 l0_2 x112_3).f0)).bind fun t260 => (if t260 = x112_3 then ((impl_within.f ((rd_T94 l0_2 x112_3).f1) x5_3 a0_0).bind fun t261 => (if t261 = true then (impl_StateOk.l1 k3 ((rd_T94 l0_2 x112_3).f1) l0_2 (l0_2.length : Int) (wrap64 (x112_3 + 1)) a0_0 l0_1 l0_2 a0_3 l0_4 l0_5) else (some false))) else (some false))) else (some false))) = some r := by rw [if_neg (show ¬ (false = true) by decide)] at H; exact H
          clear H
          have H := H1
          clear H1
          replace H := Option.bind_eq_some_iff.mp H
          obtain ⟨t259, A1090, H⟩ := H
          replace H : (if t259 = true then ((impl_State_tomb.f a0_0 l0_1 l0_2 a0_3 l0_4 l0_5 ((rd_T94 l0_2 x112_3).f0)).bind fun t260 => (if t260 = x112_3 then ((impl_within.f ((rd_T94 l0_2 x112_3).f1) x5_3 a0_0).bind fun t261 => (if t261 = true then (impl_StateOk.l1 k3 ((rd_T94 l0_2 x112_3).f1) l0_2 (l0_2.length : Int) (wrap64 (x112_3 + 1)) a0_0 l0_1 l0_2 a0_3 l0_4 l0_5) else (some false))) else (some false))) else (some false)) = some r := H
          have A109 := Aside0.mk A1090
          clear A1090
          by_cases c110 : t259 = true
          ·subst c110
           have H1 : ((impl_State_tomb.f a0_0 l0_1 l0_2 a0_3 l0_4 l0_5 ((rd_T94 l0_2 x112_3).f0)).bind fun t260 => (if t260 = x112_3 then ((impl_within.f ((rd_T94 l0_2 x112_3).f1) x5_3 a0_0).bind fun t261 => (if t261 = true then (impl_StateOk.l1 k3 ((rd_T94 l0_2 x112_3).f1) l0_2 (l0_2.length : Int) (wrap64 (x112_3 + 1)) a0_0 l0_1 l0_2 a0_3 l0_4 l0_5) else (some false))) else (some false))) = some r := by rw [if_pos rfl] at H; exact H
           clear H
           have H := H1
           clear H1
           replace H := Option.bind_eq_some_iff.mp H
           obtain ⟨t260, A1110, H⟩ := H
           replace H : (if t260 = x112_3 then ((impl_within.f ((rd_T94 l0_2 x112_3).f1) x5_3 a0_0).bind fun t261 => (if t261 = true then (impl_StateOk.l1 k3 ((rd_T94 l0_2 x112_3).f1) l0_2 (l0_2.length : Int) (wrap64 (x112_3 + 1)) a0_0 l0_1 l0_2 a0_3 l0_4 l0_5) else (some false))) else (some false)) = some r := H
           have A111 := Aside0.mk A1110
           clear A1110
           by_cases c112 : t260 = x112_3
           ·rw [if_pos c112] at H
            have c112b0 : (t260 == x112_3) = true := beq_iff_eq.mpr c112
            have c112b1 : (t260 != x112_3) = false := bne_eq_false_iff_eq.mpr c112
            clear c112
            replace H := Option.bind_eq_some_iff.mp H
            obtain ⟨t261, A1130, H⟩ := H
            replace H : (if t261 = true then (impl_StateOk.l1 k3 ((rd_T94 l0_2 x112_3).f1) l0_2 (l0_2.length : Int) (wrap64 (x112_3 + 1)) a0_0 l0_1 l0_2 a0_3 l0_4 l0_5) else (some false)) = some r := H
            have A113 := Aside0.mk A1130
            clear A1130
            by_cases c114 : t261 = true
            ·subst c114
             have H1 : (impl_StateOk.l1 k3 ((rd_T94 l0_2 x112_3).f1) l0_2 (l0_2.length : Int) (wrap64 (x112_3 + 1)) a0_0 l0_1 l0_2 a0_3 l0_4 l0_5) = some r := by rw [if_pos rfl] at H; exact H
             clear H
             have H := H1
             clear H1
             as_aux_lemma =>
              have H' := Aside0.mk H
              clear H
              have p255 : 0 ≤ (x112_3 : Int) := od
              have q255 : x112_3 < (l0_2.length : Int) := od
              obtain ⟨ad255, A255_0, c255_0, e255, hx255_0, hx255_1, hl255_0, hi255_0⟩ := at_T94 HR0_2.out x112_3 p255 q255
              cases e255
              replace hx255_0 := hxb HB hx255_0
              replace hx255_1 := hxb HB hx255_1
              have HR255_0 := Aside0.mk hi255_0
              have HC255_0 := Aside0.mk hl255_0
              clear hi255_0 hl255_0
              replace p255 := eq_true p255
              replace q255 := eq_true q255
              go_wp2_with (first | ((with_reducible refine gate_dst (N := 7) rfl ?_); (try (refine gate_guard (by rfl) ?_; dsimp only)); refine bx_ 7 #[.slice none 0 0, .int .i64 0] 94 (h := ?_); intro gb256 hg w115 hbox hb; have BK256 := Aside0.mk (hbox); have GW256 := Aside0.mk ((by rw [hg]; exact (below_size bel) : w.heap.size ≤ gb256)); have GE256 := GW256; have NB242_256 := Aside0.mk ((by rw [hg]; exact Nat.ne_of_lt (blt BK242) : gb242 ≠ gb256)); have NB256_242 := Aside0.mk NB242_256.out.symm; replace BK242 := Aside0.mk (blb BK242 hb); replace HB := Aside0.mk (below_step bel hb); clear hb hbox hg; have hnb116 := NB256_242.out; have hnc116 := NB242_256.out; obtain ⟨hcz117_0, hcz117_1, -⟩ := cells_2 BK256.out trivial; obtain ⟨hfz117_0, hfz117_1, -⟩ := frz_2 BK256.out; obtain ⟨hcz118_0, hcz118_1, hcz118_2, hcz118_3, hcz118_4, hcz118_5, -⟩ := cells_6 BK242.out trivial; obtain ⟨hfz118_0, hfz118_1, hfz118_2, hfz118_3, hfz118_4, hfz118_5, -⟩ := frz_6 BK242.out) | ((with_reducible refine gate_callee (f := 85) rfl ?_); refine gl_ (some 121) Try.func85 #[.agg #[.int .i64 a0_0, .slice A0_1 l0_1.length c0_1, .slice (some ad255) l0_2.length c0_2, .int .i64 a0_3, .slice A0_4 l0_4.length c0_4, .slice A0_5 l0_5.length c0_5], .slice A255_0 ((rd_T94 l0_2 x112_3).f0).length c255_0] (h := ?_); (with_reducible refine (impl_State_row.calls k3 a0_0 _ _ l0_1 _ _ l0_2 a0_3 _ _ l0_4 _ _ l0_5 _ _ ((rd_T94 l0_2 x112_3).f0) t257 false _ ?side1 ?side2 ?side3 ?side4 ?side5 ?side6 ?side7 ?side8 ?side9 ?side10 A102.out).mono ?_); (case side1 => exact Kd.C_below HR0_1.out bel); (case side2 => exact HC0_1.out); (case side3 => exact Kd.C_below HR0_2.out bel); (case side4 => exact HC0_2.out); (case side5 => exact Kd.C_below HR0_4.out bel); (case side6 => exact HC0_4.out); (case side7 => exact Kd.C_below HR0_5.out bel); (case side8 => exact HC0_5.out); (case side9 => exact Kd.C_below HR255_0.out bel); (case side10 => exact HC255_0.out); rintro e w119 ⟨rfl, hb⟩; refine ⟨_, rfl, ?_⟩; replace BK242 := Aside0.mk (blk_below (g := gb242) (o := .cells #[.int .i64 a0_0, .slice A0_1 l0_1.length c0_1, .slice (some ad255) l0_2.length c0_2, .int .i64 a0_3, .slice A0_4 l0_4.length c0_4, .slice A0_5 l0_5.length c0_5] 35 (0, 0)) (by (with_reducible repeat (first | refine blk_drewN ?_ _ | refine blk_drew ?_ | refine blk_alloc ?_ _)); refine blk_far ?_ NB242_256.out _; (with_reducible repeat (first | refine blk_drewN ?_ _ | refine blk_drew ?_ | refine blk_alloc ?_ _)); refine blk_far ?_ NB242_256.out _; (with_reducible repeat (first | refine blk_drewN ?_ _ | refine blk_drew ?_ | refine blk_alloc ?_ _)); exact BK242.out) hb); replace BK256 := Aside0.mk (blk_below (g := gb256) (o := .cells #[.slice A255_0 ((rd_T94 l0_2 x112_3).f0).length c255_0, .int .i64 ((rd_T94 l0_2 x112_3).f1)] 94 (0, 0)) (by (with_reducible repeat (first | refine blk_drewN ?_ _ | refine blk_drew ?_ | refine blk_alloc ?_ _)); refine blk_put (cs := #[.slice A255_0 ((rd_T94 l0_2 x112_3).f0).length c255_0, .int .i64 0]) ?_ 1 _ rfl; (with_reducible repeat (first | refine blk_drewN ?_ _ | refine blk_drew ?_ | refine blk_alloc ?_ _)); refine blk_put (cs := #[.slice none 0 0, .int .i64 0]) ?_ 0 _ rfl; (with_reducible repeat (first | refine blk_drewN ?_ _ | refine blk_drew ?_ | refine blk_alloc ?_ _)); exact BK256.out) hb); replace HB := Aside0.mk (below_step bel hb); (try clear hb); (try clear hb2); (try clear hk); (try clear hi); have hcz120_0 : w119.cell? ⟨gb256, 0, none⟩ = some (.slice A255_0 ((rd_T94 l0_2 x112_3).f0).length c255_0) := (blk_cell BK256.out 0).trans rfl; have hcz120_1 : w119.cell? ⟨gb256, 1, none⟩ = some (.int .i64 ((rd_T94 l0_2 x112_3).f1)) := (blk_cell BK256.out 1).trans rfl; obtain ⟨hfz120_0, hfz120_1, -⟩ := frz_2 BK256.out) | (go_at_call 47; (with_reducible refine (impl_KeyOk.calls k3 _ _ ((rd_T94 l0_2 x112_3).f0) true _ ?side1 ?side2 A109.out).mono ?_); (case side1 => exact kcb); (case side2 => exact HC255_0.out); rintro e w' ⟨rfl, ⟨nd, rfl⟩⟩; obtain ⟨hcz121_0, hcz121_1, hcz121_2, hcz121_3, hcz121_4, hcz121_5, -⟩ := cells_6 BK242.out trivial; obtain ⟨hfz121_0, hfz121_1, hfz121_2, hfz121_3, hfz121_4, hfz121_5, -⟩ := frz_6 BK242.out) | (go_at_call 86; (with_reducible refine (impl_State_tomb.calls a0_0 _ _ l0_1 _ _ l0_2 a0_3 _ _ l0_4 _ _ l0_5 _ _ ((rd_T94 l0_2 x112_3).f0) t260 _ ?side1 ?side2 ?side3 ?side4 ?side5 ?side6 ?side7 ?side8 ?side9 ?side10 A111.out).mono ?_); (case side1 => exact kcb); (case side2 => exact HC0_1.out); (case side3 => exact kcb); (case side4 => exact HC0_2.out); (case side5 => exact kcb); (case side6 => exact HC0_4.out); (case side7 => exact kcb); (case side8 => exact HC0_5.out); (case side9 => exact kcb); (case side10 => exact HC255_0.out); rintro e w122 ⟨rfl, hb⟩; replace BK242 := Aside0.mk (blb BK242 hb); replace BK256 := Aside0.mk (blb BK256 hb); replace HB := Aside0.mk (below_step bel hb); (try clear hb); (try clear hb2); (try clear hk); (try clear hi); have hcz123_0 : w122.cell? ⟨gb256, 0, none⟩ = some (.slice A255_0 ((rd_T94 l0_2 x112_3).f0).length c255_0) := (blk_cell BK256.out 0).trans rfl; have hcz123_1 : w122.cell? ⟨gb256, 1, none⟩ = some (.int .i64 ((rd_T94 l0_2 x112_3).f1)) := (blk_cell BK256.out 1).trans rfl; obtain ⟨hfz123_0, hfz123_1, -⟩ := frz_2 BK256.out; obtain ⟨hcz124_0, hcz124_1, hcz124_2, hcz124_3, hcz124_4, hcz124_5, -⟩ := cells_6 BK242.out trivial; obtain ⟨hfz124_0, hfz124_1, hfz124_2, hfz124_3, hfz124_4, hfz124_5, -⟩ := frz_6 BK242.out) | (go_at_call 81; (with_reducible refine (impl_within.calls ((rd_T94 l0_2 x112_3).f1) x5_3 a0_0 true _ A113.out).mono ?_); rintro e w' ⟨rfl, ⟨nd, rfl⟩⟩))
              go_roundg k3
              case measure => have := HJ1.out; have := HK2.out; have := HK3.out; omega
              case rel => exact ⟨((rd_T94 l0_2 x112_3).f1), (wrap64 (x112_3 + 1)), rs_, rs_, H', ⟨by have := HJ1.out; have := HK2.out; have := HK3.out; omega⟩, ⟨by (with_reducible repeat (first | refine blk_drewN ?_ _ | refine blk_drew ?_ | refine blk_alloc ?_ _)); exact BK242.out⟩, ⟨bel⟩⟩
            replace c114 := Bool.eq_false_iff.mpr c114
            subst c114
            have H1 : (some false) = some r := by rw [if_neg (show ¬ (false = true) by decide)] at H; exact H
            clear H
            have H := H1
            clear H1
            as_aux_lemma =>
             obtain rfl := Option.some.inj H
             have p255 : 0 ≤ (x112_3 : Int) := od
             have q255 : x112_3 < (l0_2.length : Int) := od
             obtain ⟨ad255, A255_0, c255_0, e255, hx255_0, hx255_1, hl255_0, hi255_0⟩ := at_T94 HR0_2.out x112_3 p255 q255
             cases e255
             replace hx255_0 := hxb HB hx255_0
             replace hx255_1 := hxb HB hx255_1
             have HR255_0 := Aside0.mk hi255_0
             have HC255_0 := Aside0.mk hl255_0
             clear hi255_0 hl255_0
             replace p255 := eq_true p255
             replace q255 := eq_true q255
             go_wp2_with (first | ((with_reducible refine gate_dst (N := 7) rfl ?_); (try (refine gate_guard (by rfl) ?_; dsimp only)); refine bx_ 7 #[.slice none 0 0, .int .i64 0] 94 (h := ?_); intro gb256 hg w125 hbox hb; have BK256 := Aside0.mk (hbox); have GW256 := Aside0.mk ((by rw [hg]; exact (below_size bel) : w.heap.size ≤ gb256)); have GE256 := GW256; have NB242_256 := Aside0.mk ((by rw [hg]; exact Nat.ne_of_lt (blt BK242) : gb242 ≠ gb256)); have NB256_242 := Aside0.mk NB242_256.out.symm; replace BK242 := Aside0.mk (blb BK242 hb); replace HB := Aside0.mk (below_step bel hb); clear hb hbox hg; have hnb126 := NB256_242.out; have hnc126 := NB242_256.out; obtain ⟨hcz127_0, hcz127_1, -⟩ := cells_2 BK256.out trivial; obtain ⟨hfz127_0, hfz127_1, -⟩ := frz_2 BK256.out; obtain ⟨hcz128_0, hcz128_1, hcz128_2, hcz128_3, hcz128_4, hcz128_5, -⟩ := cells_6 BK242.out trivial; obtain ⟨hfz128_0, hfz128_1, hfz128_2, hfz128_3, hfz128_4, hfz128_5, -⟩ := frz_6 BK242.out) | ((with_reducible refine gate_callee (f := 85) rfl ?_); refine gl_ (some 121) Try.func85 #[.agg #[.int .i64 a0_0, .slice A0_1 l0_1.length c0_1, .slice (some ad255) l0_2.length c0_2, .int .i64 a0_3, .slice A0_4 l0_4.length c0_4, .slice A0_5 l0_5.length c0_5], .slice A255_0 ((rd_T94 l0_2 x112_3).f0).length c255_0] (h := ?_); (with_reducible refine (impl_State_row.calls k3 a0_0 _ _ l0_1 _ _ l0_2 a0_3 _ _ l0_4 _ _ l0_5 _ _ ((rd_T94 l0_2 x112_3).f0) t257 false _ ?side1 ?side2 ?side3 ?side4 ?side5 ?side6 ?side7 ?side8 ?side9 ?side10 A102.out).mono ?_); (case side1 => exact Kd.C_below HR0_1.out bel); (case side2 => exact HC0_1.out); (case side3 => exact Kd.C_below HR0_2.out bel); (case side4 => exact HC0_2.out); (case side5 => exact Kd.C_below HR0_4.out bel); (case side6 => exact HC0_4.out); (case side7 => exact Kd.C_below HR0_5.out bel); (case side8 => exact HC0_5.out); (case side9 => exact Kd.C_below HR255_0.out bel); (case side10 => exact HC255_0.out); rintro e w129 ⟨rfl, hb⟩; refine ⟨_, rfl, ?_⟩; replace BK242 := Aside0.mk (blk_below (g := gb242) (o := .cells #[.int .i64 a0_0, .slice A0_1 l0_1.length c0_1, .slice (some ad255) l0_2.length c0_2, .int .i64 a0_3, .slice A0_4 l0_4.length c0_4, .slice A0_5 l0_5.length c0_5] 35 (0, 0)) (by (with_reducible repeat (first | refine blk_drewN ?_ _ | refine blk_drew ?_ | refine blk_alloc ?_ _)); refine blk_far ?_ NB242_256.out _; (with_reducible repeat (first | refine blk_drewN ?_ _ | refine blk_drew ?_ | refine blk_alloc ?_ _)); refine blk_far ?_ NB242_256.out _; (with_reducible repeat (first | refine blk_drewN ?_ _ | refine blk_drew ?_ | refine blk_alloc ?_ _)); exact BK242.out) hb); replace BK256 := Aside0.mk (blk_below (g := gb256) (o := .cells #[.slice A255_0 ((rd_T94 l0_2 x112_3).f0).length c255_0, .int .i64 ((rd_T94 l0_2 x112_3).f1)] 94 (0, 0)) (by (with_reducible repeat (first | refine blk_drewN ?_ _ | refine blk_drew ?_ | refine blk_alloc ?_ _)); refine blk_put (cs := #[.slice A255_0 ((rd_T94 l0_2 x112_3).f0).length c255_0, .int .i64 0]) ?_ 1 _ rfl; (with_reducible repeat (first | refine blk_drewN ?_ _ | refine blk_drew ?_ | refine blk_alloc ?_ _)); refine blk_put (cs := #[.slice none 0 0, .int .i64 0]) ?_ 0 _ rfl; (with_reducible repeat (first | refine blk_drewN ?_ _ | refine blk_drew ?_ | refine blk_alloc ?_ _)); exact BK256.out) hb); replace HB := Aside0.mk (below_step bel hb); (try clear hb); (try clear hb2); (try clear hk); (try clear hi); have hcz130_0 : w129.cell? ⟨gb256, 0, none⟩ = some (.slice A255_0 ((rd_T94 l0_2 x112_3).f0).length c255_0) := (blk_cell BK256.out 0).trans rfl; have hcz130_1 : w129.cell? ⟨gb256, 1, none⟩ = some (.int .i64 ((rd_T94 l0_2 x112_3).f1)) := (blk_cell BK256.out 1).trans rfl; obtain ⟨hfz130_0, hfz130_1, -⟩ := frz_2 BK256.out) | (go_at_call 47; (with_reducible refine (impl_KeyOk.calls k3 _ _ ((rd_T94 l0_2 x112_3).f0) true _ ?side1 ?side2 A109.out).mono ?_); (case side1 => exact kcb); (case side2 => exact HC255_0.out); rintro e w' ⟨rfl, ⟨nd, rfl⟩⟩; obtain ⟨hcz131_0, hcz131_1, hcz131_2, hcz131_3, hcz131_4, hcz131_5, -⟩ := cells_6 BK242.out trivial; obtain ⟨hfz131_0, hfz131_1, hfz131_2, hfz131_3, hfz131_4, hfz131_5, -⟩ := frz_6 BK242.out) | (go_at_call 86; (with_reducible refine (impl_State_tomb.calls a0_0 _ _ l0_1 _ _ l0_2 a0_3 _ _ l0_4 _ _ l0_5 _ _ ((rd_T94 l0_2 x112_3).f0) t260 _ ?side1 ?side2 ?side3 ?side4 ?side5 ?side6 ?side7 ?side8 ?side9 ?side10 A111.out).mono ?_); (case side1 => exact kcb); (case side2 => exact HC0_1.out); (case side3 => exact kcb); (case side4 => exact HC0_2.out); (case side5 => exact kcb); (case side6 => exact HC0_4.out); (case side7 => exact kcb); (case side8 => exact HC0_5.out); (case side9 => exact kcb); (case side10 => exact HC255_0.out); rintro e w132 ⟨rfl, hb⟩; replace BK242 := Aside0.mk (blb BK242 hb); replace BK256 := Aside0.mk (blb BK256 hb); replace HB := Aside0.mk (below_step bel hb); (try clear hb); (try clear hb2); (try clear hk); (try clear hi); have hcz133_0 : w132.cell? ⟨gb256, 0, none⟩ = some (.slice A255_0 ((rd_T94 l0_2 x112_3).f0).length c255_0) := (blk_cell BK256.out 0).trans rfl; have hcz133_1 : w132.cell? ⟨gb256, 1, none⟩ = some (.int .i64 ((rd_T94 l0_2 x112_3).f1)) := (blk_cell BK256.out 1).trans rfl; obtain ⟨hfz133_0, hfz133_1, -⟩ := frz_2 BK256.out; obtain ⟨hcz134_0, hcz134_1, hcz134_2, hcz134_3, hcz134_4, hcz134_5, -⟩ := cells_6 BK242.out trivial; obtain ⟨hfz134_0, hfz134_1, hfz134_2, hfz134_3, hfz134_4, hfz134_5, -⟩ := frz_6 BK242.out) | (go_at_call 81; (with_reducible refine (impl_within.calls ((rd_T94 l0_2 x112_3).f1) x5_3 a0_0 false _ A113.out).mono ?_); rintro e w' ⟨rfl, ⟨nd, rfl⟩⟩))
             go_ret
             exact ⟨by first | rfl | (simp [errW_none, errW_some] <;> rfl) | (simp only [← hji97]; first | rfl | (simp [errW_none, errW_some] <;> rfl)) | (simp [*, errW_none, errW_some] <;> rfl), bel⟩
           rw [if_neg c112] at H
           have c112b0 : (t260 == x112_3) = false := beq_eq_false_iff_ne.mpr c112
           have c112b1 : (t260 != x112_3) = true := bne_iff_ne.mpr c112
           as_aux_lemma =>
            obtain rfl := Option.some.inj H
            have p255 : 0 ≤ (x112_3 : Int) := od
            have q255 : x112_3 < (l0_2.length : Int) := od
            obtain ⟨ad255, A255_0, c255_0, e255, hx255_0, hx255_1, hl255_0, hi255_0⟩ := at_T94 HR0_2.out x112_3 p255 q255
            cases e255
            replace hx255_0 := hxb HB hx255_0
            replace hx255_1 := hxb HB hx255_1
            have HR255_0 := Aside0.mk hi255_0
            have HC255_0 := Aside0.mk hl255_0
            clear hi255_0 hl255_0
            replace p255 := eq_true p255
            replace q255 := eq_true q255
            go_wp2_with (first | ((with_reducible refine gate_dst (N := 7) rfl ?_); (try (refine gate_guard (by rfl) ?_; dsimp only)); refine bx_ 7 #[.slice none 0 0, .int .i64 0] 94 (h := ?_); intro gb256 hg w135 hbox hb; have BK256 := Aside0.mk (hbox); have GW256 := Aside0.mk ((by rw [hg]; exact (below_size bel) : w.heap.size ≤ gb256)); have GE256 := GW256; have NB242_256 := Aside0.mk ((by rw [hg]; exact Nat.ne_of_lt (blt BK242) : gb242 ≠ gb256)); have NB256_242 := Aside0.mk NB242_256.out.symm; replace BK242 := Aside0.mk (blb BK242 hb); replace HB := Aside0.mk (below_step bel hb); clear hb hbox hg; have hnb136 := NB256_242.out; have hnc136 := NB242_256.out; obtain ⟨hcz137_0, hcz137_1, -⟩ := cells_2 BK256.out trivial; obtain ⟨hfz137_0, hfz137_1, -⟩ := frz_2 BK256.out; obtain ⟨hcz138_0, hcz138_1, hcz138_2, hcz138_3, hcz138_4, hcz138_5, -⟩ := cells_6 BK242.out trivial; obtain ⟨hfz138_0, hfz138_1, hfz138_2, hfz138_3, hfz138_4, hfz138_5, -⟩ := frz_6 BK242.out) | ((with_reducible refine gate_callee (f := 85) rfl ?_); refine gl_ (some 121) Try.func85 #[.agg #[.int .i64 a0_0, .slice A0_1 l0_1.length c0_1, .slice (some ad255) l0_2.length c0_2, .int .i64 a0_3, .slice A0_4 l0_4.length c0_4, .slice A0_5 l0_5.length c0_5], .slice A255_0 ((rd_T94 l0_2 x112_3).f0).length c255_0] (h := ?_); (with_reducible refine (impl_State_row.calls k3 a0_0 _ _ l0_1 _ _ l0_2 a0_3 _ _ l0_4 _ _ l0_5 _ _ ((rd_T94 l0_2 x112_3).f0) t257 false _ ?side1 ?side2 ?side3 ?side4 ?side5 ?side6 ?side7 ?side8 ?side9 ?side10 A102.out).mono ?_); (case side1 => exact Kd.C_below HR0_1.out bel); (case side2 => exact HC0_1.out); (case side3 => exact Kd.C_below HR0_2.out bel); (case side4 => exact HC0_2.out); (case side5 => exact Kd.C_below HR0_4.out bel); (case side6 => exact HC0_4.out); (case side7 => exact Kd.C_below HR0_5.out bel); (case side8 => exact HC0_5.out); (case side9 => exact Kd.C_below HR255_0.out bel); (case side10 => exact HC255_0.out); rintro e w139 ⟨rfl, hb⟩; refine ⟨_, rfl, ?_⟩; replace BK242 := Aside0.mk (blk_below (g := gb242) (o := .cells #[.int .i64 a0_0, .slice A0_1 l0_1.length c0_1, .slice (some ad255) l0_2.length c0_2, .int .i64 a0_3, .slice A0_4 l0_4.length c0_4, .slice A0_5 l0_5.length c0_5] 35 (0, 0)) (by (with_reducible repeat (first | refine blk_drewN ?_ _ | refine blk_drew ?_ | refine blk_alloc ?_ _)); refine blk_far ?_ NB242_256.out _; (with_reducible repeat (first | refine blk_drewN ?_ _ | refine blk_drew ?_ | refine blk_alloc ?_ _)); refine blk_far ?_ NB242_256.out _; (with_reducible repeat (first | refine blk_drewN ?_ _ | refine blk_drew ?_ | refine blk_alloc ?_ _)); exact BK242.out) hb); replace BK256 := Aside0.mk (blk_below (g := gb256) (o := .cells #[.slice A255_0 ((rd_T94 l0_2 x112_3).f0).length c255_0, .int .i64 ((rd_T94 l0_2 x112_3).f1)] 94 (0, 0)) (by (with_reducible repeat (first | refine blk_drewN ?_ _ | refine blk_drew ?_ | refine blk_alloc ?_ _)); refine blk_put (cs := #[.slice A255_0 ((rd_T94 l0_2 x112_3).f0).length c255_0, .int .i64 0]) ?_ 1 _ rfl; (with_reducible repeat (first | refine blk_drewN ?_ _ | refine blk_drew ?_ | refine blk_alloc ?_ _)); refine blk_put (cs := #[.slice none 0 0, .int .i64 0]) ?_ 0 _ rfl; (with_reducible repeat (first | refine blk_drewN ?_ _ | refine blk_drew ?_ | refine blk_alloc ?_ _)); exact BK256.out) hb); replace HB := Aside0.mk (below_step bel hb); (try clear hb); (try clear hb2); (try clear hk); (try clear hi); have hcz140_0 : w139.cell? ⟨gb256, 0, none⟩ = some (.slice A255_0 ((rd_T94 l0_2 x112_3).f0).length c255_0) := (blk_cell BK256.out 0).trans rfl; have hcz140_1 : w139.cell? ⟨gb256, 1, none⟩ = some (.int .i64 ((rd_T94 l0_2 x112_3).f1)) := (blk_cell BK256.out 1).trans rfl; obtain ⟨hfz140_0, hfz140_1, -⟩ := frz_2 BK256.out) | (go_at_call 47; (with_reducible refine (impl_KeyOk.calls k3 _ _ ((rd_T94 l0_2 x112_3).f0) true _ ?side1 ?side2 A109.out).mono ?_); (case side1 => exact kcb); (case side2 => exact HC255_0.out); rintro e w' ⟨rfl, ⟨nd, rfl⟩⟩; obtain ⟨hcz141_0, hcz141_1, hcz141_2, hcz141_3, hcz141_4, hcz141_5, -⟩ := cells_6 BK242.out trivial; obtain ⟨hfz141_0, hfz141_1, hfz141_2, hfz141_3, hfz141_4, hfz141_5, -⟩ := frz_6 BK242.out) | (go_at_call 86; (with_reducible refine (impl_State_tomb.calls a0_0 _ _ l0_1 _ _ l0_2 a0_3 _ _ l0_4 _ _ l0_5 _ _ ((rd_T94 l0_2 x112_3).f0) t260 _ ?side1 ?side2 ?side3 ?side4 ?side5 ?side6 ?side7 ?side8 ?side9 ?side10 A111.out).mono ?_); (case side1 => exact kcb); (case side2 => exact HC0_1.out); (case side3 => exact kcb); (case side4 => exact HC0_2.out); (case side5 => exact kcb); (case side6 => exact HC0_4.out); (case side7 => exact kcb); (case side8 => exact HC0_5.out); (case side9 => exact kcb); (case side10 => exact HC255_0.out); rintro e w142 ⟨rfl, hb⟩; replace BK242 := Aside0.mk (blb BK242 hb); replace BK256 := Aside0.mk (blb BK256 hb); replace HB := Aside0.mk (below_step bel hb); (try clear hb); (try clear hb2); (try clear hk); (try clear hi)))
            go_ret
            exact ⟨by first | rfl | (simp [errW_none, errW_some] <;> rfl) | (simp only [← hji97]; first | rfl | (simp [errW_none, errW_some] <;> rfl)) | (simp [*, errW_none, errW_some] <;> rfl), bel⟩
          replace c110 := Bool.eq_false_iff.mpr c110
          subst c110
          have H1 : (some false) = some r := by rw [if_neg (show ¬ (false = true) by decide)] at H; exact H
          clear H
          have H := H1
          clear H1
          as_aux_lemma =>
           obtain rfl := Option.some.inj H
           have p255 : 0 ≤ (x112_3 : Int) := od
           have q255 : x112_3 < (l0_2.length : Int) := od
           obtain ⟨ad255, A255_0, c255_0, e255, hx255_0, hx255_1, hl255_0, hi255_0⟩ := at_T94 HR0_2.out x112_3 p255 q255
           cases e255
           replace hx255_0 := hxb HB hx255_0
           replace hx255_1 := hxb HB hx255_1
           have HR255_0 := Aside0.mk hi255_0
           have HC255_0 := Aside0.mk hl255_0
           clear hi255_0 hl255_0
           replace p255 := eq_true p255
           replace q255 := eq_true q255
           go_wp2_with (first | ((with_reducible refine gate_dst (N := 7) rfl ?_); (try (refine gate_guard (by rfl) ?_; dsimp only)); refine bx_ 7 #[.slice none 0 0, .int .i64 0] 94 (h := ?_); intro gb256 hg w143 hbox hb; have BK256 := Aside0.mk (hbox); have GW256 := Aside0.mk ((by rw [hg]; exact (below_size bel) : w.heap.size ≤ gb256)); have GE256 := GW256; have NB242_256 := Aside0.mk ((by rw [hg]; exact Nat.ne_of_lt (blt BK242) : gb242 ≠ gb256)); have NB256_242 := Aside0.mk NB242_256.out.symm; replace BK242 := Aside0.mk (blb BK242 hb); replace HB := Aside0.mk (below_step bel hb); clear hb hbox hg; have hnb144 := NB256_242.out; have hnc144 := NB242_256.out; obtain ⟨hcz145_0, hcz145_1, -⟩ := cells_2 BK256.out trivial; obtain ⟨hfz145_0, hfz145_1, -⟩ := frz_2 BK256.out; obtain ⟨hcz146_0, hcz146_1, hcz146_2, hcz146_3, hcz146_4, hcz146_5, -⟩ := cells_6 BK242.out trivial; obtain ⟨hfz146_0, hfz146_1, hfz146_2, hfz146_3, hfz146_4, hfz146_5, -⟩ := frz_6 BK242.out) | ((with_reducible refine gate_callee (f := 85) rfl ?_); refine gl_ (some 121) Try.func85 #[.agg #[.int .i64 a0_0, .slice A0_1 l0_1.length c0_1, .slice (some ad255) l0_2.length c0_2, .int .i64 a0_3, .slice A0_4 l0_4.length c0_4, .slice A0_5 l0_5.length c0_5], .slice A255_0 ((rd_T94 l0_2 x112_3).f0).length c255_0] (h := ?_); (with_reducible refine (impl_State_row.calls k3 a0_0 _ _ l0_1 _ _ l0_2 a0_3 _ _ l0_4 _ _ l0_5 _ _ ((rd_T94 l0_2 x112_3).f0) t257 false _ ?side1 ?side2 ?side3 ?side4 ?side5 ?side6 ?side7 ?side8 ?side9 ?side10 A102.out).mono ?_); (case side1 => exact Kd.C_below HR0_1.out bel); (case side2 => exact HC0_1.out); (case side3 => exact Kd.C_below HR0_2.out bel); (case side4 => exact HC0_2.out); (case side5 => exact Kd.C_below HR0_4.out bel); (case side6 => exact HC0_4.out); (case side7 => exact Kd.C_below HR0_5.out bel); (case side8 => exact HC0_5.out); (case side9 => exact Kd.C_below HR255_0.out bel); (case side10 => exact HC255_0.out); rintro e w147 ⟨rfl, hb⟩; refine ⟨_, rfl, ?_⟩; replace BK242 := Aside0.mk (blk_below (g := gb242) (o := .cells #[.int .i64 a0_0, .slice A0_1 l0_1.length c0_1, .slice (some ad255) l0_2.length c0_2, .int .i64 a0_3, .slice A0_4 l0_4.length c0_4, .slice A0_5 l0_5.length c0_5] 35 (0, 0)) (by (with_reducible repeat (first | refine blk_drewN ?_ _ | refine blk_drew ?_ | refine blk_alloc ?_ _)); refine blk_far ?_ NB242_256.out _; (with_reducible repeat (first | refine blk_drewN ?_ _ | refine blk_drew ?_ | refine blk_alloc ?_ _)); refine blk_far ?_ NB242_256.out _; (with_reducible repeat (first | refine blk_drewN ?_ _ | refine blk_drew ?_ | refine blk_alloc ?_ _)); exact BK242.out) hb); replace BK256 := Aside0.mk (blk_below (g := gb256) (o := .cells #[.slice A255_0 ((rd_T94 l0_2 x112_3).f0).length c255_0, .int .i64 ((rd_T94 l0_2 x112_3).f1)] 94 (0, 0)) (by (with_reducible repeat (first | refine blk_drewN ?_ _ | refine blk_drew ?_ | refine blk_alloc ?_ _)); refine blk_put (cs := #[.slice A255_0 ((rd_T94 l0_2 x112_3).f0).length c255_0, .int .i64 0]) ?_ 1 _ rfl; (with_reducible repeat (first | refine blk_drewN ?_ _ | refine blk_drew ?_ | refine blk_alloc ?_ _)); refine blk_put (cs := #[.slice none 0 0, .int .i64 0]) ?_ 0 _ rfl; (with_reducible repeat (first | refine blk_drewN ?_ _ | refine blk_drew ?_ | refine blk_alloc ?_ _)); exact BK256.out) hb); replace HB := Aside0.mk (below_step bel hb); (try clear hb); (try clear hb2); (try clear hk); (try clear hi); have hcz148_0 : w147.cell? ⟨gb256, 0, none⟩ = some (.slice A255_0 ((rd_T94 l0_2 x112_3).f0).length c255_0) := (blk_cell BK256.out 0).trans rfl; have hcz148_1 : w147.cell? ⟨gb256, 1, none⟩ = some (.int .i64 ((rd_T94 l0_2 x112_3).f1)) := (blk_cell BK256.out 1).trans rfl; obtain ⟨hfz148_0, hfz148_1, -⟩ := frz_2 BK256.out) | (go_at_call 47; (with_reducible refine (impl_KeyOk.calls k3 _ _ ((rd_T94 l0_2 x112_3).f0) false _ ?side1 ?side2 A109.out).mono ?_); (case side1 => exact kcb); (case side2 => exact HC255_0.out); rintro e w' ⟨rfl, ⟨nd, rfl⟩⟩))
           go_ret
           exact ⟨by first | rfl | (simp [errW_none, errW_some] <;> rfl) | (simp only [← hji97]; first | rfl | (simp [errW_none, errW_some] <;> rfl)) | (simp [*, errW_none, errW_some] <;> rfl), bel⟩
         rw [if_neg c101] at H
         exact absurd H (by simp)
        rw [if_neg c100] at H
        exact absurd H (by simp)
       rw [if_neg c99] at H
       have c99b0 : decide (x112_3 < (l0_2.length : Int)) = false := decide_eq_false c99
       clear c99
       have H' := Aside0.mk H
       clear H
       obtain ⟨hcz149_0, hcz149_1, hcz149_2, hcz149_3, hcz149_4, hcz149_5, -⟩ := cells_6 BK242.out trivial
       obtain ⟨hfz149_0, hfz149_1, hfz149_2, hfz149_3, hfz149_4, hfz149_5, -⟩ := frz_6 BK242.out
       go_wp2
       go_loopg [154] k3 (fun kq v154 w' => ∃ (x154_4 : Int), v154 = .int .i64 x154_4 ∧ Aside0 (impl_StateOk.l2 kq l0_4 (l0_4.length : Int) x154_4 a0_0 l0_1 l0_2 a0_3 l0_4 l0_5 = some r) ∧ Aside0 (kq ≤ k3) ∧ Aside0 (w'.heap[gb242]? = some (.cells #[.int .i64 a0_0, (.slice A0_1 l0_1.length c0_1), (.slice A0_2 l0_2.length c0_2), .int .i64 a0_3, (.slice A0_4 l0_4.length c0_4), (.slice A0_5 l0_5.length c0_5)] 35 (0, 0))) ∧ Aside0 (Below w.heap.size w w'))
       case atStart => exact ⟨(0), rs_, H', ⟨Nat.le_refl _⟩, ⟨by (with_reducible repeat (first | refine blk_drewN ?_ _ | refine blk_drew ?_ | refine blk_alloc ?_ _)); exact BK242.out⟩, ⟨bel⟩⟩
       case round => as_aux_lemma =>
        clear H'
        try clear c1; try clear c2; try clear p2; try clear q2; try clear hx2; try clear c4; try clear p6; try clear c8; try clear c9; try clear c10; try clear c11; try clear c12; try clear c13; try clear c14; try clear c19; try clear c19b0; try clear c20; try clear c21; try clear c23; try clear c24; try clear p24; try clear q24; try clear hx24; try clear c25; try clear p25; try clear q25; try clear hx25; try clear c47; try clear p64; try clear c82; try clear c85; try clear c93; try clear c99; try clear c99b0; try clear c100; try clear c100b0; try clear c101; try clear c101b0; try clear c103; try clear c105; try clear c110; try clear c112; try clear c112b0; try clear c112b1; try clear c114; try clear c116; try clear c126; try clear c136; try clear c144; try clear hcz106_0; try clear hcz106_1; try clear hcz107_0; try clear hcz107_1; try clear hcz107_2; try clear hcz107_3; try clear hcz107_4; try clear hcz107_5; try clear hcz117_0; try clear hcz117_1; try clear hcz118_0; try clear hcz118_1; try clear hcz118_2; try clear hcz118_3; try clear hcz118_4; try clear hcz118_5; try clear hcz120_0; try clear hcz120_1; try clear hcz121_0; try clear hcz121_1; try clear hcz121_2; try clear hcz121_3; try clear hcz121_4; try clear hcz121_5; try clear hcz123_0; try clear hcz123_1; try clear hcz124_0; try clear hcz124_1; try clear hcz124_2; try clear hcz124_3; try clear hcz124_4; try clear hcz124_5; try clear hcz127_0; try clear hcz127_1; try clear hcz128_0; try clear hcz128_1; try clear hcz128_2; try clear hcz128_3; try clear hcz128_4; try clear hcz128_5; try clear hcz130_0; try clear hcz130_1; try clear hcz131_0; try clear hcz131_1; try clear hcz131_2; try clear hcz131_3; try clear hcz131_4; try clear hcz131_5; try clear hcz133_0; try clear hcz133_1; try clear hcz134_0; try clear hcz134_1; try clear hcz134_2; try clear hcz134_3; try clear hcz134_4; try clear hcz134_5; try clear hcz137_0; try clear hcz137_1; try clear hcz138_0; try clear hcz138_1; try clear hcz138_2; try clear hcz138_3; try clear hcz138_4; try clear hcz138_5; try clear hcz140_0; try clear hcz140_1; try clear hcz141_0; try clear hcz141_1; try clear hcz141_2; try clear hcz141_3; try clear hcz141_4; try clear hcz141_5; try clear hcz145_0; try clear hcz145_1; try clear hcz146_0; try clear hcz146_1; try clear hcz146_2; try clear hcz146_3; try clear hcz146_4; try clear hcz146_5; try clear hcz148_0; try clear hcz148_1; try clear hcz149_0; try clear hcz149_1; try clear hcz149_2; try clear hcz149_3; try clear hcz149_4; try clear hcz149_5; try clear hcz94_0; try clear hcz94_1; try clear hcz94_2; try clear hcz94_3; try clear hcz98_0; try clear hcz98_1; try clear hcz98_2; try clear hcz98_3; try clear hcz98_4; try clear hcz98_5; try clear hfz106_0; try clear hfz106_1; try clear hfz107_0; try clear hfz107_1; try clear hfz107_2; try clear hfz107_3; try clear hfz107_4; try clear hfz107_5; try clear hfz117_0; try clear hfz117_1; try clear hfz118_0; try clear hfz118_1; try clear hfz118_2; try clear hfz118_3; try clear hfz118_4; try clear hfz118_5; try clear hfz120_0; try clear hfz120_1; try clear hfz121_0; try clear hfz121_1; try clear hfz121_2; try clear hfz121_3; try clear hfz121_4; try clear hfz121_5; try clear hfz123_0; try clear hfz123_1; try clear hfz124_0; try clear hfz124_1; try clear hfz124_2; try clear hfz124_3; try clear hfz124_4; try clear hfz124_5; try clear hfz127_0; try clear hfz127_1; try clear hfz128_0; try clear hfz128_1; try clear hfz128_2; try clear hfz128_3; try clear hfz128_4; try clear hfz128_5; try clear hfz130_0; try clear hfz130_1; try clear hfz131_0; try clear hfz131_1; try clear hfz131_2; try clear hfz131_3; try clear hfz131_4; try clear hfz131_5; try clear hfz133_0; try clear hfz133_1; try clear hfz134_0; try clear hfz134_1; try clear hfz134_2; try clear hfz134_3; try clear hfz134_4; try clear hfz134_5; try clear hfz137_0; try clear hfz137_1; try clear hfz138_0; try clear hfz138_1; try clear hfz138_2; try clear hfz138_3; try clear hfz138_4; try clear hfz138_5; try clear hfz140_0; try clear hfz140_1; try clear hfz141_0; try clear hfz141_1; try clear hfz141_2; try clear hfz141_3; try clear hfz141_4; try clear hfz141_5; try clear hfz145_0; try clear hfz145_1; try clear hfz146_0; try clear hfz146_1; try clear hfz146_2; try clear hfz146_3; try clear hfz146_4; try clear hfz146_5; try clear hfz148_0; try clear hfz148_1; try clear hfz149_0; try clear hfz149_1; try clear hfz149_2; try clear hfz149_3; try clear hfz149_4; try clear hfz149_5; try clear hfz94_0; try clear hfz94_1; try clear hfz94_2; try clear hfz94_3; try clear hfz98_0; try clear hfz98_1; try clear hfz98_2; try clear hfz98_3; try clear hfz98_4; try clear hfz98_5; try clear hx245_0; try clear hx245_1; try clear hx245_2; try clear hx245_3; try clear hx255_0; try clear hx255_1; try clear p2; try clear p24; try clear p245; try clear p255; try clear q2; try clear q24; try clear q245; try clear q255
        obtain ⟨x154_4, rfl, HA, HK4, BK242, HB⟩ := hrel
        cases gk with
        | zero => exact absurd HA.out (by simp [impl_StateOk.l2])
        | succ k4 =>
         have H := HA.out
         clear HA
         simp only [impl_StateOk.l2] at H
         by_cases c150 : x154_4 < (l0_4.length : Int)
         ·rw [if_pos c150] at H
          have c150b0 : decide (x154_4 < (l0_4.length : Int)) = true := decide_eq_true c150
          clear c150
          by_cases c151 : 0 ≤ x154_4
          ·rw [if_pos c151] at H
           have c151b0 : decide (0 ≤ x154_4) = true := decide_eq_true c151
           clear c151
           by_cases c152 : x154_4 < (l0_4.length : Int)
           ·rw [if_pos c152] at H
            have c152b0 : decide (x154_4 < (l0_4.length : Int)) = true := decide_eq_true c152
            clear c152
            replace H := Option.bind_eq_some_iff.mp H
            obtain ⟨t264, A1530, H⟩ := H
            replace H : (if t264 = true then (if x154_4 > 0 then (if 0 ≤ (wrap64 (x154_4 - 1)) then (if (wrap64 (x154_4 - 1)) < (l0_4.length : Int) then (if ((rd_T109 l0_4 (wrap64 (x154_4 - 1))).f0) ≥ ((rd_T109 l0_4 x154_4).f0) then (some false) else (impl_StateOk.l2 k4 l0_4 (l0_4.length : Int) (wrap64 (x154_4 + 1)) a0_0 l0_1 l0_2 a0_3 l0_4 l0_5)) else (none)) else (none)) else (impl_StateOk.l2 k4 l0_4 (l0_4.length : Int) (wrap64 (x154_4 + 1)) a0_0 l0_1 l0_2 a0_3 l0_4 l0_5)) else (some false)) = some r := H
            have A153 := Aside0.mk A1530
            clear A1530
            have p262 : 0 ≤ (x154_4 : Int) := od
            have q262 : x154_4 < (l0_4.length : Int) := od
            obtain ⟨ad262, e262, hx262_0, hx262_1⟩ := at_T109 HR0_4.out x154_4 p262 q262
            cases e262
            replace hx262_0 := hxb HB hx262_0
            replace hx262_1 := hxb HB hx262_1
            replace p262 := eq_true p262
            replace q262 := eq_true q262
            try go_wp2_with (first | ((with_reducible refine gate_dst (N := 11) rfl ?_); (try (refine gate_guard (by rfl) ?_; dsimp only)); refine bx_ 11 #[.int .i64 0, .bool false] 109 (h := ?_); intro gb263 hg wv1 hbox hb; have BK263 := Aside0.mk (hbox); have GW263 := Aside0.mk ((by rw [hg]; exact (below_size bel) : w.heap.size ≤ gb263)); have GE263 := GW263; have NB242_263 := Aside0.mk ((by rw [hg]; exact Nat.ne_of_lt (blt BK242) : gb242 ≠ gb263)); have NB263_242 := Aside0.mk NB242_263.out.symm; replace BK242 := Aside0.mk (blb BK242 hb); replace HB := Aside0.mk (below_step bel hb); clear hb hbox hg; have hnbv1 := NB263_242.out; have hncv2 := NB242_263.out; obtain ⟨hczv3_0, hczv3_1, -⟩ := cells_2 BK263.out trivial; obtain ⟨hfzv4_0, hfzv4_1, -⟩ := frz_2 BK263.out))
            refine put2_ BK263.out ?_
            intro wv2 hp_ hf_ hb_
            replace BK242 := Aside0.mk ((hf_ _ NB242_263.out).trans BK242.out)
            replace HB := Aside0.mk (hb_ _ HB.out GE263.out)
            replace BK263 := Aside0.mk hp_
            clear hp_ hf_ hb_
            replace BK242 := Aside0.mk (blk_drew BK242.out)
            replace BK263 := Aside0.mk (blk_drew BK263.out)
            replace HB := Aside0.mk (below_drew1 HB.out)
            refine start_ (n := 22) (S := fun w' => w'.cell? ⟨gb263, 0, none⟩ = some (.int .i64 ((rd_T109 l0_4 x154_4).f0)) ∧ w'.cell? ⟨gb263, 1, none⟩ = some (.bool ((rd_T109 l0_4 x154_4).f1)) ∧ w'.cell? ⟨gb242, 0, none⟩ = some (.int .i64 a0_0) ∧ w'.cell? ⟨gb242, 1, none⟩ = some (.slice A0_1 l0_1.length c0_1) ∧ w'.cell? ⟨gb242, 2, none⟩ = some (.slice A0_2 l0_2.length c0_2) ∧ w'.cell? ⟨gb242, 3, none⟩ = some (.int .i64 a0_3) ∧ w'.cell? ⟨gb242, 4, none⟩ = some (.slice (some ad262) l0_4.length c0_4) ∧ w'.cell? ⟨gb242, 5, none⟩ = some (.slice A0_5 l0_5.length c0_5)) (ds := []) (tf 0 22) (by kernel_rfl) rfl rfl (cells_2 BK263.out (cellz_6 BK242.out)) (fun hHeld => ?_); refine with_tabW impl_StateOk.tab21 impl_StateOk.bits21 (fun HT_ HW_ => ?_)
            generalize wv2.drew = wv3 at BK242 BK263 HB hHeld ⊢
            refine pvn_ HT_ (h := ?_)
            refine pv_ HT_ 2 (some 161) (tb 22 5) (h := ?_)
            refine tv_ HT_ HW_ hHeld 1 (some 160) (tf 3 19) (h := ?_)
            refine tvn_ HT_ HW_ hHeld (h := ?_)
            refine one_ (i := 4) (N := some 163) (tf 5 17) rfl rfl (one_of HT_.out (by kernel_rfl)) (by decide) (fun K hK => ?_)
            refine gs_ Try.func81 #[.int .i64 ((rd_T109 l0_4 x154_4).f0), .int .i64 1, .int .i64 a0_0] (h := ?_)
            with_reducible refine (impl_within.calls ((rd_T109 l0_4 x154_4).f0) 1 a0_0 t264 _ A153.out).mono ?_
            rintro e w' ⟨rfl, ⟨nd, rfl⟩⟩
            refine ⟨_, rfl, ?_⟩
            refine hK.out _ _ (cells_2 BK263.out (cellz_6 BK242.out)) (fun hHeld => ?_)
            clear hK K
            refine nrm_ (some 163) (h := ?_)
            by_cases c154 : t264 = true
            ·subst c154
             have H1 : (if x154_4 > 0 then (if 0 ≤ (wrap64 (x154_4 - 1)) then (if (wrap64 (x154_4 - 1)) < (l0_4.length : Int) then (if ((rd_T109 l0_4 (wrap64 (x154_4 - 1))).f0) ≥ ((rd_T109 l0_4 x154_4).f0) then (some false) else (impl_StateOk.l2 k4 l0_4 (l0_4.length : Int) (wrap64 (x154_4 + 1)) a0_0 l0_1 l0_2 a0_3 l0_4 l0_5)) else (none)) else (none)) else (impl_StateOk.l2 k4 l0_4 (l0_4.length : Int) (wrap64 (x154_4 + 1)) a0_0 l0_1 l0_2 a0_3 l0_4 l0_5)) = some r := by rw [if_pos rfl] at H; exact H
             clear H
             have H := H1
             clear H1
             by_cases c155 : x154_4 > 0
             ·rw [if_pos c155] at H
              have c155b0 : decide (0 < x154_4) = true := decide_eq_true c155
              clear c155
              obtain ⟨ji156, hji156⟩ : ∃ j_ : Int, (wrap64 (x154_4 - 1)) = j_ := ⟨_, rfl⟩
              replace H : (if 0 ≤ (ji156) then (if (ji156) < (l0_4.length : Int) then (if ((rd_T109 l0_4 (ji156)).f0) ≥ ((rd_T109 l0_4 x154_4).f0) then (some false) else (impl_StateOk.l2 k4 l0_4 (l0_4.length : Int) (wrap64 (x154_4 + 1)) a0_0 l0_1 l0_2 a0_3 l0_4 l0_5)) else (none)) else (none)) = some r := by first | (rw [hji156] at H; exact H) | (simp only [hji156] at H ⊢; exact H)
              (try rw [hji156] at A153)
              have hji156w : (IntKind.i64.wrap (x154_4 - 1)) = ji156 := (i64_w _).trans hji156
              by_cases c157 : 0 ≤ (ji156)
              ·rw [if_pos c157] at H
               have c157b0 : decide (0 ≤ (ji156)) = true := decide_eq_true c157
               clear c157
               by_cases c158 : (ji156) < (l0_4.length : Int)
               ·rw [if_pos c158] at H
                have c158b0 : decide ((ji156) < (l0_4.length : Int)) = true := decide_eq_true c158
                clear c158
                have p265 : 0 ≤ ((ji156) : Int) := od
                have q265 : (ji156) < (l0_4.length : Int) := od
                obtain ⟨ad265, e265, hx265_0, hx265_1⟩ := at_T109 HR0_4.out (ji156) p265 q265
                have hw265_1 := hx265_1
                have hw265_0 := hx265_0
                obtain rfl : ad262 = ad265 := (by injection e265)
                replace hx265_0 := hxb HB hx265_0
                replace hx265_1 := hxb HB hx265_1
                replace p265 := eq_true p265
                replace q265 := eq_true q265
                refine widen_ (S' := fun w' => w'.cell? ⟨gb263, 0, none⟩ = some (.int .i64 ((rd_T109 l0_4 x154_4).f0)) ∧ w'.cell? ⟨gb263, 1, none⟩ = some (.bool ((rd_T109 l0_4 x154_4).f1)) ∧ w'.cell? ⟨gb242, 0, none⟩ = some (.int .i64 a0_0) ∧ w'.cell? ⟨gb242, 1, none⟩ = some (.slice A0_1 l0_1.length c0_1) ∧ w'.cell? ⟨gb242, 2, none⟩ = some (.slice A0_2 l0_2.length c0_2) ∧ w'.cell? ⟨gb242, 3, none⟩ = some (.int .i64 a0_3) ∧ w'.cell? ⟨gb242, 4, none⟩ = some (.slice (some ad262) l0_4.length c0_4) ∧ w'.cell? ⟨gb242, 5, none⟩ = some (.slice A0_5 l0_5.length c0_5) ∧ w'.cell? (ad262.add (((ji156)).toNat * 2)) = some (.int .i64 ((rd_T109 l0_4 (ji156)).f0)) ∧ w'.cell? ⟨(ad262.add (((ji156)).toNat * 2)).block, (ad262.add (((ji156)).toNat * 2)).off + 1, none⟩ = some (.bool ((rd_T109 l0_4 (ji156)).f1))) (fun _ h_ => ⟨h_.1, h_.2.1, h_.2.2.1, h_.2.2.2.1, h_.2.2.2.2.1, h_.2.2.2.2.2.1, h_.2.2.2.2.2.2.1, h_.2.2.2.2.2.2.2.1⟩) (cells_2 BK263.out (cells_6 BK242.out ⟨(hxb HB hw265_0 :), (hxb HB hw265_1 :)⟩)) (h := ?_)
                clear hHeld; intro hHeld
                iterate 6 (refine pvn_ HT_ (h := ?_))
                refine pv_ HT_ 12 (some 171) (tb 22 6143) (h := ?_)
                refine pv_ HT_ 13 (some 172) (tb 22 14335) (h := ?_)
                refine pv_ HT_ 17 (some 176) (tb 22 145407) (h := ?_)
                refine tv_ HT_ HW_ hHeld 11 (some 170) (tb 22 147455) (h := ?_)
                refine pv_ HT_ 14 (some 173) (tb 22 163839) (h := ?_)
                refine pv_ HT_ 15 (some 174) (tb 22 196607) (h := ?_)
                refine tv_ HT_ HW_ hHeld 16 (some 175) (tf 18 4) (h := ?_)
                by_cases c159 : ((rd_T109 l0_4 (ji156)).f0) ≥ ((rd_T109 l0_4 x154_4).f0)
                ·rw [if_pos c159] at H
                 have c159b0 : decide (((rd_T109 l0_4 x154_4).f0) ≤ ((rd_T109 l0_4 (ji156)).f0)) = true := decide_eq_true c159
                 clear c159
                 obtain rfl := Option.some.inj H
                 refine tvn_ HT_ HW_ hHeld (h := ?_)
                 iterate 3 (refine pvn_ HT_ (h := ?_))
                 refine done_ (done_of HT_.out (by kernel_rfl)) ?_
                 try go_wp2
                 go_ret
                 exact ⟨by first | rfl | (simp [errW_none, errW_some] <;> rfl) | (simp only [← hji97, ← hji156]; first | rfl | (simp [errW_none, errW_some] <;> rfl)) | (simp [*, errW_none, errW_some] <;> rfl), bel⟩
                rw [if_neg c159] at H
                have c159b0 : decide (((rd_T109 l0_4 x154_4).f0) ≤ ((rd_T109 l0_4 (ji156)).f0)) = false := decide_eq_false c159
                clear c159
                have H' := Aside0.mk H
                clear H
                refine tvn_ HT_ HW_ hHeld (h := ?_)
                iterate 3 (refine pvn_ HT_ (h := ?_))
                refine done_ (done_of HT_.out (by kernel_rfl)) ?_
                try go_wp2
                go_roundg k4
                case measure => have := HJ1.out; have := HK2.out; have := HK3.out; have := HK4.out; omega
                case rel => exact ⟨(wrap64 (x154_4 + 1)), rs_, H', ⟨by have := HJ1.out; have := HK2.out; have := HK3.out; have := HK4.out; omega⟩, ⟨by (with_reducible repeat (first | refine blk_drewN ?_ _ | refine blk_drew ?_ | refine blk_alloc ?_ _)); exact BK242.out⟩, ⟨bel⟩⟩
               rw [if_neg c158] at H
               exact absurd H (by simp)
              rw [if_neg c157] at H
              exact absurd H (by simp)
             rw [if_neg c155] at H
             have c155b0 : decide (0 < x154_4) = false := decide_eq_false c155
             clear c155
             have H' := Aside0.mk H
             clear H
             iterate 5 (refine pvn_ HT_ (h := ?_))
             refine puns_ HT_ 10 [some _, some _, some _, some _, some _, some _, some _, some _, some _, some _] (h := ?_)
             iterate 2 (refine pvn_ HT_ (h := ?_))
             refine done_ (done_of HT_.out (by kernel_rfl)) ?_
             try go_wp2
             go_roundg k4
             case measure => have := HJ1.out; have := HK2.out; have := HK3.out; have := HK4.out; omega
             case rel => exact ⟨(wrap64 (x154_4 + 1)), rs_, H', ⟨by have := HJ1.out; have := HK2.out; have := HK3.out; have := HK4.out; omega⟩, ⟨by (with_reducible repeat (first | refine blk_drewN ?_ _ | refine blk_drew ?_ | refine blk_alloc ?_ _)); exact BK242.out⟩, ⟨bel⟩⟩
            replace c154 := Bool.eq_false_iff.mpr c154
            subst c154
            have H1 : (some false) = some r := by rw [if_neg (show ¬ (false = true) by decide)] at H; exact H
            clear H
            have H := H1
            clear H1
            obtain rfl := Option.some.inj H
            iterate 2 (refine pvn_ HT_ (h := ?_))
            refine puns_ HT_ 14 [some _, some _, some _, some _, some _, some _, some _, some _, some _, some _, some _, some _, some _, some _] (h := ?_)
            refine pvn_ HT_ (h := ?_)
            refine done_ (done_of HT_.out (by kernel_rfl)) ?_
            try go_wp2
            go_ret
            exact ⟨by first | rfl | (simp [errW_none, errW_some] <;> rfl) | (simp only [← hji97]; first | rfl | (simp [errW_none, errW_some] <;> rfl)) | (simp [*, errW_none, errW_some] <;> rfl), bel⟩
           rw [if_neg c152] at H
           exact absurd H (by simp)
          rw [if_neg c151] at H
          exact absurd H (by simp)
         rw [if_neg c150] at H
         have c150b0 : decide (x154_4 < (l0_4.length : Int)) = false := decide_eq_false c150
         clear c150
         have H' := Aside0.mk H
         clear H
         obtain ⟨hcz180_0, hcz180_1, hcz180_2, hcz180_3, hcz180_4, hcz180_5, -⟩ := cells_6 BK242.out trivial
         obtain ⟨hfz180_0, hfz180_1, hfz180_2, hfz180_3, hfz180_4, hfz180_5, -⟩ := frz_6 BK242.out
         go_wp2
         go_loopg [185] k4 (fun kq v185 w' => ∃ (x185_5 : Int), v185 = .int .i64 x185_5 ∧ Aside0 (impl_StateOk.l3 kq l0_5 (l0_5.length : Int) x185_5 a0_0 l0_1 l0_2 a0_3 l0_4 l0_5 = some r) ∧ Aside0 (kq ≤ k4) ∧ Aside0 (w'.heap[gb242]? = some (.cells #[.int .i64 a0_0, (.slice A0_1 l0_1.length c0_1), (.slice A0_2 l0_2.length c0_2), .int .i64 a0_3, (.slice A0_4 l0_4.length c0_4), (.slice A0_5 l0_5.length c0_5)] 35 (0, 0))) ∧ Aside0 (Below w.heap.size w w'))
         case atStart => exact ⟨(0), rs_, H', ⟨Nat.le_refl _⟩, ⟨by (with_reducible repeat (first | refine blk_drewN ?_ _ | refine blk_drew ?_ | refine blk_alloc ?_ _)); exact BK242.out⟩, ⟨bel⟩⟩
         case round => as_aux_lemma =>
          clear H'
          try clear c1; try clear p2; try clear q2; try clear hx2; try clear p6; try clear c8; try clear c15; try clear c16; try clear c17; try clear p26; try clear q26; try clear hx26; try clear p64; try clear c81; try clear c150; try clear c150b0; try clear c151; try clear c152; try clear c154; try clear c155; try clear c155b0; try clear c157; try clear c158; try clear c166; try clear c171; try clear c176; try clear hcz167_0; try clear hcz167_1; try clear hcz172_0; try clear hcz172_1; try clear hcz177_0; try clear hcz177_1; try clear hcz180_0; try clear hcz180_1; try clear hcz180_2; try clear hcz180_3; try clear hcz180_4; try clear hcz180_5; try clear hfz167_0; try clear hfz167_1; try clear hfz172_0; try clear hfz172_1; try clear hfz177_0; try clear hfz177_1; try clear hfz180_0; try clear hfz180_1; try clear hfz180_2; try clear hfz180_3; try clear hfz180_4; try clear hfz180_5; try clear hx262_0; try clear hx262_1; try clear hx265_0; try clear hx265_1; try clear p262; try clear p265; try clear q262; try clear q265
          obtain ⟨x185_5, rfl, HA, HK5, BK242, HB⟩ := hrel
          cases gk with
          | zero => exact absurd HA.out (by simp [impl_StateOk.l3])
          | succ k5 =>
           have H := HA.out
           clear HA
           simp only [impl_StateOk.l3] at H
           by_cases c181 : x185_5 < (l0_5.length : Int)
           ·rw [if_pos c181] at H
            have c181b0 : decide (x185_5 < (l0_5.length : Int)) = true := decide_eq_true c181
            clear c181
            by_cases c182 : 0 ≤ x185_5
            ·rw [if_pos c182] at H
             have c182b0 : decide (0 ≤ x185_5) = true := decide_eq_true c182
             clear c182
             by_cases c183 : x185_5 < (l0_5.length : Int)
             ·rw [if_pos c183] at H
              have c183b0 : decide (x185_5 < (l0_5.length : Int)) = true := decide_eq_true c183
              clear c183
              replace H := Option.bind_eq_some_iff.mp H
              obtain ⟨t268, A1840, H⟩ := H
              replace H : (if t268 = true then ((impl_within.f ((rd_T75 l0_5 x185_5).f1) 1 1000000).bind fun t269 => (if t269 = true then ((impl_within.f ((rd_T75 l0_5 x185_5).f2.f0) 0 5).bind fun t270 => (if t270 = true then ((impl_within.f ((rd_T75 l0_5 x185_5).f2.f1) 1 a0_0).bind fun t271 => (if t271 = true then (if x185_5 > 0 then (if 0 ≤ (wrap64 (x185_5 - 1)) then (if (wrap64 (x185_5 - 1)) < (l0_5.length : Int) then (if ((rd_T75 l0_5 (wrap64 (x185_5 - 1))).f0) ≥ ((rd_T75 l0_5 x185_5).f0) then (some false) else (impl_StateOk.l3 k5 l0_5 (l0_5.length : Int) (wrap64 (x185_5 + 1)) a0_0 l0_1 l0_2 a0_3 l0_4 l0_5)) else (none)) else (none)) else (impl_StateOk.l3 k5 l0_5 (l0_5.length : Int) (wrap64 (x185_5 + 1)) a0_0 l0_1 l0_2 a0_3 l0_4 l0_5)) else (some false))) else (some false))) else (some false))) else (some false)) = some r := H
              have A184 := Aside0.mk A1840
              clear A1840
              have p266 : 0 ≤ (x185_5 : Int) := od
              have q266 : x185_5 < (l0_5.length : Int) := od
              obtain ⟨ad266, e266, hx266_0, hx266_1, hx266_2, hx266_3⟩ := at_T75 HR0_5.out x185_5 p266 q266
              cases e266
              replace hx266_0 := hxb HB hx266_0
              replace hx266_1 := hxb HB hx266_1
              replace hx266_2 := hxb HB hx266_2
              replace hx266_3 := hxb HB hx266_3
              replace p266 := eq_true p266
              replace q266 := eq_true q266
              try go_wp2_with (first | ((with_reducible refine gate_dst (N := 13) rfl ?_); (try (refine gate_guard (by rfl) ?_; dsimp only)); refine bx_ 13 #[.int .i64 0, .int .i64 0, .int .i64 0, .int .i64 0] 75 (h := ?_); intro gb267 hg wv1 hbox hb; have BK267 := Aside0.mk (hbox); have GW267 := Aside0.mk ((by rw [hg]; exact (below_size bel) : w.heap.size ≤ gb267)); have GE267 := GW267; have NB242_267 := Aside0.mk ((by rw [hg]; exact Nat.ne_of_lt (blt BK242) : gb242 ≠ gb267)); have NB267_242 := Aside0.mk NB242_267.out.symm; replace BK242 := Aside0.mk (blb BK242 hb); replace HB := Aside0.mk (below_step bel hb); clear hb hbox hg; have hnbv1 := NB267_242.out; have hncv2 := NB242_267.out; obtain ⟨hczv3_0, hczv3_1, hczv3_2, hczv3_3, -⟩ := cells_4 BK267.out trivial; obtain ⟨hfzv4_0, hfzv4_1, hfzv4_2, hfzv4_3, -⟩ := frz_4 BK267.out))
              refine put4_ BK267.out ?_
              intro wv2 hp_ hf_ hb_
              replace BK242 := Aside0.mk ((hf_ _ NB242_267.out).trans BK242.out)
              replace HB := Aside0.mk (hb_ _ HB.out GE267.out)
              replace BK267 := Aside0.mk hp_
              clear hp_ hf_ hb_
              replace BK242 := Aside0.mk (blk_drew BK242.out)
              replace BK267 := Aside0.mk (blk_drew BK267.out)
              replace HB := Aside0.mk (below_drew1 HB.out)
              refine start_ (n := 42) (S := fun w' => w'.cell? ⟨gb267, 0, none⟩ = some (.int .i64 ((rd_T75 l0_5 x185_5).f0)) ∧ w'.cell? ⟨gb267, 1, none⟩ = some (.int .i64 ((rd_T75 l0_5 x185_5).f1)) ∧ w'.cell? ⟨gb267, 2, none⟩ = some (.int .i64 ((rd_T75 l0_5 x185_5).f2.f0)) ∧ w'.cell? ⟨gb267, 3, none⟩ = some (.int .i64 ((rd_T75 l0_5 x185_5).f2.f1)) ∧ w'.cell? ⟨gb242, 0, none⟩ = some (.int .i64 a0_0) ∧ w'.cell? ⟨gb242, 1, none⟩ = some (.slice A0_1 l0_1.length c0_1) ∧ w'.cell? ⟨gb242, 2, none⟩ = some (.slice A0_2 l0_2.length c0_2) ∧ w'.cell? ⟨gb242, 3, none⟩ = some (.int .i64 a0_3) ∧ w'.cell? ⟨gb242, 4, none⟩ = some (.slice A0_4 l0_4.length c0_4) ∧ w'.cell? ⟨gb242, 5, none⟩ = some (.slice (some ad266) l0_5.length c0_5)) (ds := []) (tf 0 42) (by kernel_rfl) rfl rfl (cells_4 BK267.out (cellz_6 BK242.out)) (fun hHeld => ?_); refine with_tabW impl_StateOk.tab27 impl_StateOk.bits27 (fun HT_ HW_ => ?_)
              generalize wv2.drew = wv3 at BK242 BK267 HB hHeld ⊢
              refine pvn_ HT_ (h := ?_)
              refine tvn_ HT_ HW_ hHeld (h := ?_)
              refine one_ (i := 2) (N := some 192) (tf 3 39) rfl rfl (one_of HT_.out (by kernel_rfl)) (by decide) (fun K hK => ?_)
              refine gs_ Try.func81 #[.int .i64 ((rd_T75 l0_5 x185_5).f0), .int .i64 0, .int .i64 3] (h := ?_)
              with_reducible refine (impl_within.calls ((rd_T75 l0_5 x185_5).f0) 0 3 t268 _ A184.out).mono ?_
              rintro e w' ⟨rfl, ⟨nd, rfl⟩⟩
              refine ⟨_, rfl, ?_⟩
              refine hK.out _ _ (cells_4 BK267.out (cellz_6 BK242.out)) (fun hHeld => ?_)
              clear hK K
              refine nrm_ (some 192) (h := ?_)
              by_cases c185 : t268 = true
              ·subst c185
               have H1 : ((impl_within.f ((rd_T75 l0_5 x185_5).f1) 1 1000000).bind fun t269 => (if t269 = true then ((impl_within.f ((rd_T75 l0_5 x185_5).f2.f0) 0 5).bind fun t270 => (if t270 = true then ((impl_within.f ((rd_T75 l0_5 x185_5).f2.f1) 1 a0_0).bind fun t271 => (if t271 = true then (if x185_5 > 0 then (if 0 ≤ (wrap64 (x185_5 - 1)) then (if (wrap64 (x185_5 - 1)) < (l0_5.length : Int) then (if ((rd_T75 l0_5 (wrap64 (x185_5 - 1))).f0) ≥ ((rd_T75 l0_5 x185_5).f0) then (some false) else (impl_StateOk.l3 k5 l0_5 (l0_5.length : Int) (wrap64 (x185_5 + 1)) a0_0 l0_1 l0_2 a0_3 l0_4 l0_5)) else (none)) else (none)) else (impl_StateOk.l3 k5 l0_5 (l0_5.length : Int) (wrap64 (x185_5 + 1)) a0_0 l0_1 l0_2 a0_3 l0_4 l0_5)) else (some false))) else (some false))) else (some false))) = some r := by rw [if_pos rfl] at H; exact H
               clear H
               have H := H1
               clear H1
               replace H := Option.bind_eq_some_iff.mp H
               obtain ⟨t269, A1860, H⟩ := H
               replace H : (if t269 = true then ((impl_within.f ((rd_T75 l0_5 x185_5).f2.f0) 0 5).bind fun t270 => (if t270 = true then ((impl_within.f ((rd_T75 l0_5 x185_5).f2.f1) 1 a0_0).bind fun t271 => (if t271 = true then (if x185_5 > 0 then (if 0 ≤ (wrap64 (x185_5 - 1)) then (if (wrap64 (x185_5 - 1)) < (l0_5.length : Int) then (if ((rd_T75 l0_5 (wrap64 (x185_5 - 1))).f0) ≥ ((rd_T75 l0_5 x185_5).f0) then (some false) else (impl_StateOk.l3 k5 l0_5 (l0_5.length : Int) (wrap64 (x185_5 + 1)) a0_0 l0_1 l0_2 a0_3 l0_4 l0_5)) else (none)) else (none)) else (impl_StateOk.l3 k5 l0_5 (l0_5.length : Int) (wrap64 (x185_5 + 1)) a0_0 l0_1 l0_2 a0_3 l0_4 l0_5)) else (some false))) else (some false))) else (some false)) = some r := H
               have A186 := Aside0.mk A1860
               clear A1860
               iterate 3 (refine pvn_ HT_ (h := ?_))
               refine tvn_ HT_ HW_ hHeld (h := ?_)
               refine one_ (i := 7) (N := some 197) (tf 8 34) rfl rfl (one_of HT_.out (by kernel_rfl)) (by decide) (fun K hK => ?_)
               refine gs_ Try.func81 #[.int .i64 ((rd_T75 l0_5 x185_5).f1), .int .i64 1, .int .i64 1000000] (h := ?_)
               with_reducible refine (impl_within.calls ((rd_T75 l0_5 x185_5).f1) 1 1000000 t269 _ A186.out).mono ?_
               rintro e w' ⟨rfl, ⟨nd, rfl⟩⟩
               refine ⟨_, rfl, ?_⟩
               refine hK.out _ _ (cells_4 BK267.out (cellz_6 BK242.out)) (fun hHeld => ?_)
               clear hK K
               refine nrm_ (some 197) (h := ?_)
               by_cases c187 : t269 = true
               ·subst c187
                have H1 : ((impl_within.f ((rd_T75 l0_5 x185_5).f2.f0) 0 5).bind fun t270 => (if t270 = true then ((impl_within.f ((rd_T75 l0_5 x185_5).f2.f1) 1 a0_0).bind fun t271 => (if t271 = true then (if x185_5 > 0 then (if 0 ≤ (wrap64 (x185_5 - 1)) then (if (wrap64 (x185_5 - 1)) < (l0_5.length : Int) then (if ((rd_T75 l0_5 (wrap64 (x185_5 - 1))).f0) ≥ ((rd_T75 l0_5 x185_5).f0) then (some false) else (impl_StateOk.l3 k5 l0_5 (l0_5.length : Int) (wrap64 (x185_5 + 1)) a0_0 l0_1 l0_2 a0_3 l0_4 l0_5)) else (none)) else (none)) else (impl_StateOk.l3 k5 l0_5 (l0_5.length : Int) (wrap64 (x185_5 + 1)) a0_0 l0_1 l0_2 a0_3 l0_4 l0_5)) else (some false))) else (some false))) = some r := by rw [if_pos rfl] at H; exact H
                clear H
                have H := H1
                clear H1
                replace H := Option.bind_eq_some_iff.mp H
                obtain ⟨t270, A1880, H⟩ := H
                replace H : (if t270 = true then ((impl_within.f ((rd_T75 l0_5 x185_5).f2.f1) 1 a0_0).bind fun t271 => (if t271 = true then (if x185_5 > 0 then (if 0 ≤ (wrap64 (x185_5 - 1)) then (if (wrap64 (x185_5 - 1)) < (l0_5.length : Int) then (if ((rd_T75 l0_5 (wrap64 (x185_5 - 1))).f0) ≥ ((rd_T75 l0_5 x185_5).f0) then (some false) else (impl_StateOk.l3 k5 l0_5 (l0_5.length : Int) (wrap64 (x185_5 + 1)) a0_0 l0_1 l0_2 a0_3 l0_4 l0_5)) else (none)) else (none)) else (impl_StateOk.l3 k5 l0_5 (l0_5.length : Int) (wrap64 (x185_5 + 1)) a0_0 l0_1 l0_2 a0_3 l0_4 l0_5)) else (some false))) else (some false)) = some r := H
                have A188 := Aside0.mk A1880
                clear A1880
                iterate 5 (refine pvn_ HT_ (h := ?_))
                refine tvn_ HT_ HW_ hHeld (h := ?_)
                refine one_ (i := 14) (N := some 204) (tf 15 27) rfl rfl (one_of HT_.out (by kernel_rfl)) (by decide) (fun K hK => ?_)
                refine gs_ Try.func81 #[.int .i64 ((rd_T75 l0_5 x185_5).f2.f0), .int .i64 0, .int .i64 5] (h := ?_)
                with_reducible refine (impl_within.calls ((rd_T75 l0_5 x185_5).f2.f0) 0 5 t270 _ A188.out).mono ?_
                rintro e w' ⟨rfl, ⟨nd, rfl⟩⟩
                refine ⟨_, rfl, ?_⟩
                refine hK.out _ _ (cells_4 BK267.out (cellz_6 BK242.out)) (fun hHeld => ?_)
                clear hK K
                refine nrm_ (some 204) (h := ?_)
                by_cases c189 : t270 = true
                ·subst c189
                 have H1 : ((impl_within.f ((rd_T75 l0_5 x185_5).f2.f1) 1 a0_0).bind fun t271 => (if t271 = true then (if x185_5 > 0 then (if 0 ≤ (wrap64 (x185_5 - 1)) then (if (wrap64 (x185_5 - 1)) < (l0_5.length : Int) then (if ((rd_T75 l0_5 (wrap64 (x185_5 - 1))).f0) ≥ ((rd_T75 l0_5 x185_5).f0) then (some false) else (impl_StateOk.l3 k5 l0_5 (l0_5.length : Int) (wrap64 (x185_5 + 1)) a0_0 l0_1 l0_2 a0_3 l0_4 l0_5)) else (none)) else (none)) else (impl_StateOk.l3 k5 l0_5 (l0_5.length : Int) (wrap64 (x185_5 + 1)) a0_0 l0_1 l0_2 a0_3 l0_4 l0_5)) else (some false))) = some r := by rw [if_pos rfl] at H; exact H
                 clear H
                 have H := H1
                 clear H1
                 replace H := Option.bind_eq_some_iff.mp H
                 obtain ⟨t271, A1900, H⟩ := H
                 replace H : (if t271 = true then (if x185_5 > 0 then (if 0 ≤ (wrap64 (x185_5 - 1)) then (if (wrap64 (x185_5 - 1)) < (l0_5.length : Int) then (if ((rd_T75 l0_5 (wrap64 (x185_5 - 1))).f0) ≥ ((rd_T75 l0_5 x185_5).f0) then (some false) else (impl_StateOk.l3 k5 l0_5 (l0_5.length : Int) (wrap64 (x185_5 + 1)) a0_0 l0_1 l0_2 a0_3 l0_4 l0_5)) else (none)) else (none)) else (impl_StateOk.l3 k5 l0_5 (l0_5.length : Int) (wrap64 (x185_5 + 1)) a0_0 l0_1 l0_2 a0_3 l0_4 l0_5)) else (some false)) = some r := H
                 have A190 := Aside0.mk A1900
                 clear A1900
                 iterate 5 (refine pvn_ HT_ (h := ?_))
                 refine pv_ HT_ 21 (some 211) (tb 42 3145727) (h := ?_)
                 refine tv_ HT_ HW_ hHeld 20 (some 210) (tf 22 20) (h := ?_)
                 refine tvn_ HT_ HW_ hHeld (h := ?_)
                 refine one_ (i := 23) (N := some 213) (tf 24 18) rfl rfl (one_of HT_.out (by kernel_rfl)) (by decide) (fun K hK => ?_)
                 refine gs_ Try.func81 #[.int .i64 ((rd_T75 l0_5 x185_5).f2.f1), .int .i64 1, .int .i64 a0_0] (h := ?_)
                 with_reducible refine (impl_within.calls ((rd_T75 l0_5 x185_5).f2.f1) 1 a0_0 t271 _ A190.out).mono ?_
                 rintro e w' ⟨rfl, ⟨nd, rfl⟩⟩
                 refine ⟨_, rfl, ?_⟩
                 refine hK.out _ _ (cells_4 BK267.out (cellz_6 BK242.out)) (fun hHeld => ?_)
                 clear hK K
                 refine nrm_ (some 213) (h := ?_)
                 by_cases c191 : t271 = true
                 ·subst c191
                  have H1 : (if x185_5 > 0 then (if 0 ≤ (wrap64 (x185_5 - 1)) then (if (wrap64 (x185_5 - 1)) < (l0_5.length : Int) then (if ((rd_T75 l0_5 (wrap64 (x185_5 - 1))).f0) ≥ ((rd_T75 l0_5 x185_5).f0) then (some false) else (impl_StateOk.l3 k5 l0_5 (l0_5.length : Int) (wrap64 (x185_5 + 1)) a0_0 l0_1 l0_2 a0_3 l0_4 l0_5)) else (none)) else (none)) else (impl_StateOk.l3 k5 l0_5 (l0_5.length : Int) (wrap64 (x185_5 + 1)) a0_0 l0_1 l0_2 a0_3 l0_4 l0_5)) = some r := by rw [if_pos rfl] at H; exact H
                  clear H
                  have H := H1
                  clear H1
                  by_cases c192 : x185_5 > 0
                  ·rw [if_pos c192] at H
                   have c192b0 : decide (0 < x185_5) = true := decide_eq_true c192
                   clear c192
                   obtain ⟨ji193, hji193⟩ : ∃ j_ : Int, (wrap64 (x185_5 - 1)) = j_ := ⟨_, rfl⟩
                   replace H : (if 0 ≤ (ji193) then (if (ji193) < (l0_5.length : Int) then (if ((rd_T75 l0_5 (ji193)).f0) ≥ ((rd_T75 l0_5 x185_5).f0) then (some false) else (impl_StateOk.l3 k5 l0_5 (l0_5.length : Int) (wrap64 (x185_5 + 1)) a0_0 l0_1 l0_2 a0_3 l0_4 l0_5)) else (none)) else (none)) = some r := by first | (rw [hji193] at H; exact H) | (simp only [hji193] at H ⊢; exact H)
                   (try rw [hji193] at A184)
                   (try rw [hji193] at A186)
                   (try rw [hji193] at A188)
                   (try rw [hji193] at A190)
                   have hji193w : (IntKind.i64.wrap (x185_5 - 1)) = ji193 := (i64_w _).trans hji193
                   by_cases c194 : 0 ≤ (ji193)
                   ·rw [if_pos c194] at H
                    have c194b0 : decide (0 ≤ (ji193)) = true := decide_eq_true c194
                    clear c194
                    by_cases c195 : (ji193) < (l0_5.length : Int)
                    ·rw [if_pos c195] at H
                     have c195b0 : decide ((ji193) < (l0_5.length : Int)) = true := decide_eq_true c195
                     clear c195
                     have p272 : 0 ≤ ((ji193) : Int) := od
                     have q272 : (ji193) < (l0_5.length : Int) := od
                     obtain ⟨ad272, e272, hx272_0, hx272_1, hx272_2, hx272_3⟩ := at_T75 HR0_5.out (ji193) p272 q272
                     have hw272_3 := hx272_3
                     have hw272_2 := hx272_2
                     have hw272_1 := hx272_1
                     have hw272_0 := hx272_0
                     obtain rfl : ad266 = ad272 := (by injection e272)
                     replace hx272_0 := hxb HB hx272_0
                     replace hx272_1 := hxb HB hx272_1
                     replace hx272_2 := hxb HB hx272_2
                     replace hx272_3 := hxb HB hx272_3
                     replace p272 := eq_true p272
                     replace q272 := eq_true q272
                     refine widen_ (S' := fun w' => w'.cell? ⟨gb267, 0, none⟩ = some (.int .i64 ((rd_T75 l0_5 x185_5).f0)) ∧ w'.cell? ⟨gb267, 1, none⟩ = some (.int .i64 ((rd_T75 l0_5 x185_5).f1)) ∧ w'.cell? ⟨gb267, 2, none⟩ = some (.int .i64 ((rd_T75 l0_5 x185_5).f2.f0)) ∧ w'.cell? ⟨gb267, 3, none⟩ = some (.int .i64 ((rd_T75 l0_5 x185_5).f2.f1)) ∧ w'.cell? ⟨gb242, 0, none⟩ = some (.int .i64 a0_0) ∧ w'.cell? ⟨gb242, 1, none⟩ = some (.slice A0_1 l0_1.length c0_1) ∧ w'.cell? ⟨gb242, 2, none⟩ = some (.slice A0_2 l0_2.length c0_2) ∧ w'.cell? ⟨gb242, 3, none⟩ = some (.int .i64 a0_3) ∧ w'.cell? ⟨gb242, 4, none⟩ = some (.slice A0_4 l0_4.length c0_4) ∧ w'.cell? ⟨gb242, 5, none⟩ = some (.slice (some ad266) l0_5.length c0_5) ∧ w'.cell? (ad266.add (((ji193)).toNat * 4)) = some (.int .i64 ((rd_T75 l0_5 (ji193)).f0)) ∧ w'.cell? ⟨(ad266.add (((ji193)).toNat * 4)).block, (ad266.add (((ji193)).toNat * 4)).off + 1, none⟩ = some (.int .i64 ((rd_T75 l0_5 (ji193)).f1)) ∧ w'.cell? ⟨(ad266.add (((ji193)).toNat * 4)).block, (ad266.add (((ji193)).toNat * 4)).off + 2, none⟩ = some (.int .i64 ((rd_T75 l0_5 (ji193)).f2.f0)) ∧ w'.cell? ⟨(ad266.add (((ji193)).toNat * 4)).block, (ad266.add (((ji193)).toNat * 4)).off + 3, none⟩ = some (.int .i64 ((rd_T75 l0_5 (ji193)).f2.f1))) (fun _ h_ => ⟨h_.1, h_.2.1, h_.2.2.1, h_.2.2.2.1, h_.2.2.2.2.1, h_.2.2.2.2.2.1, h_.2.2.2.2.2.2.1, h_.2.2.2.2.2.2.2.1, h_.2.2.2.2.2.2.2.2.1, h_.2.2.2.2.2.2.2.2.2.1⟩) (cells_4 BK267.out (cells_6 BK242.out ⟨(hxb HB hw272_0 :), (hxb HB hw272_1 :), (hxb HB hw272_2 :), (hxb HB hw272_3 :)⟩)) (h := ?_)
                     clear hHeld; intro hHeld
                     iterate 7 (refine pvn_ HT_ (h := ?_))
                     refine pv_ HT_ 32 (some 222) (tb 42 6442450943) (h := ?_)
                     refine pv_ HT_ 33 (some 223) (tb 42 15032385535) (h := ?_)
                     refine pv_ HT_ 37 (some 227) (tb 42 152471339007) (h := ?_)
                     refine tv_ HT_ HW_ hHeld 31 (some 221) (tb 42 154618822655) (h := ?_)
                     refine pv_ HT_ 34 (some 224) (tb 42 171798691839) (h := ?_)
                     refine pv_ HT_ 35 (some 225) (tb 42 206158430207) (h := ?_)
                     refine tv_ HT_ HW_ hHeld 36 (some 226) (tf 38 4) (h := ?_)
                     by_cases c196 : ((rd_T75 l0_5 (ji193)).f0) ≥ ((rd_T75 l0_5 x185_5).f0)
                     ·rw [if_pos c196] at H
                      have c196b0 : decide (((rd_T75 l0_5 x185_5).f0) ≤ ((rd_T75 l0_5 (ji193)).f0)) = true := decide_eq_true c196
                      clear c196
                      obtain rfl := Option.some.inj H
                      refine tvn_ HT_ HW_ hHeld (h := ?_)
                      iterate 3 (refine pvn_ HT_ (h := ?_))
                      refine done_ (done_of HT_.out (by kernel_rfl)) ?_
                      try go_wp2
                      go_ret
                      exact ⟨by first | rfl | (simp [errW_none, errW_some] <;> rfl) | (simp only [← hji97, ← hji193]; first | rfl | (simp [errW_none, errW_some] <;> rfl)) | (simp [*, errW_none, errW_some] <;> rfl), bel⟩
                     rw [if_neg c196] at H
                     have c196b0 : decide (((rd_T75 l0_5 x185_5).f0) ≤ ((rd_T75 l0_5 (ji193)).f0)) = false := decide_eq_false c196
                     clear c196
                     have H' := Aside0.mk H
                     clear H
                     refine tvn_ HT_ HW_ hHeld (h := ?_)
                     iterate 3 (refine pvn_ HT_ (h := ?_))
                     refine done_ (done_of HT_.out (by kernel_rfl)) ?_
                     try go_wp2
                     go_roundg k5
                     case measure => have := HJ1.out; have := HK2.out; have := HK3.out; have := HK4.out; have := HK5.out; omega
                     case rel => exact ⟨(wrap64 (x185_5 + 1)), rs_, H', ⟨by have := HJ1.out; have := HK2.out; have := HK3.out; have := HK4.out; have := HK5.out; omega⟩, ⟨by (with_reducible repeat (first | refine blk_drewN ?_ _ | refine blk_drew ?_ | refine blk_alloc ?_ _)); exact BK242.out⟩, ⟨bel⟩⟩
                    rw [if_neg c195] at H
                    exact absurd H (by simp)
                   rw [if_neg c194] at H
                   exact absurd H (by simp)
                  rw [if_neg c192] at H
                  have c192b0 : decide (0 < x185_5) = false := decide_eq_false c192
                  clear c192
                  have H' := Aside0.mk H
                  clear H
                  iterate 6 (refine pvn_ HT_ (h := ?_))
                  refine puns_ HT_ 10 [some _, some _, some _, some _, some _, some _, some _, some _, some _, some _] (h := ?_)
                  iterate 2 (refine pvn_ HT_ (h := ?_))
                  refine done_ (done_of HT_.out (by kernel_rfl)) ?_
                  try go_wp2
                  go_roundg k5
                  case measure => have := HJ1.out; have := HK2.out; have := HK3.out; have := HK4.out; have := HK5.out; omega
                  case rel => exact ⟨(wrap64 (x185_5 + 1)), rs_, H', ⟨by have := HJ1.out; have := HK2.out; have := HK3.out; have := HK4.out; have := HK5.out; omega⟩, ⟨by (with_reducible repeat (first | refine blk_drewN ?_ _ | refine blk_drew ?_ | refine blk_alloc ?_ _)); exact BK242.out⟩, ⟨bel⟩⟩
                 replace c191 := Bool.eq_false_iff.mpr c191
                 subst c191
                 have H1 : (some false) = some r := by rw [if_neg (show ¬ (false = true) by decide)] at H; exact H
                 clear H
                 have H := H1
                 clear H1
                 obtain rfl := Option.some.inj H
                 iterate 3 (refine pvn_ HT_ (h := ?_))
                 refine puns_ HT_ 14 [some _, some _, some _, some _, some _, some _, some _, some _, some _, some _, some _, some _, some _, some _] (h := ?_)
                 refine pvn_ HT_ (h := ?_)
                 refine done_ (done_of HT_.out (by kernel_rfl)) ?_
                 try go_wp2
                 go_ret
                 exact ⟨by first | rfl | (simp [errW_none, errW_some] <;> rfl) | (simp only [← hji97]; first | rfl | (simp [errW_none, errW_some] <;> rfl)) | (simp [*, errW_none, errW_some] <;> rfl), bel⟩
                replace c189 := Bool.eq_false_iff.mpr c189
                subst c189
                have H1 : (some false) = some r := by rw [if_neg (show ¬ (false = true) by decide)] at H; exact H
                clear H
                have H := H1
                clear H1
                obtain rfl := Option.some.inj H
                iterate 3 (refine pvn_ HT_ (h := ?_))
                refine puns_ HT_ 7 [some _, some _, some _, some _, some _, some _, some _] (h := ?_)
                iterate 2 (refine pvn_ HT_ (h := ?_))
                refine puns_ HT_ 14 [some _, some _, some _, some _, some _, some _, some _, some _, some _, some _, some _, some _, some _, some _] (h := ?_)
                refine pvn_ HT_ (h := ?_)
                refine done_ (done_of HT_.out (by kernel_rfl)) ?_
                try go_wp2
                go_ret
                exact ⟨by first | rfl | (simp [errW_none, errW_some] <;> rfl) | (simp only [← hji97]; first | rfl | (simp [errW_none, errW_some] <;> rfl)) | (simp [*, errW_none, errW_some] <;> rfl), bel⟩
               replace c187 := Bool.eq_false_iff.mpr c187
               subst c187
               have H1 : (some false) = some r := by rw [if_neg (show ¬ (false = true) by decide)] at H; exact H
               clear H
               have H := H1
               clear H1
               obtain rfl := Option.some.inj H
               iterate 3 (refine pvn_ HT_ (h := ?_))
               refine puns_ HT_ 5 [some _, some _, some _, some _, some _] (h := ?_)
               iterate 2 (refine pvn_ HT_ (h := ?_))
               refine puns_ HT_ 7 [some _, some _, some _, some _, some _, some _, some _] (h := ?_)
               iterate 2 (refine pvn_ HT_ (h := ?_))
               refine puns_ HT_ 14 [some _, some _, some _, some _, some _, some _, some _, some _, some _, some _, some _, some _, some _, some _] (h := ?_)
               refine pvn_ HT_ (h := ?_)
               refine done_ (done_of HT_.out (by kernel_rfl)) ?_
               try go_wp2
               go_ret
               exact ⟨by first | rfl | (simp [errW_none, errW_some] <;> rfl) | (simp only [← hji97]; first | rfl | (simp [errW_none, errW_some] <;> rfl)) | (simp [*, errW_none, errW_some] <;> rfl), bel⟩
              replace c185 := Bool.eq_false_iff.mpr c185
              subst c185
              have H1 : (some false) = some r := by rw [if_neg (show ¬ (false = true) by decide)] at H; exact H
              clear H
              have H := H1
              clear H1
              obtain rfl := Option.some.inj H
              iterate 2 (refine pvn_ HT_ (h := ?_))
              refine puns_ HT_ 4 [some _, some _, some _, some _] (h := ?_)
              iterate 2 (refine pvn_ HT_ (h := ?_))
              refine puns_ HT_ 5 [some _, some _, some _, some _, some _] (h := ?_)
              iterate 2 (refine pvn_ HT_ (h := ?_))
              refine puns_ HT_ 7 [some _, some _, some _, some _, some _, some _, some _] (h := ?_)
              iterate 2 (refine pvn_ HT_ (h := ?_))
              refine puns_ HT_ 14 [some _, some _, some _, some _, some _, some _, some _, some _, some _, some _, some _, some _, some _, some _] (h := ?_)
              refine pvn_ HT_ (h := ?_)
              refine done_ (done_of HT_.out (by kernel_rfl)) ?_
              try go_wp2
              go_ret
              exact ⟨by first | rfl | (simp [errW_none, errW_some] <;> rfl) | (simp only [← hji97]; first | rfl | (simp [errW_none, errW_some] <;> rfl)) | (simp [*, errW_none, errW_some] <;> rfl), bel⟩
             rw [if_neg c183] at H
             exact absurd H (by simp)
            rw [if_neg c182] at H
            exact absurd H (by simp)
           rw [if_neg c181] at H
           have c181b0 : decide (x185_5 < (l0_5.length : Int)) = false := decide_eq_false c181
           clear c181
           as_aux_lemma =>
            obtain rfl := Option.some.inj H
            go_wp2
            go_ret
            exact ⟨by first | rfl | (simp [errW_none, errW_some] <;> rfl) | (simp only [← hji97]; first | rfl | (simp [errW_none, errW_some] <;> rfl)) | (simp [*, errW_none, errW_some] <;> rfl), bel⟩

end Go.Proofs.Ytdgegnakiljfjaa.PA
