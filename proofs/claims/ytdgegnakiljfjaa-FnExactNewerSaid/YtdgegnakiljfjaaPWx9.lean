-- Written for this claim by the session's program pp.py, out of the kit's print and the seat's translation.
import Derived.Test.YtdgegnakiljfjaaPWx0
import Derived.Test.YtdgegnakiljfjaaPWx6
import Derived.Test.YtdgegnakiljfjaaPWx8
namespace Go.Proofs.Ytdgegnakiljfjaa.PW
open Go.RowKit Go.Proofs.YtdgegnakiljfjaaW.PrintWords Go.Proofs.YtdgegnakiljfjaaW.PrintLast Go.Proofs.YtdgegnakiljfjaaW.PrintMore
attribute [local go_sem] max2_int min2_int max_two min_two max_three min_three max_four min_four   -- for this text's walks alone
set_option linter.unusedVariables false
set_option linter.unusedSimpArgs false

/-! ### impl_NodeOk: function 99 -/
mutual
def impl_NodeOk.j0 : Nat → Int → Bool → Int → Int → Int → List (S147) → Int → Int → Int → Int → List Bool → List Int → List Int → Option (Bool)
 | 0, _, _, _, _, _, _, _, _, _, _, _, _, _ => none
 | k + 1, x1, x41, x276000, x276001, x276002, x276003, x276004, x276005, x276006, x276007, x276008, x276009, x276010 => if x41 = true then (some false) else (impl_NodeOk.l0 k x1 1 x276003 (x276003.length : Int) 0 x276000 x276001 x276002 x276003 x276004 x276005 x276006 x276007 x276008 x276009 x276010)
def impl_NodeOk.l0 : Nat → Int → Int → List (S147) → Int → Int → Int → Int → Int → List (S147) → Int → Int → Int → Int → List Bool → List Int → List Int → Option (Bool)
 | 0, _, _, _, _, _, _, _, _, _, _, _, _, _, _, _, _ => none
 | k + 1, x1, x5, x43, x44, x45, x276000, x276001, x276002, x276003, x276004, x276005, x276006, x276007, x276008, x276009, x276010 => if x45 < x44 then (if 0 ≤ x45 then (if x45 < (x43.length : Int) then ((impl_ItemOk.f k ((rd_T147 x43 x45).f0) ((rd_T147 x43 x45).f1.f0) ((rd_T147 x43 x45).f1.f1) ((rd_T147 x43 x45).f1.f2.f0) ((rd_T147 x43 x45).f1.f2.f1) ((rd_T147 x43 x45).f1.f2.f2) ((rd_T147 x43 x45).f1.f2.f3)).bind fun t282 => (if t282 = true then ((impl_within.f ((rd_T147 x43 x45).f0) x5 x276001).bind fun t283 => (if t283 = true then (impl_NodeOk.l0 k x1 ((rd_T147 x43 x45).f0) x43 x44 (wrap64 (x45 + 1)) x276000 x276001 x276002 x276003 x276004 x276005 x276006 x276007 x276008 x276009 x276010) else (some false))) else (some false))) else (none)) else (none)) else ((impl_within.f x276004 0 (x276003.length : Int)).bind fun t284 => (if t284 = true then ((impl_within.f x276005 0 2).bind fun t285 => (if t285 = true then ((impl_within.f x276007 0 20).bind fun t286 => (if t286 = true then (if (x276008.length : Int) = x1 then (if (x276009.length : Int) = x1 then (impl_NodeOk.j2 k x1 ((x276010.length : Int) != x1) x276000 x276001 x276002 x276003 x276004 x276005 x276006 x276007 x276008 x276009 x276010) else (impl_NodeOk.j2 k x1 true x276000 x276001 x276002 x276003 x276004 x276005 x276006 x276007 x276008 x276009 x276010)) else (impl_NodeOk.j2 k x1 true x276000 x276001 x276002 x276003 x276004 x276005 x276006 x276007 x276008 x276009 x276010)) else (impl_NodeOk.j2 k x1 true x276000 x276001 x276002 x276003 x276004 x276005 x276006 x276007 x276008 x276009 x276010))) else (impl_NodeOk.j2 k x1 true x276000 x276001 x276002 x276003 x276004 x276005 x276006 x276007 x276008 x276009 x276010))) else (impl_NodeOk.j2 k x1 true x276000 x276001 x276002 x276003 x276004 x276005 x276006 x276007 x276008 x276009 x276010)))
def impl_NodeOk.j2 : Nat → Int → Bool → Int → Int → Int → List (S147) → Int → Int → Int → Int → List Bool → List Int → List Int → Option (Bool)
 | 0, _, _, _, _, _, _, _, _, _, _, _, _, _ => none
 | k + 1, x1, x103, x276000, x276001, x276002, x276003, x276004, x276005, x276006, x276007, x276008, x276009, x276010 => if x103 = true then (some false) else (if x276005 = 0 then ((slices_Contains_bool_bool.f k x276008 true).bind fun t287 => (if t287 = true then (impl_NodeOk.j3 k x1 true x276000 x276001 x276002 x276003 x276004 x276005 x276006 x276007 x276008 x276009 x276010) else (if x276005 = 2 then (impl_NodeOk.j3 k x1 (x276006 != x276000) x276000 x276001 x276002 x276003 x276004 x276005 x276006 x276007 x276008 x276009 x276010) else (impl_NodeOk.j3 k x1 false x276000 x276001 x276002 x276003 x276004 x276005 x276006 x276007 x276008 x276009 x276010)))) else (if x276001 < 1 then (impl_NodeOk.j3 k x1 true x276000 x276001 x276002 x276003 x276004 x276005 x276006 x276007 x276008 x276009 x276010) else (if x276002 = x276000 then (if x276005 = 2 then (impl_NodeOk.j3 k x1 (x276006 != x276000) x276000 x276001 x276002 x276003 x276004 x276005 x276006 x276007 x276008 x276009 x276010) else (impl_NodeOk.j3 k x1 false x276000 x276001 x276002 x276003 x276004 x276005 x276006 x276007 x276008 x276009 x276010)) else (impl_NodeOk.j3 k x1 true x276000 x276001 x276002 x276003 x276004 x276005 x276006 x276007 x276008 x276009 x276010))))
def impl_NodeOk.j3 : Nat → Int → Bool → Int → Int → Int → List (S147) → Int → Int → Int → Int → List Bool → List Int → List Int → Option (Bool)
 | 0, _, _, _, _, _, _, _, _, _, _, _, _, _ => none
 | k + 1, x1, x140, x276000, x276001, x276002, x276003, x276004, x276005, x276006, x276007, x276008, x276009, x276010 => if x140 = true then (some false) else (impl_NodeOk.l1 k x1 0 x276000 x276001 x276002 x276003 x276004 x276005 x276006 x276007 x276008 x276009 x276010)
def impl_NodeOk.l1 : Nat → Int → Int → Int → Int → Int → List (S147) → Int → Int → Int → Int → List Bool → List Int → List Int → Option (Bool)
 | 0, _, _, _, _, _, _, _, _, _, _, _, _, _ => none
 | k + 1, x141, x142, x276000, x276001, x276002, x276003, x276004, x276005, x276006, x276007, x276008, x276009, x276010 => if x142 < x141 then (if x276005 = 2 then (if 0 ≤ x142 then (if x142 < (x276009.length : Int) then ((impl_within.f (rd x276009 x142) 1 (wrap64 ((x276003.length : Int) + 1))).bind fun t289 => (if t289 = true then (if x142 < (x276010.length : Int) then ((impl_within.f (rd x276010 x142) 0 (x276003.length : Int)).bind fun t291 => (if t291 = true then (impl_NodeOk.l1 k x141 (wrap64 (x142 + 1)) x276000 x276001 x276002 x276003 x276004 x276005 x276006 x276007 x276008 x276009 x276010) else (some false))) else (none)) else (some false))) else (none)) else (none)) else (if 0 ≤ x142 then (if x142 < (x276009.length : Int) then (if (rd x276009 x142) = 0 then (if x142 < (x276010.length : Int) then (if (rd x276010 x142) = 0 then (impl_NodeOk.l1 k x141 (wrap64 (x142 + 1)) x276000 x276001 x276002 x276003 x276004 x276005 x276006 x276007 x276008 x276009 x276010) else (some false)) else (none)) else (some false)) else (none)) else (none))) else (some true)
end
def impl_NodeOk.f (k : Nat) (a0_0 : Int) (a0_1 : Int) (a0_2 : Int) (l0_3 : List (S147)) (a0_4 : Int) (a0_5 : Int) (a0_6 : Int) (a0_7 : Int) (l0_8 : List Bool) (l0_9 : List Int) (l0_10 : List Int) (a1 : Int) : Option (Bool) := (impl_isServer.f a0_0 a1).bind fun t276 => (if t276 = true then ((impl_within.f a0_1 0 100000).bind fun t277 => (if t277 = true then ((impl_within.f a0_2 (-1) (wrap64 (a1 - 1))).bind fun t278 => (if t278 = true then ((impl_within.f a0_6 (-1) (wrap64 (a1 - 1))).bind fun t279 => (if t279 = true then (impl_NodeOk.j0 k a1 (decide ((l0_3.length : Int) > 400)) a0_0 a0_1 a0_2 l0_3 a0_4 a0_5 a0_6 a0_7 l0_8 l0_9 l0_10) else (impl_NodeOk.j0 k a1 true a0_0 a0_1 a0_2 l0_3 a0_4 a0_5 a0_6 a0_7 l0_8 l0_9 l0_10))) else (impl_NodeOk.j0 k a1 true a0_0 a0_1 a0_2 l0_3 a0_4 a0_5 a0_6 a0_7 l0_8 l0_9 l0_10))) else (impl_NodeOk.j0 k a1 true a0_0 a0_1 a0_2 l0_3 a0_4 a0_5 a0_6 a0_7 l0_8 l0_9 l0_10))) else (impl_NodeOk.j0 k a1 true a0_0 a0_1 a0_2 l0_3 a0_4 a0_5 a0_6 a0_7 l0_8 l0_9 l0_10))
def impl_NodeOk.T18 : Bool × List (List Nat × List Nat) := (true, [([], []), ([0], [0]), ([1], [1]), ([2], [2]), ([3], [3]), ([4, 3], [3, 4]), ([3], [3]), ([5, 6, 3], [3, 5, 6]), ([7, 3], [3, 7]), ([3], [3]), ([9, 3], [3, 9]), ([10, 3], [3, 10]), ([11, 3], [3, 11]), ([8, 12, 3, 3], [3, 8, 12]), ([13, 3], [3, 13]), ([14, 13, 3], [3, 14]), ([15], [15]), ([16, 15], [15, 16]), ([15], [15]), ([17, 18, 15], [15, 17, 18]), ([19, 15], [15, 19]), ([15], [15]), ([21, 15], [15, 21]), ([22, 15], [15, 22]), ([20, 23, 15, 15], [15, 20, 23]), ([24, 15], [15, 24]), ([15, 25, 3], [3, 15, 25]), ([3, 26], [3, 26]), ([27, 24], [27]), ([28], [28]), ([29, 28], [28, 29]), ([30, 28], [28, 30]), ([31, 28, 28], [28, 31]), ([32], [32]), ([33, 32], [32, 33]), ([32], [32]), ([34, 35, 32], [32, 34, 35]), ([36, 32], [32, 36]), ([37, 32], [32, 37]), ([38, 32, 32], [32, 38]), ([39], [39]), ([40, 39], [39, 40]), ([39], [39]), ([41, 42, 39], [39, 41, 42]), ([43, 39], [39, 43]), ([44, 39], [39, 44]), ([39, 45, 32], [32, 39, 45]), ([32, 46, 28], [28, 32, 46]), ([28, 47], [28, 47])])
def impl_NodeOk.B18 : List Nat := [0, 1, 3, 7, 15, 31, 15, 127, 255, 15, 527, 1551, 3599, 8191, 16383, 32767, 65535, 131071, 65535, 524287, 1048575, 65535, 2162687, 6356991, 16777215, 33554431, 67108863, 134217727, 268435455, 536870911, 1073741823, 2147483647, 4294967295, 8589934591, 17179869183, 8589934591, 68719476735, 137438953471, 274877906943, 549755813887, 1099511627775, 2199023255551, 1099511627775, 8796093022207, 17592186044415, 35184372088831, 70368744177663, 140737488355327, 281474976710655]
theorem impl_NodeOk.tab18 : rtab .any (opsOf Try.f99 18) = impl_NodeOk.T18 := by kernel_rfl
theorem impl_NodeOk.bits18 : waitsOk impl_NodeOk.T18.2 impl_NodeOk.B18 = true := by kernel_rfl
set_option maxHeartbeats 200000000 in
set_option maxRecDepth 100000 in
theorem impl_NodeOk.calls (k : Nat) (a0_0 : Int) (a0_1 : Int) (a0_2 : Int) (A0_3 : Option Addr) (c0_3 : Nat) (l0_3 : List (S147)) (a0_4 : Int) (a0_5 : Int) (a0_6 : Int) (a0_7 : Int) (A0_8 : Option Addr) (c0_8 : Nat) (l0_8 : List Bool) (A0_9 : Option Addr) (c0_9 : Nat) (l0_9 : List Int) (A0_10 : Option Addr) (c0_10 : Nat) (l0_10 : List Int) (a1 : Int) (r : Bool) (w : World) (hr0_3 : Kd.C k147 w A0_3 l0_3.length l0_3) (hc0_3 : l0_3.length ≤ c0_3) (hr0_8 : Kd.C Kd.bool w A0_8 l0_8.length l0_8) (hc0_8 : l0_8.length ≤ c0_8) (hr0_9 : Kd.C (Kd.int .i64) w A0_9 l0_9.length l0_9) (hc0_9 : l0_9.length ≤ c0_9) (hr0_10 : Kd.C (Kd.int .i64) w A0_10 l0_10.length l0_10) (hc0_10 : l0_10.length ≤ c0_10) (h : impl_NodeOk.f k a0_0 a0_1 a0_2 l0_3 a0_4 a0_5 a0_6 a0_7 l0_8 l0_9 l0_10 a1 = some r) :
  Calls Try.prog 99 #[.agg #[.int .i64 a0_0, .int .i64 a0_1, .int .i64 a0_2, .slice A0_3 l0_3.length c0_3, .int .i64 a0_4, .int .i64 a0_5, .int .i64 a0_6, .int .i64 a0_7, .slice A0_8 l0_8.length c0_8, .slice A0_9 l0_9.length c0_9, .slice A0_10 l0_10.length c0_10], .int .i64 a1] w fun e w' => e = .returned (.bool r) ∧ Below w.heap.size w w' := by
 have hu48 := Try.underlying48
 have hu147 := Try.underlying147
 have HR0_3 := Aside0.mk hr0_3
 have HC0_3 := Aside0.mk hc0_3
 clear hr0_3 hc0_3
 have HR0_8 := Aside0.mk hr0_8
 have HC0_8 := Aside0.mk hc0_8
 clear hr0_8 hc0_8
 have HR0_9 := Aside0.mk hr0_9
 have HC0_9 := Aside0.mk hc0_9
 clear hr0_9 hc0_9
 have HR0_10 := Aside0.mk hr0_10
 have HC0_10 := Aside0.mk hc0_10
 clear hr0_10 hc0_10
 have HB := Aside0.mk (Below.refl w.heap.size w)
 have H : ((impl_isServer.f a0_0 a1).bind fun t276 => (if t276 = true then ((impl_within.f a0_1 0 100000).bind fun t277 => (if t277 = true then ((impl_within.f a0_2 (-1) (wrap64 (a1 - 1))).bind fun t278 => (if t278 = true then ((impl_within.f a0_6 (-1) (wrap64 (a1 - 1))).bind fun t279 => (if t279 = true then (impl_NodeOk.j0 k a1 (decide ((l0_3.length : Int) > 400)) a0_0 a0_1 a0_2 l0_3 a0_4 a0_5 a0_6 a0_7 l0_8 l0_9 l0_10) else (impl_NodeOk.j0 k a1 true a0_0 a0_1 a0_2 l0_3 a0_4 a0_5 a0_6 a0_7 l0_8 l0_9 l0_10))) else (impl_NodeOk.j0 k a1 true a0_0 a0_1 a0_2 l0_3 a0_4 a0_5 a0_6 a0_7 l0_8 l0_9 l0_10))) else (impl_NodeOk.j0 k a1 true a0_0 a0_1 a0_2 l0_3 a0_4 a0_5 a0_6 a0_7 l0_8 l0_9 l0_10))) else (impl_NodeOk.j0 k a1 true a0_0 a0_1 a0_2 l0_3 a0_4 a0_5 a0_6 a0_7 l0_8 l0_9 l0_10))) = some r := h
 clear h
 have HC3 := Aside0.mk H
 clear H
 go_enter Try.func99, Try.ntmps99
 go_upto_region 1 with (first | ((with_reducible refine gate_dst (N := 2) rfl ?_); (try (refine gate_guard (by rfl) ?_; dsimp only)); refine bx_ 2 #[.int .i64 a0_0, .int .i64 a0_1, .int .i64 a0_2, .slice A0_3 l0_3.length c0_3, .int .i64 a0_4, .int .i64 a0_5, .int .i64 a0_6, .int .i64 a0_7, .slice A0_8 l0_8.length c0_8, .slice A0_9 l0_9.length c0_9, .slice A0_10 l0_10.length c0_10] 48 (h := ?_); intro gb275 hg w4 hbox hb; have BK275 := Aside0.mk (hbox); have GW275 := Aside0.mk ((by rw [hg]; exact (below_size bel) : w.heap.size ≤ gb275)); have GE275 := Aside0.mk ((by rw [hg]; exact (below_size bel) : w.heap.size ≤ gb275)); replace HB := Aside0.mk (below_step bel hb); clear hb hbox hg))
 (try simp only [Act.put, List.setIfInBounds_toArray, List.set_cons_zero, List.set_cons_succ])
 go_cut [41] (fun v41 wc => ∃ (kq : Nat) (x41_2 : Bool), v41 = .bool x41_2 ∧ Aside0 (impl_NodeOk.j0 kq a1 x41_2 a0_0 a0_1 a0_2 l0_3 a0_4 a0_5 a0_6 a0_7 l0_8 l0_9 l0_10 = some r) ∧ Aside0 (kq ≤ k) ∧ Aside0 (wc.heap[gb275]? = some (.cells #[.int .i64 a0_0, .int .i64 a0_1, .int .i64 a0_2, (.slice A0_3 l0_3.length c0_3), .int .i64 a0_4, .int .i64 a0_5, .int .i64 a0_6, .int .i64 a0_7, (.slice A0_8 l0_8.length c0_8), (.slice A0_9 l0_9.length c0_9), (.slice A0_10 l0_10.length c0_10)] 48 (0, 0))) ∧ Aside0 (Below w.heap.size w wc))
 case first => as_aux_lemma =>
  have H := HC3.out
  clear HC3
  replace H := Option.bind_eq_some_iff.mp H
  obtain ⟨t276, A50, H⟩ := H
  replace H : (if t276 = true then ((impl_within.f a0_1 0 100000).bind fun t277 => (if t277 = true then ((impl_within.f a0_2 (-1) (wrap64 (a1 - 1))).bind fun t278 => (if t278 = true then ((impl_within.f a0_6 (-1) (wrap64 (a1 - 1))).bind fun t279 => (if t279 = true then (impl_NodeOk.j0 k a1 (decide ((l0_3.length : Int) > 400)) a0_0 a0_1 a0_2 l0_3 a0_4 a0_5 a0_6 a0_7 l0_8 l0_9 l0_10) else (impl_NodeOk.j0 k a1 true a0_0 a0_1 a0_2 l0_3 a0_4 a0_5 a0_6 a0_7 l0_8 l0_9 l0_10))) else (impl_NodeOk.j0 k a1 true a0_0 a0_1 a0_2 l0_3 a0_4 a0_5 a0_6 a0_7 l0_8 l0_9 l0_10))) else (impl_NodeOk.j0 k a1 true a0_0 a0_1 a0_2 l0_3 a0_4 a0_5 a0_6 a0_7 l0_8 l0_9 l0_10))) else (impl_NodeOk.j0 k a1 true a0_0 a0_1 a0_2 l0_3 a0_4 a0_5 a0_6 a0_7 l0_8 l0_9 l0_10)) = some r := H
  have A5 := Aside0.mk A50
  clear A50
  by_cases c6 : t276 = true
  ·subst c6
   have H1 : ((impl_within.f a0_1 0 100000).bind fun t277 => (if t277 = true then ((impl_within.f a0_2 (-1) (wrap64 (a1 - 1))).bind fun t278 => (if t278 = true then ((impl_within.f a0_6 (-1) (wrap64 (a1 - 1))).bind fun t279 => (if t279 = true then (impl_NodeOk.j0 k a1 (decide ((l0_3.length : Int) > 400)) a0_0 a0_1 a0_2 l0_3 a0_4 a0_5 a0_6 a0_7 l0_8 l0_9 l0_10) else (impl_NodeOk.j0 k a1 true a0_0 a0_1 a0_2 l0_3 a0_4 a0_5 a0_6 a0_7 l0_8 l0_9 l0_10))) else (impl_NodeOk.j0 k a1 true a0_0 a0_1 a0_2 l0_3 a0_4 a0_5 a0_6 a0_7 l0_8 l0_9 l0_10))) else (impl_NodeOk.j0 k a1 true a0_0 a0_1 a0_2 l0_3 a0_4 a0_5 a0_6 a0_7 l0_8 l0_9 l0_10))) = some r := by rw [if_pos rfl] at H; exact H
   clear H
   have H := H1
   clear H1
   replace H := Option.bind_eq_some_iff.mp H
   obtain ⟨t277, A70, H⟩ := H
   replace H : (if t277 = true then ((impl_within.f a0_2 (-1) (wrap64 (a1 - 1))).bind fun t278 => (if t278 = true then ((impl_within.f a0_6 (-1) (wrap64 (a1 - 1))).bind fun t279 => (if t279 = true then (impl_NodeOk.j0 k a1 (decide ((l0_3.length : Int) > 400)) a0_0 a0_1 a0_2 l0_3 a0_4 a0_5 a0_6 a0_7 l0_8 l0_9 l0_10) else (impl_NodeOk.j0 k a1 true a0_0 a0_1 a0_2 l0_3 a0_4 a0_5 a0_6 a0_7 l0_8 l0_9 l0_10))) else (impl_NodeOk.j0 k a1 true a0_0 a0_1 a0_2 l0_3 a0_4 a0_5 a0_6 a0_7 l0_8 l0_9 l0_10))) else (impl_NodeOk.j0 k a1 true a0_0 a0_1 a0_2 l0_3 a0_4 a0_5 a0_6 a0_7 l0_8 l0_9 l0_10)) = some r := H
   have A7 := Aside0.mk A70
   clear A70
   by_cases c8 : t277 = true
   ·subst c8
    have H1 : ((impl_within.f a0_2 (-1) (wrap64 (a1 - 1))).bind fun t278 => (if t278 = true then ((impl_within.f a0_6 (-1) (wrap64 (a1 - 1))).bind fun t279 => (if t279 = true then (impl_NodeOk.j0 k a1 (decide ((l0_3.length : Int) > 400)) a0_0 a0_1 a0_2 l0_3 a0_4 a0_5 a0_6 a0_7 l0_8 l0_9 l0_10) else (impl_NodeOk.j0 k a1 true a0_0 a0_1 a0_2 l0_3 a0_4 a0_5 a0_6 a0_7 l0_8 l0_9 l0_10))) else (impl_NodeOk.j0 k a1 true a0_0 a0_1 a0_2 l0_3 a0_4 a0_5 a0_6 a0_7 l0_8 l0_9 l0_10))) = some r := by rw [if_pos rfl] at H; exact H
    clear H
    have H := H1
    clear H1
    replace H := Option.bind_eq_some_iff.mp H
    obtain ⟨t278, A90, H⟩ := H
    replace H : (if t278 = true then ((impl_within.f a0_6 (-1) (wrap64 (a1 - 1))).bind fun t279 => (if t279 = true then (impl_NodeOk.j0 k a1 (decide ((l0_3.length : Int) > 400)) a0_0 a0_1 a0_2 l0_3 a0_4 a0_5 a0_6 a0_7 l0_8 l0_9 l0_10) else (impl_NodeOk.j0 k a1 true a0_0 a0_1 a0_2 l0_3 a0_4 a0_5 a0_6 a0_7 l0_8 l0_9 l0_10))) else (impl_NodeOk.j0 k a1 true a0_0 a0_1 a0_2 l0_3 a0_4 a0_5 a0_6 a0_7 l0_8 l0_9 l0_10)) = some r := H
    have A9 := Aside0.mk A90
    clear A90
    by_cases c10 : t278 = true
    ·subst c10
     have H1 : ((impl_within.f a0_6 (-1) (wrap64 (a1 - 1))).bind fun t279 => (if t279 = true then (impl_NodeOk.j0 k a1 (decide ((l0_3.length : Int) > 400)) a0_0 a0_1 a0_2 l0_3 a0_4 a0_5 a0_6 a0_7 l0_8 l0_9 l0_10) else (impl_NodeOk.j0 k a1 true a0_0 a0_1 a0_2 l0_3 a0_4 a0_5 a0_6 a0_7 l0_8 l0_9 l0_10))) = some r := by rw [if_pos rfl] at H; exact H
     clear H
     have H := H1
     clear H1
     replace H := Option.bind_eq_some_iff.mp H
     obtain ⟨t279, A110, H⟩ := H
     replace H : (if t279 = true then (impl_NodeOk.j0 k a1 (decide ((l0_3.length : Int) > 400)) a0_0 a0_1 a0_2 l0_3 a0_4 a0_5 a0_6 a0_7 l0_8 l0_9 l0_10) else (impl_NodeOk.j0 k a1 true a0_0 a0_1 a0_2 l0_3 a0_4 a0_5 a0_6 a0_7 l0_8 l0_9 l0_10)) = some r := H
     have A11 := Aside0.mk A110
     clear A110
     by_cases c12 : t279 = true
     ·subst c12
      have H1 : (impl_NodeOk.j0 k a1 (decide ((l0_3.length : Int) > 400)) a0_0 a0_1 a0_2 l0_3 a0_4 a0_5 a0_6 a0_7 l0_8 l0_9 l0_10) = some r := by rw [if_pos rfl] at H; exact H
      clear H
      have H := H1
      clear H1
      have H' := Aside0.mk H
      clear H
      obtain ⟨hcz13_0, hcz13_1, hcz13_2, hcz13_3, hcz13_4, hcz13_5, hcz13_6, hcz13_7, hcz13_8, hcz13_9, hcz13_10, -⟩ := cells_11 BK275.out trivial
      obtain ⟨hfz13_0, hfz13_1, hfz13_2, hfz13_3, hfz13_4, hfz13_5, hfz13_6, hfz13_7, hfz13_8, hfz13_9, hfz13_10, -⟩ := frz_11 BK275.out
      go_wp2_with (first | ((with_reducible refine gate_callee (f := 162) rfl ?_); refine gl_ (some 12) Try.func162 #[.int .i64 a0_0, .int .i64 a1] (h := ?_); (with_reducible refine (impl_isServer.calls a0_0 a1 true _ A5.out).mono ?_); rintro e w' ⟨rfl, ⟨nd, rfl⟩⟩; refine ⟨_, rfl, ?_⟩) | (go_at_call 81; (with_reducible refine (impl_within.calls a0_1 0 100000 true _ A7.out).mono ?_); rintro e w' ⟨rfl, ⟨nd, rfl⟩⟩) | (go_at_call 81; (with_reducible refine (impl_within.calls a0_2 (-1) (wrap64 (a1 - 1)) true _ A9.out).mono ?_); rintro e w' ⟨rfl, ⟨nd, rfl⟩⟩) | (go_at_call 81; (with_reducible refine (impl_within.calls a0_6 (-1) (wrap64 (a1 - 1)) true _ A11.out).mono ?_); rintro e w' ⟨rfl, ⟨nd, rfl⟩⟩))
      go_meet
      case rel => exact ⟨_, (decide ((l0_3.length : Int) > 400)), (by first | rfl | (simp; done) | (simp [*]; done)), H', ⟨by first | omega | exact Nat.le_refl _⟩, ⟨by (with_reducible repeat (first | refine blk_drewN ?_ _ | refine blk_drew ?_ | refine blk_alloc ?_ _)); exact BK275.out⟩, ⟨by repeat (first | (with_reducible first | exact HB.out | apply below_alloc | apply pw_below_drewN | apply below_drew1 | refine below_set ?_ GE275.out) | exact HB.out)⟩⟩
     ·replace c12 := Bool.eq_false_iff.mpr c12
      subst c12
      have H1 : (impl_NodeOk.j0 k a1 true a0_0 a0_1 a0_2 l0_3 a0_4 a0_5 a0_6 a0_7 l0_8 l0_9 l0_10) = some r := by rw [if_neg (show ¬ (false = true) by decide)] at H; exact H
      clear H
      have H := H1
      clear H1
      have H' := Aside0.mk H
      clear H
      obtain ⟨hcz14_0, hcz14_1, hcz14_2, hcz14_3, hcz14_4, hcz14_5, hcz14_6, hcz14_7, hcz14_8, hcz14_9, hcz14_10, -⟩ := cells_11 BK275.out trivial
      obtain ⟨hfz14_0, hfz14_1, hfz14_2, hfz14_3, hfz14_4, hfz14_5, hfz14_6, hfz14_7, hfz14_8, hfz14_9, hfz14_10, -⟩ := frz_11 BK275.out
      go_wp2_with (first | ((with_reducible refine gate_callee (f := 162) rfl ?_); refine gl_ (some 12) Try.func162 #[.int .i64 a0_0, .int .i64 a1] (h := ?_); (with_reducible refine (impl_isServer.calls a0_0 a1 true _ A5.out).mono ?_); rintro e w' ⟨rfl, ⟨nd, rfl⟩⟩; refine ⟨_, rfl, ?_⟩) | (go_at_call 81; (with_reducible refine (impl_within.calls a0_1 0 100000 true _ A7.out).mono ?_); rintro e w' ⟨rfl, ⟨nd, rfl⟩⟩) | (go_at_call 81; (with_reducible refine (impl_within.calls a0_2 (-1) (wrap64 (a1 - 1)) true _ A9.out).mono ?_); rintro e w' ⟨rfl, ⟨nd, rfl⟩⟩) | (go_at_call 81; (with_reducible refine (impl_within.calls a0_6 (-1) (wrap64 (a1 - 1)) false _ A11.out).mono ?_); rintro e w' ⟨rfl, ⟨nd, rfl⟩⟩))
      go_meet
      case rel => exact ⟨_, (true), (by first | rfl | (simp; done) | (simp [*]; done)), H', ⟨by first | omega | exact Nat.le_refl _⟩, ⟨by (with_reducible repeat (first | refine blk_drewN ?_ _ | refine blk_drew ?_ | refine blk_alloc ?_ _)); exact BK275.out⟩, ⟨by repeat (first | (with_reducible first | exact HB.out | apply below_alloc | apply pw_below_drewN | apply below_drew1 | refine below_set ?_ GE275.out) | exact HB.out)⟩⟩
    ·replace c10 := Bool.eq_false_iff.mpr c10
     subst c10
     have H1 : (impl_NodeOk.j0 k a1 true a0_0 a0_1 a0_2 l0_3 a0_4 a0_5 a0_6 a0_7 l0_8 l0_9 l0_10) = some r := by rw [if_neg (show ¬ (false = true) by decide)] at H; exact H
     clear H
     have H := H1
     clear H1
     have H' := Aside0.mk H
     clear H
     obtain ⟨hcz15_0, hcz15_1, hcz15_2, hcz15_3, hcz15_4, hcz15_5, hcz15_6, hcz15_7, hcz15_8, hcz15_9, hcz15_10, -⟩ := cells_11 BK275.out trivial
     obtain ⟨hfz15_0, hfz15_1, hfz15_2, hfz15_3, hfz15_4, hfz15_5, hfz15_6, hfz15_7, hfz15_8, hfz15_9, hfz15_10, -⟩ := frz_11 BK275.out
     go_wp2_with (first | ((with_reducible refine gate_callee (f := 162) rfl ?_); refine gl_ (some 12) Try.func162 #[.int .i64 a0_0, .int .i64 a1] (h := ?_); (with_reducible refine (impl_isServer.calls a0_0 a1 true _ A5.out).mono ?_); rintro e w' ⟨rfl, ⟨nd, rfl⟩⟩; refine ⟨_, rfl, ?_⟩) | (go_at_call 81; (with_reducible refine (impl_within.calls a0_1 0 100000 true _ A7.out).mono ?_); rintro e w' ⟨rfl, ⟨nd, rfl⟩⟩) | (go_at_call 81; (with_reducible refine (impl_within.calls a0_2 (-1) (wrap64 (a1 - 1)) false _ A9.out).mono ?_); rintro e w' ⟨rfl, ⟨nd, rfl⟩⟩))
     go_meet
     case rel => exact ⟨_, (true), (by first | rfl | (simp; done) | (simp [*]; done)), H', ⟨by first | omega | exact Nat.le_refl _⟩, ⟨by (with_reducible repeat (first | refine blk_drewN ?_ _ | refine blk_drew ?_ | refine blk_alloc ?_ _)); exact BK275.out⟩, ⟨by repeat (first | (with_reducible first | exact HB.out | apply below_alloc | apply pw_below_drewN | apply below_drew1 | refine below_set ?_ GE275.out) | exact HB.out)⟩⟩
   ·replace c8 := Bool.eq_false_iff.mpr c8
    subst c8
    have H1 : (impl_NodeOk.j0 k a1 true a0_0 a0_1 a0_2 l0_3 a0_4 a0_5 a0_6 a0_7 l0_8 l0_9 l0_10) = some r := by rw [if_neg (show ¬ (false = true) by decide)] at H; exact H
    clear H
    have H := H1
    clear H1
    have H' := Aside0.mk H
    clear H
    obtain ⟨hcz16_0, hcz16_1, hcz16_2, hcz16_3, hcz16_4, hcz16_5, hcz16_6, hcz16_7, hcz16_8, hcz16_9, hcz16_10, -⟩ := cells_11 BK275.out trivial
    obtain ⟨hfz16_0, hfz16_1, hfz16_2, hfz16_3, hfz16_4, hfz16_5, hfz16_6, hfz16_7, hfz16_8, hfz16_9, hfz16_10, -⟩ := frz_11 BK275.out
    go_wp2_with (first | ((with_reducible refine gate_callee (f := 162) rfl ?_); refine gl_ (some 12) Try.func162 #[.int .i64 a0_0, .int .i64 a1] (h := ?_); (with_reducible refine (impl_isServer.calls a0_0 a1 true _ A5.out).mono ?_); rintro e w' ⟨rfl, ⟨nd, rfl⟩⟩; refine ⟨_, rfl, ?_⟩) | (go_at_call 81; (with_reducible refine (impl_within.calls a0_1 0 100000 false _ A7.out).mono ?_); rintro e w' ⟨rfl, ⟨nd, rfl⟩⟩))
    go_meet
    case rel => exact ⟨_, (true), (by first | rfl | (simp; done) | (simp [*]; done)), H', ⟨by first | omega | exact Nat.le_refl _⟩, ⟨by (with_reducible repeat (first | refine blk_drewN ?_ _ | refine blk_drew ?_ | refine blk_alloc ?_ _)); exact BK275.out⟩, ⟨by repeat (first | (with_reducible first | exact HB.out | apply below_alloc | apply pw_below_drewN | apply below_drew1 | refine below_set ?_ GE275.out) | exact HB.out)⟩⟩
  ·replace c6 := Bool.eq_false_iff.mpr c6
   subst c6
   have H1 : (impl_NodeOk.j0 k a1 true a0_0 a0_1 a0_2 l0_3 a0_4 a0_5 a0_6 a0_7 l0_8 l0_9 l0_10) = some r := by rw [if_neg (show ¬ (false = true) by decide)] at H; exact H
   clear H
   have H := H1
   clear H1
   have H' := Aside0.mk H
   clear H
   obtain ⟨hcz17_0, hcz17_1, hcz17_2, hcz17_3, hcz17_4, hcz17_5, hcz17_6, hcz17_7, hcz17_8, hcz17_9, hcz17_10, -⟩ := cells_11 BK275.out trivial
   obtain ⟨hfz17_0, hfz17_1, hfz17_2, hfz17_3, hfz17_4, hfz17_5, hfz17_6, hfz17_7, hfz17_8, hfz17_9, hfz17_10, -⟩ := frz_11 BK275.out
   go_wp2_with (first | ((with_reducible refine gate_callee (f := 162) rfl ?_); refine gl_ (some 12) Try.func162 #[.int .i64 a0_0, .int .i64 a1] (h := ?_); (with_reducible refine (impl_isServer.calls a0_0 a1 false _ A5.out).mono ?_); rintro e w' ⟨rfl, ⟨nd, rfl⟩⟩; refine ⟨_, rfl, ?_⟩))
   go_meet
   case rel => exact ⟨_, (true), (by first | rfl | (simp; done) | (simp [*]; done)), H', ⟨by first | omega | exact Nat.le_refl _⟩, ⟨by (with_reducible repeat (first | refine blk_drewN ?_ _ | refine blk_drew ?_ | refine blk_alloc ?_ _)); exact BK275.out⟩, ⟨by repeat (first | (with_reducible first | exact HB.out | apply below_alloc | apply pw_below_drewN | apply below_drew1 | refine below_set ?_ GE275.out) | exact HB.out)⟩⟩
 case rest =>
  clear HC3
  try clear c1; try clear p2; try clear c6; try clear p6; try clear c8; try clear c9; try clear c10; try clear c12; try clear c16; try clear hcz13_0; try clear hcz13_1; try clear hcz13_10; try clear hcz13_2; try clear hcz13_3; try clear hcz13_4; try clear hcz13_5; try clear hcz13_6; try clear hcz13_7; try clear hcz13_8; try clear hcz13_9; try clear hcz14_0; try clear hcz14_1; try clear hcz14_10; try clear hcz14_2; try clear hcz14_3; try clear hcz14_4; try clear hcz14_5; try clear hcz14_6; try clear hcz14_7; try clear hcz14_8; try clear hcz14_9; try clear hcz15_0; try clear hcz15_1; try clear hcz15_10; try clear hcz15_2; try clear hcz15_3; try clear hcz15_4; try clear hcz15_5; try clear hcz15_6; try clear hcz15_7; try clear hcz15_8; try clear hcz15_9; try clear hcz16_0; try clear hcz16_1; try clear hcz16_10; try clear hcz16_2; try clear hcz16_3; try clear hcz16_4; try clear hcz16_5; try clear hcz16_6; try clear hcz16_7; try clear hcz16_8; try clear hcz16_9; try clear hcz17_0; try clear hcz17_1; try clear hcz17_10; try clear hcz17_2; try clear hcz17_3; try clear hcz17_4; try clear hcz17_5; try clear hcz17_6; try clear hcz17_7; try clear hcz17_8; try clear hcz17_9; try clear hfz13_0; try clear hfz13_1; try clear hfz13_10; try clear hfz13_2; try clear hfz13_3; try clear hfz13_4; try clear hfz13_5; try clear hfz13_6; try clear hfz13_7; try clear hfz13_8; try clear hfz13_9; try clear hfz14_0; try clear hfz14_1; try clear hfz14_10; try clear hfz14_2; try clear hfz14_3; try clear hfz14_4; try clear hfz14_5; try clear hfz14_6; try clear hfz14_7; try clear hfz14_8; try clear hfz14_9; try clear hfz15_0; try clear hfz15_1; try clear hfz15_10; try clear hfz15_2; try clear hfz15_3; try clear hfz15_4; try clear hfz15_5; try clear hfz15_6; try clear hfz15_7; try clear hfz15_8; try clear hfz15_9; try clear hfz16_0; try clear hfz16_1; try clear hfz16_10; try clear hfz16_2; try clear hfz16_3; try clear hfz16_4; try clear hfz16_5; try clear hfz16_6; try clear hfz16_7; try clear hfz16_8; try clear hfz16_9; try clear hfz17_0; try clear hfz17_1; try clear hfz17_10; try clear hfz17_2; try clear hfz17_3; try clear hfz17_4; try clear hfz17_5; try clear hfz17_6; try clear hfz17_7; try clear hfz17_8; try clear hfz17_9
  obtain ⟨kq, x41_2, rfl, HA, HJ2, BK275, HB⟩ := hcut
  cases kq with
  | zero => exact absurd HA.out (by simp [impl_NodeOk.j0])
  | succ kj2 =>
   have H := HA.out
   clear HA
   simp only [impl_NodeOk.j0] at H
   by_cases c18 : x41_2 = true
   ·subst c18
    have H1 : (some false) = some r := by rw [if_pos rfl] at H; exact H
    clear H
    have H := H1
    clear H1
    obtain rfl := Option.some.inj H
    go_wp2
    go_ret
    exact ⟨by first | rfl | (simp [errW_none, errW_some] <;> rfl) | (simp [*, errW_none, errW_some] <;> rfl), by repeat (first | (with_reducible first | exact HB.out | apply below_alloc | apply pw_below_drewN | apply below_drew1 | refine below_set ?_ GE275.out) | exact HB.out)⟩
   ·replace c18 := Bool.eq_false_iff.mpr c18
    subst c18
    have H1 : (impl_NodeOk.l0 kj2 a1 1 l0_3 (l0_3.length : Int) 0 a0_0 a0_1 a0_2 l0_3 a0_4 a0_5 a0_6 a0_7 l0_8 l0_9 l0_10) = some r := by rw [if_neg (show ¬ (false = true) by decide)] at H; exact H
    clear H
    have H := H1
    clear H1
    have H' := Aside0.mk H
    clear H
    obtain ⟨hcz19_0, hcz19_1, hcz19_2, hcz19_3, hcz19_4, hcz19_5, hcz19_6, hcz19_7, hcz19_8, hcz19_9, hcz19_10, -⟩ := cells_11 BK275.out trivial
    obtain ⟨hfz19_0, hfz19_1, hfz19_2, hfz19_3, hfz19_4, hfz19_5, hfz19_6, hfz19_7, hfz19_8, hfz19_9, hfz19_10, -⟩ := frz_11 BK275.out
    go_wp2
    go_loopg [5, 45] kj2 (fun kq v5 v45 w' => ∃ (x5_2 : Int) (x45_2 : Int), v5 = .int .i64 x5_2 ∧ v45 = .int .i64 x45_2 ∧ Aside0 (impl_NodeOk.l0 kq a1 x5_2 l0_3 (l0_3.length : Int) x45_2 a0_0 a0_1 a0_2 l0_3 a0_4 a0_5 a0_6 a0_7 l0_8 l0_9 l0_10 = some r) ∧ Aside0 (kq ≤ kj2) ∧ Aside0 (w'.heap[gb275]? = some (.cells #[.int .i64 a0_0, .int .i64 a0_1, .int .i64 a0_2, (.slice A0_3 l0_3.length c0_3), .int .i64 a0_4, .int .i64 a0_5, .int .i64 a0_6, .int .i64 a0_7, (.slice A0_8 l0_8.length c0_8), (.slice A0_9 l0_9.length c0_9), (.slice A0_10 l0_10.length c0_10)] 48 (0, 0))) ∧ Aside0 (Below w.heap.size w w'))
    case atStart => exact ⟨(1), (0), (by first | rfl | (simp; done) | (simp [*]; done)), (by first | rfl | (simp; done) | (simp [*]; done)), H', ⟨Nat.le_refl _⟩, ⟨by (with_reducible repeat (first | refine blk_drewN ?_ _ | refine blk_drew ?_ | refine blk_alloc ?_ _)); exact BK275.out⟩, ⟨by repeat (first | (with_reducible first | exact HB.out | apply below_alloc | apply pw_below_drewN | apply below_drew1 | refine below_set ?_ GE275.out) | exact HB.out)⟩⟩
    case round =>
     clear H'
     try clear c1; try clear p2; try clear c6; try clear p6; try clear c8; try clear c9; try clear c10; try clear c12; try clear c16; try clear c18; try clear hcz13_0; try clear hcz13_1; try clear hcz13_10; try clear hcz13_2; try clear hcz13_3; try clear hcz13_4; try clear hcz13_5; try clear hcz13_6; try clear hcz13_7; try clear hcz13_8; try clear hcz13_9; try clear hcz14_0; try clear hcz14_1; try clear hcz14_10; try clear hcz14_2; try clear hcz14_3; try clear hcz14_4; try clear hcz14_5; try clear hcz14_6; try clear hcz14_7; try clear hcz14_8; try clear hcz14_9; try clear hcz15_0; try clear hcz15_1; try clear hcz15_10; try clear hcz15_2; try clear hcz15_3; try clear hcz15_4; try clear hcz15_5; try clear hcz15_6; try clear hcz15_7; try clear hcz15_8; try clear hcz15_9; try clear hcz16_0; try clear hcz16_1; try clear hcz16_10; try clear hcz16_2; try clear hcz16_3; try clear hcz16_4; try clear hcz16_5; try clear hcz16_6; try clear hcz16_7; try clear hcz16_8; try clear hcz16_9; try clear hcz17_0; try clear hcz17_1; try clear hcz17_10; try clear hcz17_2; try clear hcz17_3; try clear hcz17_4; try clear hcz17_5; try clear hcz17_6; try clear hcz17_7; try clear hcz17_8; try clear hcz17_9; try clear hcz19_0; try clear hcz19_1; try clear hcz19_10; try clear hcz19_2; try clear hcz19_3; try clear hcz19_4; try clear hcz19_5; try clear hcz19_6; try clear hcz19_7; try clear hcz19_8; try clear hcz19_9; try clear hfz13_0; try clear hfz13_1; try clear hfz13_10; try clear hfz13_2; try clear hfz13_3; try clear hfz13_4; try clear hfz13_5; try clear hfz13_6; try clear hfz13_7; try clear hfz13_8; try clear hfz13_9; try clear hfz14_0; try clear hfz14_1; try clear hfz14_10; try clear hfz14_2; try clear hfz14_3; try clear hfz14_4; try clear hfz14_5; try clear hfz14_6; try clear hfz14_7; try clear hfz14_8; try clear hfz14_9; try clear hfz15_0; try clear hfz15_1; try clear hfz15_10; try clear hfz15_2; try clear hfz15_3; try clear hfz15_4; try clear hfz15_5; try clear hfz15_6; try clear hfz15_7; try clear hfz15_8; try clear hfz15_9; try clear hfz16_0; try clear hfz16_1; try clear hfz16_10; try clear hfz16_2; try clear hfz16_3; try clear hfz16_4; try clear hfz16_5; try clear hfz16_6; try clear hfz16_7; try clear hfz16_8; try clear hfz16_9; try clear hfz17_0; try clear hfz17_1; try clear hfz17_10; try clear hfz17_2; try clear hfz17_3; try clear hfz17_4; try clear hfz17_5; try clear hfz17_6; try clear hfz17_7; try clear hfz17_8; try clear hfz17_9; try clear hfz19_0; try clear hfz19_1; try clear hfz19_10; try clear hfz19_2; try clear hfz19_3; try clear hfz19_4; try clear hfz19_5; try clear hfz19_6; try clear hfz19_7; try clear hfz19_8; try clear hfz19_9; try clear p2; try clear p6
     obtain ⟨x5_2, x45_2, rfl, rfl, HA, HK2, BK275, HB⟩ := hrel
     cases gk with
     | zero => exact absurd HA.out (by simp [impl_NodeOk.l0])
     | succ k2 =>
      have H := HA.out
      clear HA
      simp only [impl_NodeOk.l0] at H
      by_cases c20 : x45_2 < (l0_3.length : Int)
      ·rw [if_pos c20] at H
       have c20b0 : decide (x45_2 < (l0_3.length : Int)) = true := decide_eq_true c20
       clear c20
       by_cases c21 : 0 ≤ x45_2
       ·rw [if_pos c21] at H
        have c21b0 : decide (0 ≤ x45_2) = true := decide_eq_true c21
        clear c21
        by_cases c22 : x45_2 < (l0_3.length : Int)
        ·rw [if_pos c22] at H
         have c22b0 : decide (x45_2 < (l0_3.length : Int)) = true := decide_eq_true c22
         clear c22
         replace H := Option.bind_eq_some_iff.mp H
         obtain ⟨t282, A230, H⟩ := H
         replace H : (if t282 = true then ((impl_within.f ((rd_T147 l0_3 x45_2).f0) x5_2 a0_1).bind fun t283 => (if t283 = true then (impl_NodeOk.l0 k2 a1 ((rd_T147 l0_3 x45_2).f0) l0_3 (l0_3.length : Int) (wrap64 (x45_2 + 1)) a0_0 a0_1 a0_2 l0_3 a0_4 a0_5 a0_6 a0_7 l0_8 l0_9 l0_10) else (some false))) else (some false)) = some r := H
         have A23 := Aside0.mk A230
         clear A230
         by_cases c24 : t282 = true
         ·subst c24
          have H1 : ((impl_within.f ((rd_T147 l0_3 x45_2).f0) x5_2 a0_1).bind fun t283 => (if t283 = true then (impl_NodeOk.l0 k2 a1 ((rd_T147 l0_3 x45_2).f0) l0_3 (l0_3.length : Int) (wrap64 (x45_2 + 1)) a0_0 a0_1 a0_2 l0_3 a0_4 a0_5 a0_6 a0_7 l0_8 l0_9 l0_10) else (some false))) = some r := by rw [if_pos rfl] at H; exact H
          clear H
          have H := H1
          clear H1
          replace H := Option.bind_eq_some_iff.mp H
          obtain ⟨t283, A250, H⟩ := H
          replace H : (if t283 = true then (impl_NodeOk.l0 k2 a1 ((rd_T147 l0_3 x45_2).f0) l0_3 (l0_3.length : Int) (wrap64 (x45_2 + 1)) a0_0 a0_1 a0_2 l0_3 a0_4 a0_5 a0_6 a0_7 l0_8 l0_9 l0_10) else (some false)) = some r := H
          have A25 := Aside0.mk A250
          clear A250
          by_cases c26 : t283 = true
          ·subst c26
           have H1 : (impl_NodeOk.l0 k2 a1 ((rd_T147 l0_3 x45_2).f0) l0_3 (l0_3.length : Int) (wrap64 (x45_2 + 1)) a0_0 a0_1 a0_2 l0_3 a0_4 a0_5 a0_6 a0_7 l0_8 l0_9 l0_10) = some r := by rw [if_pos rfl] at H; exact H
           clear H
           have H := H1
           clear H1
           have H' := Aside0.mk H
           clear H
           have p280 : 0 ≤ (x45_2 : Int) := od
           have q280 : x45_2 < (l0_3.length : Int) := od
           obtain ⟨ad280, A280_4, c280_4, A280_5, c280_5, e280, hx280_0, hx280_1, hx280_2, hx280_3, hx280_4, hx280_5, hx280_6, hl280_4, hi280_4, hl280_5, hi280_5⟩ := at_T147 HR0_3.out x45_2 p280 q280
           cases e280
           replace hx280_0 := hxb HB hx280_0
           replace hx280_1 := hxb HB hx280_1
           replace hx280_2 := hxb HB hx280_2
           replace hx280_3 := hxb HB hx280_3
           replace hx280_4 := hxb HB hx280_4
           replace hx280_5 := hxb HB hx280_5
           replace hx280_6 := hxb HB hx280_6
           have HR280_4 := Aside0.mk hi280_4
           have HC280_4 := Aside0.mk hl280_4
           clear hi280_4 hl280_4
           have HR280_5 := Aside0.mk hi280_5
           have HC280_5 := Aside0.mk hl280_5
           clear hi280_5 hl280_5
           replace p280 := eq_true p280
           replace q280 := eq_true q280
           go_wp2_with (first | ((with_reducible refine gate_dst (N := 7) rfl ?_); (try (refine gate_guard (by rfl) ?_; dsimp only)); refine bx_ 7 #[.int .i64 0, .int .i64 0, .int .i64 0, .int .i64 0, .slice none 0 0, .slice none 0 0, .int .i64 0] 147 (h := ?_); intro gb281 hg w27 hbox hb; have BK281 := Aside0.mk (hbox); have GW281 := Aside0.mk ((by rw [hg]; exact (below_size bel) : w.heap.size ≤ gb281)); have GE281 := Aside0.mk ((by rw [hg]; exact (below_size bel) : w.heap.size ≤ gb281)); have NB275_281 := Aside0.mk ((by rw [hg]; exact Nat.ne_of_lt (blt BK275) : gb275 ≠ gb281)); have NB281_275 := Aside0.mk ((by rw [hg]; exact Nat.ne_of_gt (blt BK275) : gb281 ≠ gb275)); replace BK275 := Aside0.mk (blb BK275 hb); replace HB := Aside0.mk (below_step bel hb); clear hb hbox hg; have hnb28 := NB281_275.out; have hnc28 := NB275_281.out; obtain ⟨hcz29_0, hcz29_1, hcz29_2, hcz29_3, hcz29_4, hcz29_5, hcz29_6, -⟩ := cells_7 BK281.out trivial; obtain ⟨hfz29_0, hfz29_1, hfz29_2, hfz29_3, hfz29_4, hfz29_5, hfz29_6, -⟩ := frz_7 BK281.out) | ((with_reducible refine gate_callee (f := 112) rfl ?_); refine gl_ (some 50) Try.func112 #[.agg #[.int .i64 ((rd_T147 l0_3 x45_2).f0), .int .i64 ((rd_T147 l0_3 x45_2).f1.f0), .int .i64 ((rd_T147 l0_3 x45_2).f1.f1), .int .i64 ((rd_T147 l0_3 x45_2).f1.f2.f0), .slice A280_4 ((rd_T147 l0_3 x45_2).f1.f2.f1).length c280_4, .slice A280_5 ((rd_T147 l0_3 x45_2).f1.f2.f2).length c280_5, .int .i64 ((rd_T147 l0_3 x45_2).f1.f2.f3)]] (h := ?_); (with_reducible refine (impl_ItemOk.calls k2 ((rd_T147 l0_3 x45_2).f0) ((rd_T147 l0_3 x45_2).f1.f0) ((rd_T147 l0_3 x45_2).f1.f1) ((rd_T147 l0_3 x45_2).f1.f2.f0) _ _ ((rd_T147 l0_3 x45_2).f1.f2.f1) _ _ ((rd_T147 l0_3 x45_2).f1.f2.f2) ((rd_T147 l0_3 x45_2).f1.f2.f3) true _ ?side1 ?side2 ?side3 ?side4 A23.out).mono ?_); (case side1 => exact Kd.C_below HR280_4.out bel); (case side2 => exact HC280_4.out); (case side3 => exact Kd.C_below HR280_5.out bel); (case side4 => exact HC280_5.out); rintro e w30 ⟨rfl, hb⟩; refine ⟨_, rfl, ?_⟩; replace BK275 := Aside0.mk (blk_below (g := gb275) (o := .cells #[.int .i64 a0_0, .int .i64 a0_1, .int .i64 a0_2, .slice (some ad280) l0_3.length c0_3, .int .i64 a0_4, .int .i64 a0_5, .int .i64 a0_6, .int .i64 a0_7, .slice A0_8 l0_8.length c0_8, .slice A0_9 l0_9.length c0_9, .slice A0_10 l0_10.length c0_10] 48 (0, 0)) (by (with_reducible repeat (first | refine blk_drewN ?_ _ | refine blk_drew ?_ | refine blk_alloc ?_ _)); refine blk_far ?_ NB275_281.out _; (with_reducible repeat (first | refine blk_drewN ?_ _ | refine blk_drew ?_ | refine blk_alloc ?_ _)); refine blk_far ?_ NB275_281.out _; (with_reducible repeat (first | refine blk_drewN ?_ _ | refine blk_drew ?_ | refine blk_alloc ?_ _)); refine blk_far ?_ NB275_281.out _; (with_reducible repeat (first | refine blk_drewN ?_ _ | refine blk_drew ?_ | refine blk_alloc ?_ _)); refine blk_far ?_ NB275_281.out _; (with_reducible repeat (first | refine blk_drewN ?_ _ | refine blk_drew ?_ | refine blk_alloc ?_ _)); refine blk_far ?_ NB275_281.out _; (with_reducible repeat (first | refine blk_drewN ?_ _ | refine blk_drew ?_ | refine blk_alloc ?_ _)); refine blk_far ?_ NB275_281.out _; (with_reducible repeat (first | refine blk_drewN ?_ _ | refine blk_drew ?_ | refine blk_alloc ?_ _)); refine blk_far ?_ NB275_281.out _; (with_reducible repeat (first | refine blk_drewN ?_ _ | refine blk_drew ?_ | refine blk_alloc ?_ _)); exact BK275.out) hb); replace BK281 := Aside0.mk (blk_below (g := gb281) (o := .cells #[.int .i64 ((rd_T147 l0_3 x45_2).f0), .int .i64 ((rd_T147 l0_3 x45_2).f1.f0), .int .i64 ((rd_T147 l0_3 x45_2).f1.f1), .int .i64 ((rd_T147 l0_3 x45_2).f1.f2.f0), .slice A280_4 ((rd_T147 l0_3 x45_2).f1.f2.f1).length c280_4, .slice A280_5 ((rd_T147 l0_3 x45_2).f1.f2.f2).length c280_5, .int .i64 ((rd_T147 l0_3 x45_2).f1.f2.f3)] 147 (0, 0)) (by (with_reducible repeat (first | refine blk_drewN ?_ _ | refine blk_drew ?_ | refine blk_alloc ?_ _)); refine blk_put (cs := #[.int .i64 ((rd_T147 l0_3 x45_2).f0), .int .i64 ((rd_T147 l0_3 x45_2).f1.f0), .int .i64 ((rd_T147 l0_3 x45_2).f1.f1), .int .i64 ((rd_T147 l0_3 x45_2).f1.f2.f0), .slice A280_4 ((rd_T147 l0_3 x45_2).f1.f2.f1).length c280_4, .slice A280_5 ((rd_T147 l0_3 x45_2).f1.f2.f2).length c280_5, .int .i64 0]) ?_ 6 _ rfl; (with_reducible repeat (first | refine blk_drewN ?_ _ | refine blk_drew ?_ | refine blk_alloc ?_ _)); refine blk_put (cs := #[.int .i64 ((rd_T147 l0_3 x45_2).f0), .int .i64 ((rd_T147 l0_3 x45_2).f1.f0), .int .i64 ((rd_T147 l0_3 x45_2).f1.f1), .int .i64 ((rd_T147 l0_3 x45_2).f1.f2.f0), .slice A280_4 ((rd_T147 l0_3 x45_2).f1.f2.f1).length c280_4, .slice none 0 0, .int .i64 0]) ?_ 5 _ rfl; (with_reducible repeat (first | refine blk_drewN ?_ _ | refine blk_drew ?_ | refine blk_alloc ?_ _)); refine blk_put (cs := #[.int .i64 ((rd_T147 l0_3 x45_2).f0), .int .i64 ((rd_T147 l0_3 x45_2).f1.f0), .int .i64 ((rd_T147 l0_3 x45_2).f1.f1), .int .i64 ((rd_T147 l0_3 x45_2).f1.f2.f0), .slice none 0 0, .slice none 0 0, .int .i64 0]) ?_ 4 _ rfl; (with_reducible repeat (first | refine blk_drewN ?_ _ | refine blk_drew ?_ | refine blk_alloc ?_ _)); refine blk_put (cs := #[.int .i64 ((rd_T147 l0_3 x45_2).f0), .int .i64 ((rd_T147 l0_3 x45_2).f1.f0), .int .i64 ((rd_T147 l0_3 x45_2).f1.f1), .int .i64 0, .slice none 0 0, .slice none 0 0, .int .i64 0]) ?_ 3 _ rfl; (with_reducible repeat (first | refine blk_drewN ?_ _ | refine blk_drew ?_ | refine blk_alloc ?_ _)); refine blk_put (cs := #[.int .i64 ((rd_T147 l0_3 x45_2).f0), .int .i64 ((rd_T147 l0_3 x45_2).f1.f0), .int .i64 0, .int .i64 0, .slice none 0 0, .slice none 0 0, .int .i64 0]) ?_ 2 _ rfl; (with_reducible repeat (first | refine blk_drewN ?_ _ | refine blk_drew ?_ | refine blk_alloc ?_ _)); refine blk_put (cs := #[.int .i64 ((rd_T147 l0_3 x45_2).f0), .int .i64 0, .int .i64 0, .int .i64 0, .slice none 0 0, .slice none 0 0, .int .i64 0]) ?_ 1 _ rfl; (with_reducible repeat (first | refine blk_drewN ?_ _ | refine blk_drew ?_ | refine blk_alloc ?_ _)); refine blk_put (cs := #[.int .i64 0, .int .i64 0, .int .i64 0, .int .i64 0, .slice none 0 0, .slice none 0 0, .int .i64 0]) ?_ 0 _ rfl; (with_reducible repeat (first | refine blk_drewN ?_ _ | refine blk_drew ?_ | refine blk_alloc ?_ _)); exact BK281.out) hb); replace HB := Aside0.mk (below_step bel hb); (try clear hb); (try clear hb2); (try clear hk); (try clear hi); have hcz31_0 : w30.cell? ⟨gb281, 0, none⟩ = some (.int .i64 ((rd_T147 l0_3 x45_2).f0)) := (blk_cell BK281.out 0).trans rfl; have hcz31_1 : w30.cell? ⟨gb281, 1, none⟩ = some (.int .i64 ((rd_T147 l0_3 x45_2).f1.f0)) := (blk_cell BK281.out 1).trans rfl; have hcz31_2 : w30.cell? ⟨gb281, 2, none⟩ = some (.int .i64 ((rd_T147 l0_3 x45_2).f1.f1)) := (blk_cell BK281.out 2).trans rfl; have hcz31_3 : w30.cell? ⟨gb281, 3, none⟩ = some (.int .i64 ((rd_T147 l0_3 x45_2).f1.f2.f0)) := (blk_cell BK281.out 3).trans rfl; have hcz31_4 : w30.cell? ⟨gb281, 4, none⟩ = some (.slice A280_4 ((rd_T147 l0_3 x45_2).f1.f2.f1).length c280_4) := (blk_cell BK281.out 4).trans rfl; have hcz31_5 : w30.cell? ⟨gb281, 5, none⟩ = some (.slice A280_5 ((rd_T147 l0_3 x45_2).f1.f2.f2).length c280_5) := (blk_cell BK281.out 5).trans rfl; have hcz31_6 : w30.cell? ⟨gb281, 6, none⟩ = some (.int .i64 ((rd_T147 l0_3 x45_2).f1.f2.f3)) := (blk_cell BK281.out 6).trans rfl; obtain ⟨hfz31_0, hfz31_1, hfz31_2, hfz31_3, hfz31_4, hfz31_5, hfz31_6, -⟩ := frz_7 BK281.out; obtain ⟨hcz32_0, hcz32_1, hcz32_2, hcz32_3, hcz32_4, hcz32_5, hcz32_6, hcz32_7, hcz32_8, hcz32_9, hcz32_10, -⟩ := cells_11 BK275.out trivial; obtain ⟨hfz32_0, hfz32_1, hfz32_2, hfz32_3, hfz32_4, hfz32_5, hfz32_6, hfz32_7, hfz32_8, hfz32_9, hfz32_10, -⟩ := frz_11 BK275.out) | (go_at_call 81; (with_reducible refine (impl_within.calls ((rd_T147 l0_3 x45_2).f0) x5_2 a0_1 true _ A25.out).mono ?_); rintro e w' ⟨rfl, ⟨nd, rfl⟩⟩))
           go_roundg k2
           case measure => have := HJ2.out; have := HK2.out; omega
           case rel => exact ⟨((rd_T147 l0_3 x45_2).f0), (wrap64 (x45_2 + 1)), (by first | rfl | (simp; done) | (simp [*]; done)), (by first | rfl | (simp; done) | (simp [*]; done)), H', ⟨by have := HJ2.out; have := HK2.out; omega⟩, ⟨by (with_reducible repeat (first | refine blk_drewN ?_ _ | refine blk_drew ?_ | refine blk_alloc ?_ _)); exact BK275.out⟩, ⟨by repeat (first | (with_reducible first | exact HB.out | apply below_alloc | apply pw_below_drewN | apply below_drew1 | refine below_set ?_ GE275.out | refine below_set ?_ GE281.out) | exact HB.out)⟩⟩
          ·replace c26 := Bool.eq_false_iff.mpr c26
           subst c26
           have H1 : (some false) = some r := by rw [if_neg (show ¬ (false = true) by decide)] at H; exact H
           clear H
           have H := H1
           clear H1
           obtain rfl := Option.some.inj H
           have p280 : 0 ≤ (x45_2 : Int) := od
           have q280 : x45_2 < (l0_3.length : Int) := od
           obtain ⟨ad280, A280_4, c280_4, A280_5, c280_5, e280, hx280_0, hx280_1, hx280_2, hx280_3, hx280_4, hx280_5, hx280_6, hl280_4, hi280_4, hl280_5, hi280_5⟩ := at_T147 HR0_3.out x45_2 p280 q280
           cases e280
           replace hx280_0 := hxb HB hx280_0
           replace hx280_1 := hxb HB hx280_1
           replace hx280_2 := hxb HB hx280_2
           replace hx280_3 := hxb HB hx280_3
           replace hx280_4 := hxb HB hx280_4
           replace hx280_5 := hxb HB hx280_5
           replace hx280_6 := hxb HB hx280_6
           have HR280_4 := Aside0.mk hi280_4
           have HC280_4 := Aside0.mk hl280_4
           clear hi280_4 hl280_4
           have HR280_5 := Aside0.mk hi280_5
           have HC280_5 := Aside0.mk hl280_5
           clear hi280_5 hl280_5
           replace p280 := eq_true p280
           replace q280 := eq_true q280
           go_wp2_with (first | ((with_reducible refine gate_dst (N := 7) rfl ?_); (try (refine gate_guard (by rfl) ?_; dsimp only)); refine bx_ 7 #[.int .i64 0, .int .i64 0, .int .i64 0, .int .i64 0, .slice none 0 0, .slice none 0 0, .int .i64 0] 147 (h := ?_); intro gb281 hg w33 hbox hb; have BK281 := Aside0.mk (hbox); have GW281 := Aside0.mk ((by rw [hg]; exact (below_size bel) : w.heap.size ≤ gb281)); have GE281 := Aside0.mk ((by rw [hg]; exact (below_size bel) : w.heap.size ≤ gb281)); have NB275_281 := Aside0.mk ((by rw [hg]; exact Nat.ne_of_lt (blt BK275) : gb275 ≠ gb281)); have NB281_275 := Aside0.mk ((by rw [hg]; exact Nat.ne_of_gt (blt BK275) : gb281 ≠ gb275)); replace BK275 := Aside0.mk (blb BK275 hb); replace HB := Aside0.mk (below_step bel hb); clear hb hbox hg; have hnb34 := NB281_275.out; have hnc34 := NB275_281.out; obtain ⟨hcz35_0, hcz35_1, hcz35_2, hcz35_3, hcz35_4, hcz35_5, hcz35_6, -⟩ := cells_7 BK281.out trivial; obtain ⟨hfz35_0, hfz35_1, hfz35_2, hfz35_3, hfz35_4, hfz35_5, hfz35_6, -⟩ := frz_7 BK281.out) | ((with_reducible refine gate_callee (f := 112) rfl ?_); refine gl_ (some 50) Try.func112 #[.agg #[.int .i64 ((rd_T147 l0_3 x45_2).f0), .int .i64 ((rd_T147 l0_3 x45_2).f1.f0), .int .i64 ((rd_T147 l0_3 x45_2).f1.f1), .int .i64 ((rd_T147 l0_3 x45_2).f1.f2.f0), .slice A280_4 ((rd_T147 l0_3 x45_2).f1.f2.f1).length c280_4, .slice A280_5 ((rd_T147 l0_3 x45_2).f1.f2.f2).length c280_5, .int .i64 ((rd_T147 l0_3 x45_2).f1.f2.f3)]] (h := ?_); (with_reducible refine (impl_ItemOk.calls k2 ((rd_T147 l0_3 x45_2).f0) ((rd_T147 l0_3 x45_2).f1.f0) ((rd_T147 l0_3 x45_2).f1.f1) ((rd_T147 l0_3 x45_2).f1.f2.f0) _ _ ((rd_T147 l0_3 x45_2).f1.f2.f1) _ _ ((rd_T147 l0_3 x45_2).f1.f2.f2) ((rd_T147 l0_3 x45_2).f1.f2.f3) true _ ?side1 ?side2 ?side3 ?side4 A23.out).mono ?_); (case side1 => exact Kd.C_below HR280_4.out bel); (case side2 => exact HC280_4.out); (case side3 => exact Kd.C_below HR280_5.out bel); (case side4 => exact HC280_5.out); rintro e w36 ⟨rfl, hb⟩; refine ⟨_, rfl, ?_⟩; replace BK275 := Aside0.mk (blk_below (g := gb275) (o := .cells #[.int .i64 a0_0, .int .i64 a0_1, .int .i64 a0_2, .slice (some ad280) l0_3.length c0_3, .int .i64 a0_4, .int .i64 a0_5, .int .i64 a0_6, .int .i64 a0_7, .slice A0_8 l0_8.length c0_8, .slice A0_9 l0_9.length c0_9, .slice A0_10 l0_10.length c0_10] 48 (0, 0)) (by (with_reducible repeat (first | refine blk_drewN ?_ _ | refine blk_drew ?_ | refine blk_alloc ?_ _)); refine blk_far ?_ NB275_281.out _; (with_reducible repeat (first | refine blk_drewN ?_ _ | refine blk_drew ?_ | refine blk_alloc ?_ _)); refine blk_far ?_ NB275_281.out _; (with_reducible repeat (first | refine blk_drewN ?_ _ | refine blk_drew ?_ | refine blk_alloc ?_ _)); refine blk_far ?_ NB275_281.out _; (with_reducible repeat (first | refine blk_drewN ?_ _ | refine blk_drew ?_ | refine blk_alloc ?_ _)); refine blk_far ?_ NB275_281.out _; (with_reducible repeat (first | refine blk_drewN ?_ _ | refine blk_drew ?_ | refine blk_alloc ?_ _)); refine blk_far ?_ NB275_281.out _; (with_reducible repeat (first | refine blk_drewN ?_ _ | refine blk_drew ?_ | refine blk_alloc ?_ _)); refine blk_far ?_ NB275_281.out _; (with_reducible repeat (first | refine blk_drewN ?_ _ | refine blk_drew ?_ | refine blk_alloc ?_ _)); refine blk_far ?_ NB275_281.out _; (with_reducible repeat (first | refine blk_drewN ?_ _ | refine blk_drew ?_ | refine blk_alloc ?_ _)); exact BK275.out) hb); replace BK281 := Aside0.mk (blk_below (g := gb281) (o := .cells #[.int .i64 ((rd_T147 l0_3 x45_2).f0), .int .i64 ((rd_T147 l0_3 x45_2).f1.f0), .int .i64 ((rd_T147 l0_3 x45_2).f1.f1), .int .i64 ((rd_T147 l0_3 x45_2).f1.f2.f0), .slice A280_4 ((rd_T147 l0_3 x45_2).f1.f2.f1).length c280_4, .slice A280_5 ((rd_T147 l0_3 x45_2).f1.f2.f2).length c280_5, .int .i64 ((rd_T147 l0_3 x45_2).f1.f2.f3)] 147 (0, 0)) (by (with_reducible repeat (first | refine blk_drewN ?_ _ | refine blk_drew ?_ | refine blk_alloc ?_ _)); refine blk_put (cs := #[.int .i64 ((rd_T147 l0_3 x45_2).f0), .int .i64 ((rd_T147 l0_3 x45_2).f1.f0), .int .i64 ((rd_T147 l0_3 x45_2).f1.f1), .int .i64 ((rd_T147 l0_3 x45_2).f1.f2.f0), .slice A280_4 ((rd_T147 l0_3 x45_2).f1.f2.f1).length c280_4, .slice A280_5 ((rd_T147 l0_3 x45_2).f1.f2.f2).length c280_5, .int .i64 0]) ?_ 6 _ rfl; (with_reducible repeat (first | refine blk_drewN ?_ _ | refine blk_drew ?_ | refine blk_alloc ?_ _)); refine blk_put (cs := #[.int .i64 ((rd_T147 l0_3 x45_2).f0), .int .i64 ((rd_T147 l0_3 x45_2).f1.f0), .int .i64 ((rd_T147 l0_3 x45_2).f1.f1), .int .i64 ((rd_T147 l0_3 x45_2).f1.f2.f0), .slice A280_4 ((rd_T147 l0_3 x45_2).f1.f2.f1).length c280_4, .slice none 0 0, .int .i64 0]) ?_ 5 _ rfl; (with_reducible repeat (first | refine blk_drewN ?_ _ | refine blk_drew ?_ | refine blk_alloc ?_ _)); refine blk_put (cs := #[.int .i64 ((rd_T147 l0_3 x45_2).f0), .int .i64 ((rd_T147 l0_3 x45_2).f1.f0), .int .i64 ((rd_T147 l0_3 x45_2).f1.f1), .int .i64 ((rd_T147 l0_3 x45_2).f1.f2.f0), .slice none 0 0, .slice none 0 0, .int .i64 0]) ?_ 4 _ rfl; (with_reducible repeat (first | refine blk_drewN ?_ _ | refine blk_drew ?_ | refine blk_alloc ?_ _)); refine blk_put (cs := #[.int .i64 ((rd_T147 l0_3 x45_2).f0), .int .i64 ((rd_T147 l0_3 x45_2).f1.f0), .int .i64 ((rd_T147 l0_3 x45_2).f1.f1), .int .i64 0, .slice none 0 0, .slice none 0 0, .int .i64 0]) ?_ 3 _ rfl; (with_reducible repeat (first | refine blk_drewN ?_ _ | refine blk_drew ?_ | refine blk_alloc ?_ _)); refine blk_put (cs := #[.int .i64 ((rd_T147 l0_3 x45_2).f0), .int .i64 ((rd_T147 l0_3 x45_2).f1.f0), .int .i64 0, .int .i64 0, .slice none 0 0, .slice none 0 0, .int .i64 0]) ?_ 2 _ rfl; (with_reducible repeat (first | refine blk_drewN ?_ _ | refine blk_drew ?_ | refine blk_alloc ?_ _)); refine blk_put (cs := #[.int .i64 ((rd_T147 l0_3 x45_2).f0), .int .i64 0, .int .i64 0, .int .i64 0, .slice none 0 0, .slice none 0 0, .int .i64 0]) ?_ 1 _ rfl; (with_reducible repeat (first | refine blk_drewN ?_ _ | refine blk_drew ?_ | refine blk_alloc ?_ _)); refine blk_put (cs := #[.int .i64 0, .int .i64 0, .int .i64 0, .int .i64 0, .slice none 0 0, .slice none 0 0, .int .i64 0]) ?_ 0 _ rfl; (with_reducible repeat (first | refine blk_drewN ?_ _ | refine blk_drew ?_ | refine blk_alloc ?_ _)); exact BK281.out) hb); replace HB := Aside0.mk (below_step bel hb); (try clear hb); (try clear hb2); (try clear hk); (try clear hi); have hcz37_0 : w36.cell? ⟨gb281, 0, none⟩ = some (.int .i64 ((rd_T147 l0_3 x45_2).f0)) := (blk_cell BK281.out 0).trans rfl; have hcz37_1 : w36.cell? ⟨gb281, 1, none⟩ = some (.int .i64 ((rd_T147 l0_3 x45_2).f1.f0)) := (blk_cell BK281.out 1).trans rfl; have hcz37_2 : w36.cell? ⟨gb281, 2, none⟩ = some (.int .i64 ((rd_T147 l0_3 x45_2).f1.f1)) := (blk_cell BK281.out 2).trans rfl; have hcz37_3 : w36.cell? ⟨gb281, 3, none⟩ = some (.int .i64 ((rd_T147 l0_3 x45_2).f1.f2.f0)) := (blk_cell BK281.out 3).trans rfl; have hcz37_4 : w36.cell? ⟨gb281, 4, none⟩ = some (.slice A280_4 ((rd_T147 l0_3 x45_2).f1.f2.f1).length c280_4) := (blk_cell BK281.out 4).trans rfl; have hcz37_5 : w36.cell? ⟨gb281, 5, none⟩ = some (.slice A280_5 ((rd_T147 l0_3 x45_2).f1.f2.f2).length c280_5) := (blk_cell BK281.out 5).trans rfl; have hcz37_6 : w36.cell? ⟨gb281, 6, none⟩ = some (.int .i64 ((rd_T147 l0_3 x45_2).f1.f2.f3)) := (blk_cell BK281.out 6).trans rfl; obtain ⟨hfz37_0, hfz37_1, hfz37_2, hfz37_3, hfz37_4, hfz37_5, hfz37_6, -⟩ := frz_7 BK281.out; obtain ⟨hcz38_0, hcz38_1, hcz38_2, hcz38_3, hcz38_4, hcz38_5, hcz38_6, hcz38_7, hcz38_8, hcz38_9, hcz38_10, -⟩ := cells_11 BK275.out trivial; obtain ⟨hfz38_0, hfz38_1, hfz38_2, hfz38_3, hfz38_4, hfz38_5, hfz38_6, hfz38_7, hfz38_8, hfz38_9, hfz38_10, -⟩ := frz_11 BK275.out) | (go_at_call 81; (with_reducible refine (impl_within.calls ((rd_T147 l0_3 x45_2).f0) x5_2 a0_1 false _ A25.out).mono ?_); rintro e w' ⟨rfl, ⟨nd, rfl⟩⟩))
           go_ret
           exact ⟨by first | rfl | (simp [errW_none, errW_some] <;> rfl) | (simp [*, errW_none, errW_some] <;> rfl), by repeat (first | (with_reducible first | exact HB.out | apply below_alloc | apply pw_below_drewN | apply below_drew1 | refine below_set ?_ GE275.out | refine below_set ?_ GE281.out) | exact HB.out)⟩
         ·replace c24 := Bool.eq_false_iff.mpr c24
          subst c24
          have H1 : (some false) = some r := by rw [if_neg (show ¬ (false = true) by decide)] at H; exact H
          clear H
          have H := H1
          clear H1
          obtain rfl := Option.some.inj H
          have p280 : 0 ≤ (x45_2 : Int) := od
          have q280 : x45_2 < (l0_3.length : Int) := od
          obtain ⟨ad280, A280_4, c280_4, A280_5, c280_5, e280, hx280_0, hx280_1, hx280_2, hx280_3, hx280_4, hx280_5, hx280_6, hl280_4, hi280_4, hl280_5, hi280_5⟩ := at_T147 HR0_3.out x45_2 p280 q280
          cases e280
          replace hx280_0 := hxb HB hx280_0
          replace hx280_1 := hxb HB hx280_1
          replace hx280_2 := hxb HB hx280_2
          replace hx280_3 := hxb HB hx280_3
          replace hx280_4 := hxb HB hx280_4
          replace hx280_5 := hxb HB hx280_5
          replace hx280_6 := hxb HB hx280_6
          have HR280_4 := Aside0.mk hi280_4
          have HC280_4 := Aside0.mk hl280_4
          clear hi280_4 hl280_4
          have HR280_5 := Aside0.mk hi280_5
          have HC280_5 := Aside0.mk hl280_5
          clear hi280_5 hl280_5
          replace p280 := eq_true p280
          replace q280 := eq_true q280
          go_wp2_with (first | ((with_reducible refine gate_dst (N := 7) rfl ?_); (try (refine gate_guard (by rfl) ?_; dsimp only)); refine bx_ 7 #[.int .i64 0, .int .i64 0, .int .i64 0, .int .i64 0, .slice none 0 0, .slice none 0 0, .int .i64 0] 147 (h := ?_); intro gb281 hg w39 hbox hb; have BK281 := Aside0.mk (hbox); have GW281 := Aside0.mk ((by rw [hg]; exact (below_size bel) : w.heap.size ≤ gb281)); have GE281 := Aside0.mk ((by rw [hg]; exact (below_size bel) : w.heap.size ≤ gb281)); have NB275_281 := Aside0.mk ((by rw [hg]; exact Nat.ne_of_lt (blt BK275) : gb275 ≠ gb281)); have NB281_275 := Aside0.mk ((by rw [hg]; exact Nat.ne_of_gt (blt BK275) : gb281 ≠ gb275)); replace BK275 := Aside0.mk (blb BK275 hb); replace HB := Aside0.mk (below_step bel hb); clear hb hbox hg; have hnb40 := NB281_275.out; have hnc40 := NB275_281.out; obtain ⟨hcz41_0, hcz41_1, hcz41_2, hcz41_3, hcz41_4, hcz41_5, hcz41_6, -⟩ := cells_7 BK281.out trivial; obtain ⟨hfz41_0, hfz41_1, hfz41_2, hfz41_3, hfz41_4, hfz41_5, hfz41_6, -⟩ := frz_7 BK281.out) | ((with_reducible refine gate_callee (f := 112) rfl ?_); refine gl_ (some 50) Try.func112 #[.agg #[.int .i64 ((rd_T147 l0_3 x45_2).f0), .int .i64 ((rd_T147 l0_3 x45_2).f1.f0), .int .i64 ((rd_T147 l0_3 x45_2).f1.f1), .int .i64 ((rd_T147 l0_3 x45_2).f1.f2.f0), .slice A280_4 ((rd_T147 l0_3 x45_2).f1.f2.f1).length c280_4, .slice A280_5 ((rd_T147 l0_3 x45_2).f1.f2.f2).length c280_5, .int .i64 ((rd_T147 l0_3 x45_2).f1.f2.f3)]] (h := ?_); (with_reducible refine (impl_ItemOk.calls k2 ((rd_T147 l0_3 x45_2).f0) ((rd_T147 l0_3 x45_2).f1.f0) ((rd_T147 l0_3 x45_2).f1.f1) ((rd_T147 l0_3 x45_2).f1.f2.f0) _ _ ((rd_T147 l0_3 x45_2).f1.f2.f1) _ _ ((rd_T147 l0_3 x45_2).f1.f2.f2) ((rd_T147 l0_3 x45_2).f1.f2.f3) false _ ?side1 ?side2 ?side3 ?side4 A23.out).mono ?_); (case side1 => exact Kd.C_below HR280_4.out bel); (case side2 => exact HC280_4.out); (case side3 => exact Kd.C_below HR280_5.out bel); (case side4 => exact HC280_5.out); rintro e w42 ⟨rfl, hb⟩; refine ⟨_, rfl, ?_⟩; replace BK275 := Aside0.mk (blk_below (g := gb275) (o := .cells #[.int .i64 a0_0, .int .i64 a0_1, .int .i64 a0_2, .slice (some ad280) l0_3.length c0_3, .int .i64 a0_4, .int .i64 a0_5, .int .i64 a0_6, .int .i64 a0_7, .slice A0_8 l0_8.length c0_8, .slice A0_9 l0_9.length c0_9, .slice A0_10 l0_10.length c0_10] 48 (0, 0)) (by (with_reducible repeat (first | refine blk_drewN ?_ _ | refine blk_drew ?_ | refine blk_alloc ?_ _)); refine blk_far ?_ NB275_281.out _; (with_reducible repeat (first | refine blk_drewN ?_ _ | refine blk_drew ?_ | refine blk_alloc ?_ _)); refine blk_far ?_ NB275_281.out _; (with_reducible repeat (first | refine blk_drewN ?_ _ | refine blk_drew ?_ | refine blk_alloc ?_ _)); refine blk_far ?_ NB275_281.out _; (with_reducible repeat (first | refine blk_drewN ?_ _ | refine blk_drew ?_ | refine blk_alloc ?_ _)); refine blk_far ?_ NB275_281.out _; (with_reducible repeat (first | refine blk_drewN ?_ _ | refine blk_drew ?_ | refine blk_alloc ?_ _)); refine blk_far ?_ NB275_281.out _; (with_reducible repeat (first | refine blk_drewN ?_ _ | refine blk_drew ?_ | refine blk_alloc ?_ _)); refine blk_far ?_ NB275_281.out _; (with_reducible repeat (first | refine blk_drewN ?_ _ | refine blk_drew ?_ | refine blk_alloc ?_ _)); refine blk_far ?_ NB275_281.out _; (with_reducible repeat (first | refine blk_drewN ?_ _ | refine blk_drew ?_ | refine blk_alloc ?_ _)); exact BK275.out) hb); replace BK281 := Aside0.mk (blk_below (g := gb281) (o := .cells #[.int .i64 ((rd_T147 l0_3 x45_2).f0), .int .i64 ((rd_T147 l0_3 x45_2).f1.f0), .int .i64 ((rd_T147 l0_3 x45_2).f1.f1), .int .i64 ((rd_T147 l0_3 x45_2).f1.f2.f0), .slice A280_4 ((rd_T147 l0_3 x45_2).f1.f2.f1).length c280_4, .slice A280_5 ((rd_T147 l0_3 x45_2).f1.f2.f2).length c280_5, .int .i64 ((rd_T147 l0_3 x45_2).f1.f2.f3)] 147 (0, 0)) (by (with_reducible repeat (first | refine blk_drewN ?_ _ | refine blk_drew ?_ | refine blk_alloc ?_ _)); refine blk_put (cs := #[.int .i64 ((rd_T147 l0_3 x45_2).f0), .int .i64 ((rd_T147 l0_3 x45_2).f1.f0), .int .i64 ((rd_T147 l0_3 x45_2).f1.f1), .int .i64 ((rd_T147 l0_3 x45_2).f1.f2.f0), .slice A280_4 ((rd_T147 l0_3 x45_2).f1.f2.f1).length c280_4, .slice A280_5 ((rd_T147 l0_3 x45_2).f1.f2.f2).length c280_5, .int .i64 0]) ?_ 6 _ rfl; (with_reducible repeat (first | refine blk_drewN ?_ _ | refine blk_drew ?_ | refine blk_alloc ?_ _)); refine blk_put (cs := #[.int .i64 ((rd_T147 l0_3 x45_2).f0), .int .i64 ((rd_T147 l0_3 x45_2).f1.f0), .int .i64 ((rd_T147 l0_3 x45_2).f1.f1), .int .i64 ((rd_T147 l0_3 x45_2).f1.f2.f0), .slice A280_4 ((rd_T147 l0_3 x45_2).f1.f2.f1).length c280_4, .slice none 0 0, .int .i64 0]) ?_ 5 _ rfl; (with_reducible repeat (first | refine blk_drewN ?_ _ | refine blk_drew ?_ | refine blk_alloc ?_ _)); refine blk_put (cs := #[.int .i64 ((rd_T147 l0_3 x45_2).f0), .int .i64 ((rd_T147 l0_3 x45_2).f1.f0), .int .i64 ((rd_T147 l0_3 x45_2).f1.f1), .int .i64 ((rd_T147 l0_3 x45_2).f1.f2.f0), .slice none 0 0, .slice none 0 0, .int .i64 0]) ?_ 4 _ rfl; (with_reducible repeat (first | refine blk_drewN ?_ _ | refine blk_drew ?_ | refine blk_alloc ?_ _)); refine blk_put (cs := #[.int .i64 ((rd_T147 l0_3 x45_2).f0), .int .i64 ((rd_T147 l0_3 x45_2).f1.f0), .int .i64 ((rd_T147 l0_3 x45_2).f1.f1), .int .i64 0, .slice none 0 0, .slice none 0 0, .int .i64 0]) ?_ 3 _ rfl; (with_reducible repeat (first | refine blk_drewN ?_ _ | refine blk_drew ?_ | refine blk_alloc ?_ _)); refine blk_put (cs := #[.int .i64 ((rd_T147 l0_3 x45_2).f0), .int .i64 ((rd_T147 l0_3 x45_2).f1.f0), .int .i64 0, .int .i64 0, .slice none 0 0, .slice none 0 0, .int .i64 0]) ?_ 2 _ rfl; (with_reducible repeat (first | refine blk_drewN ?_ _ | refine blk_drew ?_ | refine blk_alloc ?_ _)); refine blk_put (cs := #[.int .i64 ((rd_T147 l0_3 x45_2).f0), .int .i64 0, .int .i64 0, .int .i64 0, .slice none 0 0, .slice none 0 0, .int .i64 0]) ?_ 1 _ rfl; (with_reducible repeat (first | refine blk_drewN ?_ _ | refine blk_drew ?_ | refine blk_alloc ?_ _)); refine blk_put (cs := #[.int .i64 0, .int .i64 0, .int .i64 0, .int .i64 0, .slice none 0 0, .slice none 0 0, .int .i64 0]) ?_ 0 _ rfl; (with_reducible repeat (first | refine blk_drewN ?_ _ | refine blk_drew ?_ | refine blk_alloc ?_ _)); exact BK281.out) hb); replace HB := Aside0.mk (below_step bel hb); (try clear hb); (try clear hb2); (try clear hk); (try clear hi)))
          go_ret
          exact ⟨by first | rfl | (simp [errW_none, errW_some] <;> rfl) | (simp [*, errW_none, errW_some] <;> rfl), by repeat (first | (with_reducible first | exact HB.out | apply below_alloc | apply pw_below_drewN | apply below_drew1 | refine below_set ?_ GE275.out | refine below_set ?_ GE281.out) | exact HB.out)⟩
        ·rw [if_neg c22] at H
         exact absurd H (by simp)
       ·rw [if_neg c21] at H
        exact absurd H (by simp)
      ·rw [if_neg c20] at H
       have c20b0 : decide (x45_2 < (l0_3.length : Int)) = false := decide_eq_false c20
       clear c20
       have HC43 := Aside0.mk H
       clear H
       go_upto_region 11 with (fail)
       go_cut [103] (fun v103 wc => ∃ (kq : Nat) (x103_42 : Bool), v103 = .bool x103_42 ∧ Aside0 (impl_NodeOk.j2 kq a1 x103_42 a0_0 a0_1 a0_2 l0_3 a0_4 a0_5 a0_6 a0_7 l0_8 l0_9 l0_10 = some r) ∧ Aside0 (kq ≤ k2) ∧ Aside0 (wc.heap[gb275]? = some (.cells #[.int .i64 a0_0, .int .i64 a0_1, .int .i64 a0_2, (.slice A0_3 l0_3.length c0_3), .int .i64 a0_4, .int .i64 a0_5, .int .i64 a0_6, .int .i64 a0_7, (.slice A0_8 l0_8.length c0_8), (.slice A0_9 l0_9.length c0_9), (.slice A0_10 l0_10.length c0_10)] 48 (0, 0))) ∧ Aside0 (Below w.heap.size w wc))
       case first => as_aux_lemma =>
        have H := HC43.out
        clear HC43
        replace H := Option.bind_eq_some_iff.mp H
        obtain ⟨t284, A440, H⟩ := H
        replace H : (if t284 = true then ((impl_within.f a0_5 0 2).bind fun t285 => (if t285 = true then ((impl_within.f a0_7 0 20).bind fun t286 => (if t286 = true then (if (l0_8.length : Int) = a1 then (if (l0_9.length : Int) = a1 then (impl_NodeOk.j2 k2 a1 ((l0_10.length : Int) != a1) a0_0 a0_1 a0_2 l0_3 a0_4 a0_5 a0_6 a0_7 l0_8 l0_9 l0_10) else (impl_NodeOk.j2 k2 a1 true a0_0 a0_1 a0_2 l0_3 a0_4 a0_5 a0_6 a0_7 l0_8 l0_9 l0_10)) else (impl_NodeOk.j2 k2 a1 true a0_0 a0_1 a0_2 l0_3 a0_4 a0_5 a0_6 a0_7 l0_8 l0_9 l0_10)) else (impl_NodeOk.j2 k2 a1 true a0_0 a0_1 a0_2 l0_3 a0_4 a0_5 a0_6 a0_7 l0_8 l0_9 l0_10))) else (impl_NodeOk.j2 k2 a1 true a0_0 a0_1 a0_2 l0_3 a0_4 a0_5 a0_6 a0_7 l0_8 l0_9 l0_10))) else (impl_NodeOk.j2 k2 a1 true a0_0 a0_1 a0_2 l0_3 a0_4 a0_5 a0_6 a0_7 l0_8 l0_9 l0_10)) = some r := H
        have A44 := Aside0.mk A440
        clear A440
        by_cases c45 : t284 = true
        ·subst c45
         have H1 : ((impl_within.f a0_5 0 2).bind fun t285 => (if t285 = true then ((impl_within.f a0_7 0 20).bind fun t286 => (if t286 = true then (if (l0_8.length : Int) = a1 then (if (l0_9.length : Int) = a1 then (impl_NodeOk.j2 k2 a1 ((l0_10.length : Int) != a1) a0_0 a0_1 a0_2 l0_3 a0_4 a0_5 a0_6 a0_7 l0_8 l0_9 l0_10) else (impl_NodeOk.j2 k2 a1 true a0_0 a0_1 a0_2 l0_3 a0_4 a0_5 a0_6 a0_7 l0_8 l0_9 l0_10)) else (impl_NodeOk.j2 k2 a1 true a0_0 a0_1 a0_2 l0_3 a0_4 a0_5 a0_6 a0_7 l0_8 l0_9 l0_10)) else (impl_NodeOk.j2 k2 a1 true a0_0 a0_1 a0_2 l0_3 a0_4 a0_5 a0_6 a0_7 l0_8 l0_9 l0_10))) else (impl_NodeOk.j2 k2 a1 true a0_0 a0_1 a0_2 l0_3 a0_4 a0_5 a0_6 a0_7 l0_8 l0_9 l0_10))) = some r := by rw [if_pos rfl] at H; exact H
         clear H
         have H := H1
         clear H1
         replace H := Option.bind_eq_some_iff.mp H
         obtain ⟨t285, A460, H⟩ := H
         replace H : (if t285 = true then ((impl_within.f a0_7 0 20).bind fun t286 => (if t286 = true then (if (l0_8.length : Int) = a1 then (if (l0_9.length : Int) = a1 then (impl_NodeOk.j2 k2 a1 ((l0_10.length : Int) != a1) a0_0 a0_1 a0_2 l0_3 a0_4 a0_5 a0_6 a0_7 l0_8 l0_9 l0_10) else (impl_NodeOk.j2 k2 a1 true a0_0 a0_1 a0_2 l0_3 a0_4 a0_5 a0_6 a0_7 l0_8 l0_9 l0_10)) else (impl_NodeOk.j2 k2 a1 true a0_0 a0_1 a0_2 l0_3 a0_4 a0_5 a0_6 a0_7 l0_8 l0_9 l0_10)) else (impl_NodeOk.j2 k2 a1 true a0_0 a0_1 a0_2 l0_3 a0_4 a0_5 a0_6 a0_7 l0_8 l0_9 l0_10))) else (impl_NodeOk.j2 k2 a1 true a0_0 a0_1 a0_2 l0_3 a0_4 a0_5 a0_6 a0_7 l0_8 l0_9 l0_10)) = some r := H
         have A46 := Aside0.mk A460
         clear A460
         by_cases c47 : t285 = true
         ·subst c47
          have H1 : ((impl_within.f a0_7 0 20).bind fun t286 => (if t286 = true then (if (l0_8.length : Int) = a1 then (if (l0_9.length : Int) = a1 then (impl_NodeOk.j2 k2 a1 ((l0_10.length : Int) != a1) a0_0 a0_1 a0_2 l0_3 a0_4 a0_5 a0_6 a0_7 l0_8 l0_9 l0_10) else (impl_NodeOk.j2 k2 a1 true a0_0 a0_1 a0_2 l0_3 a0_4 a0_5 a0_6 a0_7 l0_8 l0_9 l0_10)) else (impl_NodeOk.j2 k2 a1 true a0_0 a0_1 a0_2 l0_3 a0_4 a0_5 a0_6 a0_7 l0_8 l0_9 l0_10)) else (impl_NodeOk.j2 k2 a1 true a0_0 a0_1 a0_2 l0_3 a0_4 a0_5 a0_6 a0_7 l0_8 l0_9 l0_10))) = some r := by rw [if_pos rfl] at H; exact H
          clear H
          have H := H1
          clear H1
          replace H := Option.bind_eq_some_iff.mp H
          obtain ⟨t286, A480, H⟩ := H
          replace H : (if t286 = true then (if (l0_8.length : Int) = a1 then (if (l0_9.length : Int) = a1 then (impl_NodeOk.j2 k2 a1 ((l0_10.length : Int) != a1) a0_0 a0_1 a0_2 l0_3 a0_4 a0_5 a0_6 a0_7 l0_8 l0_9 l0_10) else (impl_NodeOk.j2 k2 a1 true a0_0 a0_1 a0_2 l0_3 a0_4 a0_5 a0_6 a0_7 l0_8 l0_9 l0_10)) else (impl_NodeOk.j2 k2 a1 true a0_0 a0_1 a0_2 l0_3 a0_4 a0_5 a0_6 a0_7 l0_8 l0_9 l0_10)) else (impl_NodeOk.j2 k2 a1 true a0_0 a0_1 a0_2 l0_3 a0_4 a0_5 a0_6 a0_7 l0_8 l0_9 l0_10)) = some r := H
          have A48 := Aside0.mk A480
          clear A480
          by_cases c49 : t286 = true
          ·subst c49
           have H1 : (if (l0_8.length : Int) = a1 then (if (l0_9.length : Int) = a1 then (impl_NodeOk.j2 k2 a1 ((l0_10.length : Int) != a1) a0_0 a0_1 a0_2 l0_3 a0_4 a0_5 a0_6 a0_7 l0_8 l0_9 l0_10) else (impl_NodeOk.j2 k2 a1 true a0_0 a0_1 a0_2 l0_3 a0_4 a0_5 a0_6 a0_7 l0_8 l0_9 l0_10)) else (impl_NodeOk.j2 k2 a1 true a0_0 a0_1 a0_2 l0_3 a0_4 a0_5 a0_6 a0_7 l0_8 l0_9 l0_10)) = some r := by rw [if_pos rfl] at H; exact H
           clear H
           have H := H1
           clear H1
           by_cases c50 : (l0_8.length : Int) = a1
           ·rw [if_pos c50] at H
            have c50b0 : ((l0_8.length : Int) == a1) = true := beq_iff_eq.mpr c50
            have c50b1 : ((l0_8.length : Int) != a1) = false := bne_eq_false_iff_eq.mpr c50
            clear c50
            (first | rw [c50b0] | (simp only [i64_w, i32_w]; rw [c50b0]) | skip)
            by_cases c51 : (l0_9.length : Int) = a1
            ·rw [if_pos c51] at H
             have c51b0 : ((l0_9.length : Int) == a1) = true := beq_iff_eq.mpr c51
             have c51b1 : ((l0_9.length : Int) != a1) = false := bne_eq_false_iff_eq.mpr c51
             clear c51
             have H' := Aside0.mk H
             clear H
             obtain ⟨hcz52_0, hcz52_1, hcz52_2, hcz52_3, hcz52_4, hcz52_5, hcz52_6, hcz52_7, hcz52_8, hcz52_9, hcz52_10, -⟩ := cells_11 BK275.out trivial
             obtain ⟨hfz52_0, hfz52_1, hfz52_2, hfz52_3, hfz52_4, hfz52_5, hfz52_6, hfz52_7, hfz52_8, hfz52_9, hfz52_10, -⟩ := frz_11 BK275.out
             go_wp2_with (first | ((with_reducible refine gate_callee (f := 81) rfl ?_); refine gl_ (some 69) Try.func81 #[.int .i64 a0_4, .int .i64 0, .int .i64 (l0_3.length : Int)] (h := ?_); (with_reducible refine (impl_within.calls a0_4 0 (l0_3.length : Int) true _ A44.out).mono ?_); rintro e w' ⟨rfl, ⟨nd, rfl⟩⟩; refine ⟨_, rfl, ?_⟩) | (go_at_call 81; (with_reducible refine (impl_within.calls a0_5 0 2 true _ A46.out).mono ?_); rintro e w' ⟨rfl, ⟨nd, rfl⟩⟩) | (go_at_call 81; (with_reducible refine (impl_within.calls a0_7 0 20 true _ A48.out).mono ?_); rintro e w' ⟨rfl, ⟨nd, rfl⟩⟩))
             go_meet
             case rel => exact ⟨_, (((l0_10.length : Int) != a1)), (by first | rfl | (simp; done) | (simp [*]; done)), H', ⟨by have := HJ2.out; have := HK2.out; first | omega | exact Nat.le_refl _⟩, ⟨by (with_reducible repeat (first | refine blk_drewN ?_ _ | refine blk_drew ?_ | refine blk_alloc ?_ _)); exact BK275.out⟩, ⟨by repeat (first | (with_reducible first | exact HB.out | apply below_alloc | apply pw_below_drewN | apply below_drew1 | refine below_set ?_ GE275.out) | exact HB.out)⟩⟩
            ·rw [if_neg c51] at H
             have c51b0 : ((l0_9.length : Int) == a1) = false := beq_eq_false_iff_ne.mpr c51
             have c51b1 : ((l0_9.length : Int) != a1) = true := bne_iff_ne.mpr c51
             have H' := Aside0.mk H
             clear H
             obtain ⟨hcz53_0, hcz53_1, hcz53_2, hcz53_3, hcz53_4, hcz53_5, hcz53_6, hcz53_7, hcz53_8, hcz53_9, hcz53_10, -⟩ := cells_11 BK275.out trivial
             obtain ⟨hfz53_0, hfz53_1, hfz53_2, hfz53_3, hfz53_4, hfz53_5, hfz53_6, hfz53_7, hfz53_8, hfz53_9, hfz53_10, -⟩ := frz_11 BK275.out
             go_wp2_with (first | ((with_reducible refine gate_callee (f := 81) rfl ?_); refine gl_ (some 69) Try.func81 #[.int .i64 a0_4, .int .i64 0, .int .i64 (l0_3.length : Int)] (h := ?_); (with_reducible refine (impl_within.calls a0_4 0 (l0_3.length : Int) true _ A44.out).mono ?_); rintro e w' ⟨rfl, ⟨nd, rfl⟩⟩; refine ⟨_, rfl, ?_⟩) | (go_at_call 81; (with_reducible refine (impl_within.calls a0_5 0 2 true _ A46.out).mono ?_); rintro e w' ⟨rfl, ⟨nd, rfl⟩⟩) | (go_at_call 81; (with_reducible refine (impl_within.calls a0_7 0 20 true _ A48.out).mono ?_); rintro e w' ⟨rfl, ⟨nd, rfl⟩⟩))
             go_meet
             case rel => exact ⟨_, (true), (by first | rfl | (simp; done) | (simp [*]; done)), H', ⟨by have := HJ2.out; have := HK2.out; first | omega | exact Nat.le_refl _⟩, ⟨by (with_reducible repeat (first | refine blk_drewN ?_ _ | refine blk_drew ?_ | refine blk_alloc ?_ _)); exact BK275.out⟩, ⟨by repeat (first | (with_reducible first | exact HB.out | apply below_alloc | apply pw_below_drewN | apply below_drew1 | refine below_set ?_ GE275.out) | exact HB.out)⟩⟩
           ·rw [if_neg c50] at H
            have c50b0 : ((l0_8.length : Int) == a1) = false := beq_eq_false_iff_ne.mpr c50
            have c50b1 : ((l0_8.length : Int) != a1) = true := bne_iff_ne.mpr c50
            (first | rw [c50b0] | (simp only [i64_w, i32_w]; rw [c50b0]) | skip)
            have H' := Aside0.mk H
            clear H
            obtain ⟨hcz54_0, hcz54_1, hcz54_2, hcz54_3, hcz54_4, hcz54_5, hcz54_6, hcz54_7, hcz54_8, hcz54_9, hcz54_10, -⟩ := cells_11 BK275.out trivial
            obtain ⟨hfz54_0, hfz54_1, hfz54_2, hfz54_3, hfz54_4, hfz54_5, hfz54_6, hfz54_7, hfz54_8, hfz54_9, hfz54_10, -⟩ := frz_11 BK275.out
            go_wp2_with (first | ((with_reducible refine gate_callee (f := 81) rfl ?_); refine gl_ (some 69) Try.func81 #[.int .i64 a0_4, .int .i64 0, .int .i64 (l0_3.length : Int)] (h := ?_); (with_reducible refine (impl_within.calls a0_4 0 (l0_3.length : Int) true _ A44.out).mono ?_); rintro e w' ⟨rfl, ⟨nd, rfl⟩⟩; refine ⟨_, rfl, ?_⟩) | (go_at_call 81; (with_reducible refine (impl_within.calls a0_5 0 2 true _ A46.out).mono ?_); rintro e w' ⟨rfl, ⟨nd, rfl⟩⟩) | (go_at_call 81; (with_reducible refine (impl_within.calls a0_7 0 20 true _ A48.out).mono ?_); rintro e w' ⟨rfl, ⟨nd, rfl⟩⟩))
            go_meet
            case rel => exact ⟨_, (true), (by first | rfl | (simp; done) | (simp [*]; done)), H', ⟨by have := HJ2.out; have := HK2.out; first | omega | exact Nat.le_refl _⟩, ⟨by (with_reducible repeat (first | refine blk_drewN ?_ _ | refine blk_drew ?_ | refine blk_alloc ?_ _)); exact BK275.out⟩, ⟨by repeat (first | (with_reducible first | exact HB.out | apply below_alloc | apply pw_below_drewN | apply below_drew1 | refine below_set ?_ GE275.out) | exact HB.out)⟩⟩
          ·replace c49 := Bool.eq_false_iff.mpr c49
           subst c49
           have H1 : (impl_NodeOk.j2 k2 a1 true a0_0 a0_1 a0_2 l0_3 a0_4 a0_5 a0_6 a0_7 l0_8 l0_9 l0_10) = some r := by rw [if_neg (show ¬ (false = true) by decide)] at H; exact H
           clear H
           have H := H1
           clear H1
           have H' := Aside0.mk H
           clear H
           obtain ⟨hcz55_0, hcz55_1, hcz55_2, hcz55_3, hcz55_4, hcz55_5, hcz55_6, hcz55_7, hcz55_8, hcz55_9, hcz55_10, -⟩ := cells_11 BK275.out trivial
           obtain ⟨hfz55_0, hfz55_1, hfz55_2, hfz55_3, hfz55_4, hfz55_5, hfz55_6, hfz55_7, hfz55_8, hfz55_9, hfz55_10, -⟩ := frz_11 BK275.out
           go_wp2_with (first | ((with_reducible refine gate_callee (f := 81) rfl ?_); refine gl_ (some 69) Try.func81 #[.int .i64 a0_4, .int .i64 0, .int .i64 (l0_3.length : Int)] (h := ?_); (with_reducible refine (impl_within.calls a0_4 0 (l0_3.length : Int) true _ A44.out).mono ?_); rintro e w' ⟨rfl, ⟨nd, rfl⟩⟩; refine ⟨_, rfl, ?_⟩) | (go_at_call 81; (with_reducible refine (impl_within.calls a0_5 0 2 true _ A46.out).mono ?_); rintro e w' ⟨rfl, ⟨nd, rfl⟩⟩) | (go_at_call 81; (with_reducible refine (impl_within.calls a0_7 0 20 false _ A48.out).mono ?_); rintro e w' ⟨rfl, ⟨nd, rfl⟩⟩))
           go_meet
           case rel => exact ⟨_, (true), (by first | rfl | (simp; done) | (simp [*]; done)), H', ⟨by have := HJ2.out; have := HK2.out; first | omega | exact Nat.le_refl _⟩, ⟨by (with_reducible repeat (first | refine blk_drewN ?_ _ | refine blk_drew ?_ | refine blk_alloc ?_ _)); exact BK275.out⟩, ⟨by repeat (first | (with_reducible first | exact HB.out | apply below_alloc | apply pw_below_drewN | apply below_drew1 | refine below_set ?_ GE275.out) | exact HB.out)⟩⟩
         ·replace c47 := Bool.eq_false_iff.mpr c47
          subst c47
          have H1 : (impl_NodeOk.j2 k2 a1 true a0_0 a0_1 a0_2 l0_3 a0_4 a0_5 a0_6 a0_7 l0_8 l0_9 l0_10) = some r := by rw [if_neg (show ¬ (false = true) by decide)] at H; exact H
          clear H
          have H := H1
          clear H1
          have H' := Aside0.mk H
          clear H
          obtain ⟨hcz56_0, hcz56_1, hcz56_2, hcz56_3, hcz56_4, hcz56_5, hcz56_6, hcz56_7, hcz56_8, hcz56_9, hcz56_10, -⟩ := cells_11 BK275.out trivial
          obtain ⟨hfz56_0, hfz56_1, hfz56_2, hfz56_3, hfz56_4, hfz56_5, hfz56_6, hfz56_7, hfz56_8, hfz56_9, hfz56_10, -⟩ := frz_11 BK275.out
          go_wp2_with (first | ((with_reducible refine gate_callee (f := 81) rfl ?_); refine gl_ (some 69) Try.func81 #[.int .i64 a0_4, .int .i64 0, .int .i64 (l0_3.length : Int)] (h := ?_); (with_reducible refine (impl_within.calls a0_4 0 (l0_3.length : Int) true _ A44.out).mono ?_); rintro e w' ⟨rfl, ⟨nd, rfl⟩⟩; refine ⟨_, rfl, ?_⟩) | (go_at_call 81; (with_reducible refine (impl_within.calls a0_5 0 2 false _ A46.out).mono ?_); rintro e w' ⟨rfl, ⟨nd, rfl⟩⟩))
          go_meet
          case rel => exact ⟨_, (true), (by first | rfl | (simp; done) | (simp [*]; done)), H', ⟨by have := HJ2.out; have := HK2.out; first | omega | exact Nat.le_refl _⟩, ⟨by (with_reducible repeat (first | refine blk_drewN ?_ _ | refine blk_drew ?_ | refine blk_alloc ?_ _)); exact BK275.out⟩, ⟨by repeat (first | (with_reducible first | exact HB.out | apply below_alloc | apply pw_below_drewN | apply below_drew1 | refine below_set ?_ GE275.out) | exact HB.out)⟩⟩
        ·replace c45 := Bool.eq_false_iff.mpr c45
         subst c45
         have H1 : (impl_NodeOk.j2 k2 a1 true a0_0 a0_1 a0_2 l0_3 a0_4 a0_5 a0_6 a0_7 l0_8 l0_9 l0_10) = some r := by rw [if_neg (show ¬ (false = true) by decide)] at H; exact H
         clear H
         have H := H1
         clear H1
         have H' := Aside0.mk H
         clear H
         obtain ⟨hcz57_0, hcz57_1, hcz57_2, hcz57_3, hcz57_4, hcz57_5, hcz57_6, hcz57_7, hcz57_8, hcz57_9, hcz57_10, -⟩ := cells_11 BK275.out trivial
         obtain ⟨hfz57_0, hfz57_1, hfz57_2, hfz57_3, hfz57_4, hfz57_5, hfz57_6, hfz57_7, hfz57_8, hfz57_9, hfz57_10, -⟩ := frz_11 BK275.out
         go_wp2_with (first | ((with_reducible refine gate_callee (f := 81) rfl ?_); refine gl_ (some 69) Try.func81 #[.int .i64 a0_4, .int .i64 0, .int .i64 (l0_3.length : Int)] (h := ?_); (with_reducible refine (impl_within.calls a0_4 0 (l0_3.length : Int) false _ A44.out).mono ?_); rintro e w' ⟨rfl, ⟨nd, rfl⟩⟩; refine ⟨_, rfl, ?_⟩))
         go_meet
         case rel => exact ⟨_, (true), (by first | rfl | (simp; done) | (simp [*]; done)), H', ⟨by have := HJ2.out; have := HK2.out; first | omega | exact Nat.le_refl _⟩, ⟨by (with_reducible repeat (first | refine blk_drewN ?_ _ | refine blk_drew ?_ | refine blk_alloc ?_ _)); exact BK275.out⟩, ⟨by repeat (first | (with_reducible first | exact HB.out | apply below_alloc | apply pw_below_drewN | apply below_drew1 | refine below_set ?_ GE275.out) | exact HB.out)⟩⟩
       case rest =>
        clear HC43
        try clear c1; try clear c2; try clear p2; try clear q2; try clear hx2; try clear c3; try clear c4; try clear c5; try clear c6; try clear p6; try clear c8; try clear c9; try clear c10; try clear c11; try clear c12; try clear c16; try clear c18; try clear c20; try clear c20b0; try clear c21; try clear c21b0; try clear c22; try clear c22b0; try clear c24; try clear c26; try clear c28; try clear p28; try clear q28; try clear hx28; try clear c34; try clear c40; try clear c45; try clear c47; try clear c49; try clear c50; try clear c50b0; try clear c50b1; try clear c51; try clear c51b0; try clear c51b1; try clear hcz13_0; try clear hcz13_1; try clear hcz13_10; try clear hcz13_2; try clear hcz13_3; try clear hcz13_4; try clear hcz13_5; try clear hcz13_6; try clear hcz13_7; try clear hcz13_8; try clear hcz13_9; try clear hcz14_0; try clear hcz14_1; try clear hcz14_10; try clear hcz14_2; try clear hcz14_3; try clear hcz14_4; try clear hcz14_5; try clear hcz14_6; try clear hcz14_7; try clear hcz14_8; try clear hcz14_9; try clear hcz15_0; try clear hcz15_1; try clear hcz15_10; try clear hcz15_2; try clear hcz15_3; try clear hcz15_4; try clear hcz15_5; try clear hcz15_6; try clear hcz15_7; try clear hcz15_8; try clear hcz15_9; try clear hcz16_0; try clear hcz16_1; try clear hcz16_10; try clear hcz16_2; try clear hcz16_3; try clear hcz16_4; try clear hcz16_5; try clear hcz16_6; try clear hcz16_7; try clear hcz16_8; try clear hcz16_9; try clear hcz17_0; try clear hcz17_1; try clear hcz17_10; try clear hcz17_2; try clear hcz17_3; try clear hcz17_4; try clear hcz17_5; try clear hcz17_6; try clear hcz17_7; try clear hcz17_8; try clear hcz17_9; try clear hcz19_0; try clear hcz19_1; try clear hcz19_10; try clear hcz19_2; try clear hcz19_3; try clear hcz19_4; try clear hcz19_5; try clear hcz19_6; try clear hcz19_7; try clear hcz19_8; try clear hcz19_9; try clear hcz29_0; try clear hcz29_1; try clear hcz29_2; try clear hcz29_3; try clear hcz29_4; try clear hcz29_5; try clear hcz29_6; try clear hcz31_0; try clear hcz31_1; try clear hcz31_2; try clear hcz31_3; try clear hcz31_4; try clear hcz31_5; try clear hcz31_6; try clear hcz32_0; try clear hcz32_1; try clear hcz32_10; try clear hcz32_2; try clear hcz32_3; try clear hcz32_4; try clear hcz32_5; try clear hcz32_6; try clear hcz32_7; try clear hcz32_8; try clear hcz32_9; try clear hcz35_0; try clear hcz35_1; try clear hcz35_2; try clear hcz35_3; try clear hcz35_4; try clear hcz35_5; try clear hcz35_6; try clear hcz37_0; try clear hcz37_1; try clear hcz37_2; try clear hcz37_3; try clear hcz37_4; try clear hcz37_5; try clear hcz37_6; try clear hcz38_0; try clear hcz38_1; try clear hcz38_10; try clear hcz38_2; try clear hcz38_3; try clear hcz38_4; try clear hcz38_5; try clear hcz38_6; try clear hcz38_7; try clear hcz38_8; try clear hcz38_9; try clear hcz41_0; try clear hcz41_1; try clear hcz41_2; try clear hcz41_3; try clear hcz41_4; try clear hcz41_5; try clear hcz41_6; try clear hcz52_0; try clear hcz52_1; try clear hcz52_10; try clear hcz52_2; try clear hcz52_3; try clear hcz52_4; try clear hcz52_5; try clear hcz52_6; try clear hcz52_7; try clear hcz52_8; try clear hcz52_9; try clear hcz53_0; try clear hcz53_1; try clear hcz53_10; try clear hcz53_2; try clear hcz53_3; try clear hcz53_4; try clear hcz53_5; try clear hcz53_6; try clear hcz53_7; try clear hcz53_8; try clear hcz53_9; try clear hcz54_0; try clear hcz54_1; try clear hcz54_10; try clear hcz54_2; try clear hcz54_3; try clear hcz54_4; try clear hcz54_5; try clear hcz54_6; try clear hcz54_7; try clear hcz54_8; try clear hcz54_9; try clear hcz55_0; try clear hcz55_1; try clear hcz55_10; try clear hcz55_2; try clear hcz55_3; try clear hcz55_4; try clear hcz55_5; try clear hcz55_6; try clear hcz55_7; try clear hcz55_8; try clear hcz55_9; try clear hcz56_0; try clear hcz56_1; try clear hcz56_10; try clear hcz56_2; try clear hcz56_3; try clear hcz56_4; try clear hcz56_5; try clear hcz56_6; try clear hcz56_7; try clear hcz56_8; try clear hcz56_9; try clear hcz57_0; try clear hcz57_1; try clear hcz57_10; try clear hcz57_2; try clear hcz57_3; try clear hcz57_4; try clear hcz57_5; try clear hcz57_6; try clear hcz57_7; try clear hcz57_8; try clear hcz57_9; try clear hfz13_0; try clear hfz13_1; try clear hfz13_10; try clear hfz13_2; try clear hfz13_3; try clear hfz13_4; try clear hfz13_5; try clear hfz13_6; try clear hfz13_7; try clear hfz13_8; try clear hfz13_9; try clear hfz14_0; try clear hfz14_1; try clear hfz14_10; try clear hfz14_2; try clear hfz14_3; try clear hfz14_4; try clear hfz14_5; try clear hfz14_6; try clear hfz14_7; try clear hfz14_8; try clear hfz14_9; try clear hfz15_0; try clear hfz15_1; try clear hfz15_10; try clear hfz15_2; try clear hfz15_3; try clear hfz15_4; try clear hfz15_5; try clear hfz15_6; try clear hfz15_7; try clear hfz15_8; try clear hfz15_9; try clear hfz16_0; try clear hfz16_1; try clear hfz16_10; try clear hfz16_2; try clear hfz16_3; try clear hfz16_4; try clear hfz16_5; try clear hfz16_6; try clear hfz16_7; try clear hfz16_8; try clear hfz16_9; try clear hfz17_0; try clear hfz17_1; try clear hfz17_10; try clear hfz17_2; try clear hfz17_3; try clear hfz17_4; try clear hfz17_5; try clear hfz17_6; try clear hfz17_7; try clear hfz17_8; try clear hfz17_9; try clear hfz19_0; try clear hfz19_1; try clear hfz19_10; try clear hfz19_2; try clear hfz19_3; try clear hfz19_4; try clear hfz19_5; try clear hfz19_6; try clear hfz19_7; try clear hfz19_8; try clear hfz19_9; try clear hfz29_0; try clear hfz29_1; try clear hfz29_2; try clear hfz29_3; try clear hfz29_4; try clear hfz29_5; try clear hfz29_6; try clear hfz31_0; try clear hfz31_1; try clear hfz31_2; try clear hfz31_3; try clear hfz31_4; try clear hfz31_5; try clear hfz31_6; try clear hfz32_0; try clear hfz32_1; try clear hfz32_10; try clear hfz32_2; try clear hfz32_3; try clear hfz32_4; try clear hfz32_5; try clear hfz32_6; try clear hfz32_7; try clear hfz32_8; try clear hfz32_9; try clear hfz35_0; try clear hfz35_1; try clear hfz35_2; try clear hfz35_3; try clear hfz35_4; try clear hfz35_5; try clear hfz35_6; try clear hfz37_0; try clear hfz37_1; try clear hfz37_2; try clear hfz37_3; try clear hfz37_4; try clear hfz37_5; try clear hfz37_6; try clear hfz38_0; try clear hfz38_1; try clear hfz38_10; try clear hfz38_2; try clear hfz38_3; try clear hfz38_4; try clear hfz38_5; try clear hfz38_6; try clear hfz38_7; try clear hfz38_8; try clear hfz38_9; try clear hfz41_0; try clear hfz41_1; try clear hfz41_2; try clear hfz41_3; try clear hfz41_4; try clear hfz41_5; try clear hfz41_6; try clear hfz52_0; try clear hfz52_1; try clear hfz52_10; try clear hfz52_2; try clear hfz52_3; try clear hfz52_4; try clear hfz52_5; try clear hfz52_6; try clear hfz52_7; try clear hfz52_8; try clear hfz52_9; try clear hfz53_0; try clear hfz53_1; try clear hfz53_10; try clear hfz53_2; try clear hfz53_3; try clear hfz53_4; try clear hfz53_5; try clear hfz53_6; try clear hfz53_7; try clear hfz53_8; try clear hfz53_9; try clear hfz54_0; try clear hfz54_1; try clear hfz54_10; try clear hfz54_2; try clear hfz54_3; try clear hfz54_4; try clear hfz54_5; try clear hfz54_6; try clear hfz54_7; try clear hfz54_8; try clear hfz54_9; try clear hfz55_0; try clear hfz55_1; try clear hfz55_10; try clear hfz55_2; try clear hfz55_3; try clear hfz55_4; try clear hfz55_5; try clear hfz55_6; try clear hfz55_7; try clear hfz55_8; try clear hfz55_9; try clear hfz56_0; try clear hfz56_1; try clear hfz56_10; try clear hfz56_2; try clear hfz56_3; try clear hfz56_4; try clear hfz56_5; try clear hfz56_6; try clear hfz56_7; try clear hfz56_8; try clear hfz56_9; try clear hfz57_0; try clear hfz57_1; try clear hfz57_10; try clear hfz57_2; try clear hfz57_3; try clear hfz57_4; try clear hfz57_5; try clear hfz57_6; try clear hfz57_7; try clear hfz57_8; try clear hfz57_9; try clear hx280_0; try clear hx280_1; try clear hx280_2; try clear hx280_3; try clear hx280_4; try clear hx280_5; try clear hx280_6; try clear p2; try clear p280; try clear p6; try clear q280
        obtain ⟨kq, x103_42, rfl, HA, HJ42, BK275, HB⟩ := hcut
        cases kq with
        | zero => exact absurd HA.out (by simp [impl_NodeOk.j2])
        | succ kj42 =>
         have H := HA.out
         clear HA
         simp only [impl_NodeOk.j2] at H
         by_cases c58 : x103_42 = true
         ·subst c58
          have H1 : (some false) = some r := by rw [if_pos rfl] at H; exact H
          clear H
          have H := H1
          clear H1
          obtain rfl := Option.some.inj H
          go_wp2
          go_ret
          exact ⟨by first | rfl | (simp [errW_none, errW_some] <;> rfl) | (simp [*, errW_none, errW_some] <;> rfl), by repeat (first | (with_reducible first | exact HB.out | apply below_alloc | apply pw_below_drewN | apply below_drew1 | refine below_set ?_ GE275.out) | exact HB.out)⟩
         ·replace c58 := Bool.eq_false_iff.mpr c58
          subst c58
          have H1 : (if a0_5 = 0 then ((slices_Contains_bool_bool.f kj42 l0_8 true).bind fun t287 => (if t287 = true then (impl_NodeOk.j3 kj42 a1 true a0_0 a0_1 a0_2 l0_3 a0_4 a0_5 a0_6 a0_7 l0_8 l0_9 l0_10) else (if a0_5 = 2 then (impl_NodeOk.j3 kj42 a1 (a0_6 != a0_0) a0_0 a0_1 a0_2 l0_3 a0_4 a0_5 a0_6 a0_7 l0_8 l0_9 l0_10) else (impl_NodeOk.j3 kj42 a1 false a0_0 a0_1 a0_2 l0_3 a0_4 a0_5 a0_6 a0_7 l0_8 l0_9 l0_10)))) else (if a0_1 < 1 then (impl_NodeOk.j3 kj42 a1 true a0_0 a0_1 a0_2 l0_3 a0_4 a0_5 a0_6 a0_7 l0_8 l0_9 l0_10) else (if a0_2 = a0_0 then (if a0_5 = 2 then (impl_NodeOk.j3 kj42 a1 (a0_6 != a0_0) a0_0 a0_1 a0_2 l0_3 a0_4 a0_5 a0_6 a0_7 l0_8 l0_9 l0_10) else (impl_NodeOk.j3 kj42 a1 false a0_0 a0_1 a0_2 l0_3 a0_4 a0_5 a0_6 a0_7 l0_8 l0_9 l0_10)) else (impl_NodeOk.j3 kj42 a1 true a0_0 a0_1 a0_2 l0_3 a0_4 a0_5 a0_6 a0_7 l0_8 l0_9 l0_10)))) = some r := by rw [if_neg (show ¬ (false = true) by decide)] at H; exact H
          clear H
          have H := H1
          clear H1
          have HC59 := Aside0.mk H
          clear H
          go_upto_region 13 with (fail)
          go_cut [140] (fun v140 wc => ∃ (kq : Nat) (x140_58 : Bool), v140 = .bool x140_58 ∧ Aside0 (impl_NodeOk.j3 kq a1 x140_58 a0_0 a0_1 a0_2 l0_3 a0_4 a0_5 a0_6 a0_7 l0_8 l0_9 l0_10 = some r) ∧ Aside0 (kq ≤ kj42) ∧ Aside0 (wc.heap[gb275]? = some (.cells #[.int .i64 a0_0, .int .i64 a0_1, .int .i64 a0_2, (.slice A0_3 l0_3.length c0_3), .int .i64 a0_4, .int .i64 a0_5, .int .i64 a0_6, .int .i64 a0_7, (.slice A0_8 l0_8.length c0_8), (.slice A0_9 l0_9.length c0_9), (.slice A0_10 l0_10.length c0_10)] 48 (0, 0))) ∧ Aside0 (Below w.heap.size w wc))
          case first => as_aux_lemma =>
           have H := HC59.out
           clear HC59
           by_cases c60 : a0_5 = 0
           ·rw [if_pos c60] at H
            have c60b0 : (a0_5 == 0) = true := beq_iff_eq.mpr c60
            have c60b1 : (a0_5 != 0) = false := bne_eq_false_iff_eq.mpr c60
            clear c60
            (first | rw [c60b0] | (simp only [i64_w, i32_w]; rw [c60b0]) | skip)
            replace H := Option.bind_eq_some_iff.mp H
            obtain ⟨t287, A610, H⟩ := H
            replace H : (if t287 = true then (impl_NodeOk.j3 kj42 a1 true a0_0 a0_1 a0_2 l0_3 a0_4 a0_5 a0_6 a0_7 l0_8 l0_9 l0_10) else (if a0_5 = 2 then (impl_NodeOk.j3 kj42 a1 (a0_6 != a0_0) a0_0 a0_1 a0_2 l0_3 a0_4 a0_5 a0_6 a0_7 l0_8 l0_9 l0_10) else (impl_NodeOk.j3 kj42 a1 false a0_0 a0_1 a0_2 l0_3 a0_4 a0_5 a0_6 a0_7 l0_8 l0_9 l0_10))) = some r := H
            have A61 := Aside0.mk A610
            clear A610
            by_cases c62 : t287 = true
            ·subst c62
             have H1 : (impl_NodeOk.j3 kj42 a1 true a0_0 a0_1 a0_2 l0_3 a0_4 a0_5 a0_6 a0_7 l0_8 l0_9 l0_10) = some r := by rw [if_pos rfl] at H; exact H
             clear H
             have H := H1
             clear H1
             have H' := Aside0.mk H
             clear H
             obtain ⟨hcz63_0, hcz63_1, hcz63_2, hcz63_3, hcz63_4, hcz63_5, hcz63_6, hcz63_7, hcz63_8, hcz63_9, hcz63_10, -⟩ := cells_11 BK275.out trivial
             obtain ⟨hfz63_0, hfz63_1, hfz63_2, hfz63_3, hfz63_4, hfz63_5, hfz63_6, hfz63_7, hfz63_8, hfz63_9, hfz63_10, -⟩ := frz_11 BK275.out
             go_wp2_with (first | (go_at_call 163; (with_reducible refine (slices_Contains_bool_bool.calls kj42 _ _ l0_8 true true _ ?side1 ?side2 A61.out).mono ?_); (case side1 => exact kcb); (case side2 => exact HC0_8.out); rintro e w' ⟨rfl, ⟨nd, rfl⟩⟩))
             go_meet
             case rel => exact ⟨_, (true), (by first | rfl | (simp; done) | (simp [*]; done)), H', ⟨by have := HJ2.out; have := HK2.out; have := HJ42.out; first | omega | exact Nat.le_refl _⟩, ⟨by (with_reducible repeat (first | refine blk_drewN ?_ _ | refine blk_drew ?_ | refine blk_alloc ?_ _)); exact BK275.out⟩, ⟨by repeat (first | (with_reducible first | exact HB.out | apply below_alloc | apply pw_below_drewN | apply below_drew1 | refine below_set ?_ GE275.out) | exact HB.out)⟩⟩
            ·replace c62 := Bool.eq_false_iff.mpr c62
             subst c62
             have H1 : (if a0_5 = 2 then (impl_NodeOk.j3 kj42 a1 (a0_6 != a0_0) a0_0 a0_1 a0_2 l0_3 a0_4 a0_5 a0_6 a0_7 l0_8 l0_9 l0_10) else (impl_NodeOk.j3 kj42 a1 false a0_0 a0_1 a0_2 l0_3 a0_4 a0_5 a0_6 a0_7 l0_8 l0_9 l0_10)) = some r := by rw [if_neg (show ¬ (false = true) by decide)] at H; exact H
             clear H
             have H := H1
             clear H1
             by_cases c64 : a0_5 = 2
             ·rw [if_pos c64] at H
              have c64b0 : (a0_5 == 2) = true := beq_iff_eq.mpr c64
              have c64b1 : (a0_5 != 2) = false := bne_eq_false_iff_eq.mpr c64
              clear c64
              have H' := Aside0.mk H
              clear H
              obtain ⟨hcz65_0, hcz65_1, hcz65_2, hcz65_3, hcz65_4, hcz65_5, hcz65_6, hcz65_7, hcz65_8, hcz65_9, hcz65_10, -⟩ := cells_11 BK275.out trivial
              obtain ⟨hfz65_0, hfz65_1, hfz65_2, hfz65_3, hfz65_4, hfz65_5, hfz65_6, hfz65_7, hfz65_8, hfz65_9, hfz65_10, -⟩ := frz_11 BK275.out
              go_wp2_with (first | (go_at_call 163; (with_reducible refine (slices_Contains_bool_bool.calls kj42 _ _ l0_8 true false _ ?side1 ?side2 A61.out).mono ?_); (case side1 => exact kcb); (case side2 => exact HC0_8.out); rintro e w' ⟨rfl, ⟨nd, rfl⟩⟩))
              go_meet
              case rel => exact ⟨_, ((a0_6 != a0_0)), (by first | rfl | (simp; done) | (simp [*]; done)), H', ⟨by have := HJ2.out; have := HK2.out; have := HJ42.out; first | omega | exact Nat.le_refl _⟩, ⟨by (with_reducible repeat (first | refine blk_drewN ?_ _ | refine blk_drew ?_ | refine blk_alloc ?_ _)); exact BK275.out⟩, ⟨by repeat (first | (with_reducible first | exact HB.out | apply below_alloc | apply pw_below_drewN | apply below_drew1 | refine below_set ?_ GE275.out) | exact HB.out)⟩⟩
             ·rw [if_neg c64] at H
              have c64b0 : (a0_5 == 2) = false := beq_eq_false_iff_ne.mpr c64
              have c64b1 : (a0_5 != 2) = true := bne_iff_ne.mpr c64
              have H' := Aside0.mk H
              clear H
              obtain ⟨hcz66_0, hcz66_1, hcz66_2, hcz66_3, hcz66_4, hcz66_5, hcz66_6, hcz66_7, hcz66_8, hcz66_9, hcz66_10, -⟩ := cells_11 BK275.out trivial
              obtain ⟨hfz66_0, hfz66_1, hfz66_2, hfz66_3, hfz66_4, hfz66_5, hfz66_6, hfz66_7, hfz66_8, hfz66_9, hfz66_10, -⟩ := frz_11 BK275.out
              go_wp2_with (first | (go_at_call 163; (with_reducible refine (slices_Contains_bool_bool.calls kj42 _ _ l0_8 true false _ ?side1 ?side2 A61.out).mono ?_); (case side1 => exact kcb); (case side2 => exact HC0_8.out); rintro e w' ⟨rfl, ⟨nd, rfl⟩⟩))
              go_meet
              case rel => exact ⟨_, (false), (by first | rfl | (simp; done) | (simp [*]; done)), H', ⟨by have := HJ2.out; have := HK2.out; have := HJ42.out; first | omega | exact Nat.le_refl _⟩, ⟨by (with_reducible repeat (first | refine blk_drewN ?_ _ | refine blk_drew ?_ | refine blk_alloc ?_ _)); exact BK275.out⟩, ⟨by repeat (first | (with_reducible first | exact HB.out | apply below_alloc | apply pw_below_drewN | apply below_drew1 | refine below_set ?_ GE275.out) | exact HB.out)⟩⟩
           ·rw [if_neg c60] at H
            have c60b0 : (a0_5 == 0) = false := beq_eq_false_iff_ne.mpr c60
            have c60b1 : (a0_5 != 0) = true := bne_iff_ne.mpr c60
            (first | rw [c60b0] | (simp only [i64_w, i32_w]; rw [c60b0]) | skip)
            by_cases c67 : a0_1 < 1
            ·rw [if_pos c67] at H
             have c67b0 : decide (a0_1 < 1) = true := decide_eq_true c67
             clear c67
             have H' := Aside0.mk H
             clear H
             obtain ⟨hcz68_0, hcz68_1, hcz68_2, hcz68_3, hcz68_4, hcz68_5, hcz68_6, hcz68_7, hcz68_8, hcz68_9, hcz68_10, -⟩ := cells_11 BK275.out trivial
             obtain ⟨hfz68_0, hfz68_1, hfz68_2, hfz68_3, hfz68_4, hfz68_5, hfz68_6, hfz68_7, hfz68_8, hfz68_9, hfz68_10, -⟩ := frz_11 BK275.out
             go_wp2
             go_meet
             case rel => exact ⟨_, (true), (by first | rfl | (simp; done) | (simp [*]; done)), H', ⟨by have := HJ2.out; have := HK2.out; have := HJ42.out; first | omega | exact Nat.le_refl _⟩, ⟨by (with_reducible repeat (first | refine blk_drewN ?_ _ | refine blk_drew ?_ | refine blk_alloc ?_ _)); exact BK275.out⟩, ⟨by repeat (first | (with_reducible first | exact HB.out | apply below_alloc | apply pw_below_drewN | apply below_drew1 | refine below_set ?_ GE275.out) | exact HB.out)⟩⟩
            ·rw [if_neg c67] at H
             have c67b0 : decide (a0_1 < 1) = false := decide_eq_false c67
             clear c67
             by_cases c69 : a0_2 = a0_0
             ·rw [if_pos c69] at H
              have c69b0 : (a0_2 == a0_0) = true := beq_iff_eq.mpr c69
              have c69b1 : (a0_2 != a0_0) = false := bne_eq_false_iff_eq.mpr c69
              clear c69
              by_cases c70 : a0_5 = 2
              ·rw [if_pos c70] at H
               have c70b0 : (a0_5 == 2) = true := beq_iff_eq.mpr c70
               have c70b1 : (a0_5 != 2) = false := bne_eq_false_iff_eq.mpr c70
               clear c70
               have H' := Aside0.mk H
               clear H
               obtain ⟨hcz71_0, hcz71_1, hcz71_2, hcz71_3, hcz71_4, hcz71_5, hcz71_6, hcz71_7, hcz71_8, hcz71_9, hcz71_10, -⟩ := cells_11 BK275.out trivial
               obtain ⟨hfz71_0, hfz71_1, hfz71_2, hfz71_3, hfz71_4, hfz71_5, hfz71_6, hfz71_7, hfz71_8, hfz71_9, hfz71_10, -⟩ := frz_11 BK275.out
               go_wp2
               go_meet
               case rel => exact ⟨_, ((a0_6 != a0_0)), (by first | rfl | (simp; done) | (simp [*]; done)), H', ⟨by have := HJ2.out; have := HK2.out; have := HJ42.out; first | omega | exact Nat.le_refl _⟩, ⟨by (with_reducible repeat (first | refine blk_drewN ?_ _ | refine blk_drew ?_ | refine blk_alloc ?_ _)); exact BK275.out⟩, ⟨by repeat (first | (with_reducible first | exact HB.out | apply below_alloc | apply pw_below_drewN | apply below_drew1 | refine below_set ?_ GE275.out) | exact HB.out)⟩⟩
              ·rw [if_neg c70] at H
               have c70b0 : (a0_5 == 2) = false := beq_eq_false_iff_ne.mpr c70
               have c70b1 : (a0_5 != 2) = true := bne_iff_ne.mpr c70
               have H' := Aside0.mk H
               clear H
               obtain ⟨hcz72_0, hcz72_1, hcz72_2, hcz72_3, hcz72_4, hcz72_5, hcz72_6, hcz72_7, hcz72_8, hcz72_9, hcz72_10, -⟩ := cells_11 BK275.out trivial
               obtain ⟨hfz72_0, hfz72_1, hfz72_2, hfz72_3, hfz72_4, hfz72_5, hfz72_6, hfz72_7, hfz72_8, hfz72_9, hfz72_10, -⟩ := frz_11 BK275.out
               go_wp2
               go_meet
               case rel => exact ⟨_, (false), (by first | rfl | (simp; done) | (simp [*]; done)), H', ⟨by have := HJ2.out; have := HK2.out; have := HJ42.out; first | omega | exact Nat.le_refl _⟩, ⟨by (with_reducible repeat (first | refine blk_drewN ?_ _ | refine blk_drew ?_ | refine blk_alloc ?_ _)); exact BK275.out⟩, ⟨by repeat (first | (with_reducible first | exact HB.out | apply below_alloc | apply pw_below_drewN | apply below_drew1 | refine below_set ?_ GE275.out) | exact HB.out)⟩⟩
             ·rw [if_neg c69] at H
              have c69b0 : (a0_2 == a0_0) = false := beq_eq_false_iff_ne.mpr c69
              have c69b1 : (a0_2 != a0_0) = true := bne_iff_ne.mpr c69
              have H' := Aside0.mk H
              clear H
              obtain ⟨hcz73_0, hcz73_1, hcz73_2, hcz73_3, hcz73_4, hcz73_5, hcz73_6, hcz73_7, hcz73_8, hcz73_9, hcz73_10, -⟩ := cells_11 BK275.out trivial
              obtain ⟨hfz73_0, hfz73_1, hfz73_2, hfz73_3, hfz73_4, hfz73_5, hfz73_6, hfz73_7, hfz73_8, hfz73_9, hfz73_10, -⟩ := frz_11 BK275.out
              go_wp2
              go_meet
              case rel => exact ⟨_, (true), (by first | rfl | (simp; done) | (simp [*]; done)), H', ⟨by have := HJ2.out; have := HK2.out; have := HJ42.out; first | omega | exact Nat.le_refl _⟩, ⟨by (with_reducible repeat (first | refine blk_drewN ?_ _ | refine blk_drew ?_ | refine blk_alloc ?_ _)); exact BK275.out⟩, ⟨by repeat (first | (with_reducible first | exact HB.out | apply below_alloc | apply pw_below_drewN | apply below_drew1 | refine below_set ?_ GE275.out) | exact HB.out)⟩⟩
          case rest =>
           clear HC59
           try clear p2; try clear q2; try clear hx2; try clear c5; try clear c6; try clear p6; try clear c7; try clear p28; try clear q28; try clear hx28; try clear c58; try clear c60; try clear c60b0; try clear c60b1; try clear c62; try clear c64; try clear c64b0; try clear c64b1; try clear c67; try clear c67b0; try clear c69; try clear c69b0; try clear c69b1; try clear c70; try clear c70b0; try clear c70b1; try clear hcz29_2; try clear hcz29_3; try clear hcz29_4; try clear hcz29_5; try clear hcz29_6; try clear hcz31_0; try clear hcz31_1; try clear hcz31_2; try clear hcz31_3; try clear hcz31_4; try clear hcz31_5; try clear hcz31_6; try clear hcz32_0; try clear hcz32_1; try clear hcz32_10; try clear hcz32_2; try clear hcz32_3; try clear hcz32_4; try clear hcz32_5; try clear hcz32_6; try clear hcz32_7; try clear hcz32_8; try clear hcz32_9; try clear hcz35_0; try clear hcz35_1; try clear hcz35_2; try clear hcz35_3; try clear hcz35_4; try clear hcz35_5; try clear hcz35_6; try clear hcz37_0; try clear hcz37_1; try clear hcz37_2; try clear hcz37_3; try clear hcz37_4; try clear hcz37_5; try clear hcz37_6; try clear hcz38_0; try clear hcz38_1; try clear hcz38_10; try clear hcz38_2; try clear hcz38_3; try clear hcz38_4; try clear hcz38_5; try clear hcz38_6; try clear hcz38_7; try clear hcz38_8; try clear hcz38_9; try clear hcz41_0; try clear hcz41_1; try clear hcz41_2; try clear hcz41_3; try clear hcz41_4; try clear hcz41_5; try clear hcz41_6; try clear hcz52_0; try clear hcz52_1; try clear hcz52_10; try clear hcz52_2; try clear hcz52_3; try clear hcz52_4; try clear hcz52_5; try clear hcz52_6; try clear hcz52_7; try clear hcz52_8; try clear hcz52_9; try clear hcz53_0; try clear hcz53_1; try clear hcz53_10; try clear hcz53_2; try clear hcz53_3; try clear hcz53_4; try clear hcz53_5; try clear hcz53_6; try clear hcz53_7; try clear hcz53_8; try clear hcz53_9; try clear hcz54_0; try clear hcz54_1; try clear hcz54_10; try clear hcz54_2; try clear hcz54_3; try clear hcz54_4; try clear hcz54_5; try clear hcz54_6; try clear hcz54_7; try clear hcz54_8; try clear hcz54_9; try clear hcz55_0; try clear hcz55_1; try clear hcz55_10; try clear hcz55_2; try clear hcz55_3; try clear hcz55_4; try clear hcz55_5; try clear hcz55_6; try clear hcz55_7; try clear hcz55_8; try clear hcz55_9; try clear hcz56_0; try clear hcz56_1; try clear hcz56_10; try clear hcz56_2; try clear hcz56_3; try clear hcz56_4; try clear hcz56_5; try clear hcz56_6; try clear hcz56_7; try clear hcz56_8; try clear hcz56_9; try clear hcz57_0; try clear hcz57_1; try clear hcz57_10; try clear hcz57_2; try clear hcz57_3; try clear hcz57_4; try clear hcz57_5; try clear hcz57_6; try clear hcz57_7; try clear hcz57_8; try clear hcz57_9; try clear hcz63_0; try clear hcz63_1; try clear hcz63_10; try clear hcz63_2; try clear hcz63_3; try clear hcz63_4; try clear hcz63_5; try clear hcz63_6; try clear hcz63_7; try clear hcz63_8; try clear hcz63_9; try clear hcz65_0; try clear hcz65_1; try clear hcz65_10; try clear hcz65_2; try clear hcz65_3; try clear hcz65_4; try clear hcz65_5; try clear hcz65_6; try clear hcz65_7; try clear hcz65_8; try clear hcz65_9; try clear hcz66_0; try clear hcz66_1; try clear hcz66_10; try clear hcz66_2; try clear hcz66_3; try clear hcz66_4; try clear hcz66_5; try clear hcz66_6; try clear hcz66_7; try clear hcz66_8; try clear hcz66_9; try clear hcz68_0; try clear hcz68_1; try clear hcz68_10; try clear hcz68_2; try clear hcz68_3; try clear hcz68_4; try clear hcz68_5; try clear hcz68_6; try clear hcz68_7; try clear hcz68_8; try clear hcz68_9; try clear hcz71_0; try clear hcz71_1; try clear hcz71_10; try clear hcz71_2; try clear hcz71_3; try clear hcz71_4; try clear hcz71_5; try clear hcz71_6; try clear hcz71_7; try clear hcz71_8; try clear hcz71_9; try clear hcz72_0; try clear hcz72_1; try clear hcz72_10; try clear hcz72_2; try clear hcz72_3; try clear hcz72_4; try clear hcz72_5; try clear hcz72_6; try clear hcz72_7; try clear hcz72_8; try clear hcz72_9; try clear hcz73_0; try clear hcz73_1; try clear hcz73_10; try clear hcz73_2; try clear hcz73_3; try clear hcz73_4; try clear hcz73_5; try clear hcz73_6; try clear hcz73_7; try clear hcz73_8; try clear hcz73_9; try clear hfz13_0; try clear hfz13_1; try clear hfz13_10; try clear hfz13_2; try clear hfz13_3; try clear hfz13_4; try clear hfz13_5; try clear hfz13_6; try clear hfz13_7; try clear hfz13_8; try clear hfz13_9; try clear hfz14_0; try clear hfz14_1; try clear hfz14_10; try clear hfz14_2; try clear hfz14_3; try clear hfz14_4; try clear hfz14_5; try clear hfz14_6; try clear hfz14_7; try clear hfz14_8; try clear hfz14_9; try clear hfz15_0; try clear hfz15_1; try clear hfz15_10; try clear hfz15_2; try clear hfz15_3; try clear hfz15_4; try clear hfz15_5; try clear hfz15_6; try clear hfz15_7; try clear hfz15_8; try clear hfz15_9; try clear hfz16_0; try clear hfz16_1; try clear hfz16_10; try clear hfz16_2; try clear hfz16_3; try clear hfz16_4; try clear hfz16_5; try clear hfz16_6; try clear hfz16_7; try clear hfz16_8; try clear hfz16_9; try clear hfz17_0; try clear hfz17_1; try clear hfz17_10; try clear hfz17_2; try clear hfz17_3; try clear hfz17_4; try clear hfz17_5; try clear hfz17_6; try clear hfz17_7; try clear hfz17_8; try clear hfz17_9; try clear hfz19_0; try clear hfz19_1; try clear hfz19_10; try clear hfz19_2; try clear hfz19_3; try clear hfz19_4; try clear hfz19_5; try clear hfz19_6; try clear hfz19_7; try clear hfz19_8; try clear hfz19_9; try clear hfz29_0; try clear hfz29_1; try clear hfz29_2; try clear hfz29_3; try clear hfz29_4; try clear hfz29_5; try clear hfz29_6; try clear hfz31_0; try clear hfz31_1; try clear hfz31_2; try clear hfz31_3; try clear hfz31_4; try clear hfz31_5; try clear hfz31_6; try clear hfz32_0; try clear hfz32_1; try clear hfz32_10; try clear hfz32_2; try clear hfz32_3; try clear hfz32_4; try clear hfz32_5; try clear hfz32_6; try clear hfz32_7; try clear hfz32_8; try clear hfz32_9; try clear hfz35_0; try clear hfz35_1; try clear hfz35_2; try clear hfz35_3; try clear hfz35_4; try clear hfz35_5; try clear hfz35_6; try clear hfz37_0; try clear hfz37_1; try clear hfz37_2; try clear hfz37_3; try clear hfz37_4; try clear hfz37_5; try clear hfz37_6; try clear hfz38_0; try clear hfz38_1; try clear hfz38_10; try clear hfz38_2; try clear hfz38_3; try clear hfz38_4; try clear hfz38_5; try clear hfz38_6; try clear hfz38_7; try clear hfz38_8; try clear hfz38_9; try clear hfz41_0; try clear hfz41_1; try clear hfz41_2; try clear hfz41_3; try clear hfz41_4; try clear hfz41_5; try clear hfz41_6; try clear hfz52_0; try clear hfz52_1; try clear hfz52_10; try clear hfz52_2; try clear hfz52_3; try clear hfz52_4; try clear hfz52_5; try clear hfz52_6; try clear hfz52_7; try clear hfz52_8; try clear hfz52_9; try clear hfz53_0; try clear hfz53_1; try clear hfz53_10; try clear hfz53_2; try clear hfz53_3; try clear hfz53_4; try clear hfz53_5; try clear hfz53_6; try clear hfz53_7; try clear hfz53_8; try clear hfz53_9; try clear hfz54_0; try clear hfz54_1; try clear hfz54_10; try clear hfz54_2; try clear hfz54_3; try clear hfz54_4; try clear hfz54_5; try clear hfz54_6; try clear hfz54_7; try clear hfz54_8; try clear hfz54_9; try clear hfz55_0; try clear hfz55_1; try clear hfz55_10; try clear hfz55_2; try clear hfz55_3; try clear hfz55_4; try clear hfz55_5; try clear hfz55_6; try clear hfz55_7; try clear hfz55_8; try clear hfz55_9; try clear hfz56_0; try clear hfz56_1; try clear hfz56_10; try clear hfz56_2; try clear hfz56_3; try clear hfz56_4; try clear hfz56_5; try clear hfz56_6; try clear hfz56_7; try clear hfz56_8; try clear hfz56_9; try clear hfz57_0; try clear hfz57_1; try clear hfz57_10; try clear hfz57_2; try clear hfz57_3; try clear hfz57_4; try clear hfz57_5; try clear hfz57_6; try clear hfz57_7; try clear hfz57_8; try clear hfz57_9; try clear hfz63_0; try clear hfz63_1; try clear hfz63_10; try clear hfz63_2; try clear hfz63_3; try clear hfz63_4; try clear hfz63_5; try clear hfz63_6; try clear hfz63_7; try clear hfz63_8; try clear hfz63_9; try clear hfz65_0; try clear hfz65_1; try clear hfz65_10; try clear hfz65_2; try clear hfz65_3; try clear hfz65_4; try clear hfz65_5; try clear hfz65_6; try clear hfz65_7; try clear hfz65_8; try clear hfz65_9; try clear hfz66_0; try clear hfz66_1; try clear hfz66_10; try clear hfz66_2; try clear hfz66_3; try clear hfz66_4; try clear hfz66_5; try clear hfz66_6; try clear hfz66_7; try clear hfz66_8; try clear hfz66_9; try clear hfz68_0; try clear hfz68_1; try clear hfz68_10; try clear hfz68_2; try clear hfz68_3; try clear hfz68_4; try clear hfz68_5; try clear hfz68_6; try clear hfz68_7; try clear hfz68_8; try clear hfz68_9; try clear hfz71_0; try clear hfz71_1; try clear hfz71_10; try clear hfz71_2; try clear hfz71_3; try clear hfz71_4; try clear hfz71_5; try clear hfz71_6; try clear hfz71_7; try clear hfz71_8; try clear hfz71_9; try clear hfz72_0; try clear hfz72_1; try clear hfz72_10; try clear hfz72_2; try clear hfz72_3; try clear hfz72_4; try clear hfz72_5; try clear hfz72_6; try clear hfz72_7; try clear hfz72_8; try clear hfz72_9; try clear hfz73_0; try clear hfz73_1; try clear hfz73_10; try clear hfz73_2; try clear hfz73_3; try clear hfz73_4; try clear hfz73_5; try clear hfz73_6; try clear hfz73_7; try clear hfz73_8; try clear hfz73_9; try clear hx280_0; try clear hx280_1; try clear hx280_2; try clear hx280_3; try clear hx280_4; try clear hx280_5; try clear hx280_6; try clear p2; try clear p280; try clear p6; try clear q280
           obtain ⟨kq, x140_58, rfl, HA, HJ58, BK275, HB⟩ := hcut
           cases kq with
           | zero => exact absurd HA.out (by simp [impl_NodeOk.j3])
           | succ kj58 =>
            have H := HA.out
            clear HA
            simp only [impl_NodeOk.j3] at H
            by_cases c74 : x140_58 = true
            ·subst c74
             have H1 : (some false) = some r := by rw [if_pos rfl] at H; exact H
             clear H
             have H := H1
             clear H1
             obtain rfl := Option.some.inj H
             go_wp2
             go_ret
             exact ⟨by first | rfl | (simp [errW_none, errW_some] <;> rfl) | (simp [*, errW_none, errW_some] <;> rfl), by repeat (first | (with_reducible first | exact HB.out | apply below_alloc | apply pw_below_drewN | apply below_drew1 | refine below_set ?_ GE275.out) | exact HB.out)⟩
            ·replace c74 := Bool.eq_false_iff.mpr c74
             subst c74
             have H1 : (impl_NodeOk.l1 kj58 a1 0 a0_0 a0_1 a0_2 l0_3 a0_4 a0_5 a0_6 a0_7 l0_8 l0_9 l0_10) = some r := by rw [if_neg (show ¬ (false = true) by decide)] at H; exact H
             clear H
             have H := H1
             clear H1
             have H' := Aside0.mk H
             clear H
             go_wp2
             go_loopg [142] kj58 (fun kq v142 w' => ∃ (x142_5 : Int), v142 = .int .i64 x142_5 ∧ Aside0 (impl_NodeOk.l1 kq a1 x142_5 a0_0 a0_1 a0_2 l0_3 a0_4 a0_5 a0_6 a0_7 l0_8 l0_9 l0_10 = some r) ∧ Aside0 (kq ≤ kj58) ∧ Aside0 (w'.heap[gb275]? = some (.cells #[.int .i64 a0_0, .int .i64 a0_1, .int .i64 a0_2, (.slice A0_3 l0_3.length c0_3), .int .i64 a0_4, .int .i64 a0_5, .int .i64 a0_6, .int .i64 a0_7, (.slice A0_8 l0_8.length c0_8), (.slice A0_9 l0_9.length c0_9), (.slice A0_10 l0_10.length c0_10)] 48 (0, 0))) ∧ Aside0 (Below w.heap.size w w'))
             case atStart => exact ⟨(0), (by first | rfl | (simp; done) | (simp [*]; done)), H', ⟨Nat.le_refl _⟩, ⟨by (with_reducible repeat (first | refine blk_drewN ?_ _ | refine blk_drew ?_ | refine blk_alloc ?_ _)); exact BK275.out⟩, ⟨by repeat (first | (with_reducible first | exact HB.out | apply below_alloc | apply pw_below_drewN | apply below_drew1 | refine below_set ?_ GE275.out) | exact HB.out)⟩⟩
             case round =>
              clear H'
              try clear p2; try clear q2; try clear hx2; try clear c5; try clear c6; try clear p6; try clear c7; try clear p28; try clear q28; try clear hx28; try clear c58; try clear c60; try clear c60b0; try clear c60b1; try clear c62; try clear c64; try clear c64b0; try clear c64b1; try clear c67; try clear c67b0; try clear c69; try clear c69b0; try clear c69b1; try clear c70; try clear c70b0; try clear c70b1; try clear c74; try clear hcz29_2; try clear hcz29_3; try clear hcz29_4; try clear hcz29_5; try clear hcz29_6; try clear hcz31_0; try clear hcz31_1; try clear hcz31_2; try clear hcz31_3; try clear hcz31_4; try clear hcz31_5; try clear hcz31_6; try clear hcz32_0; try clear hcz32_1; try clear hcz32_10; try clear hcz32_2; try clear hcz32_3; try clear hcz32_4; try clear hcz32_5; try clear hcz32_6; try clear hcz32_7; try clear hcz32_8; try clear hcz32_9; try clear hcz35_0; try clear hcz35_1; try clear hcz35_2; try clear hcz35_3; try clear hcz35_4; try clear hcz35_5; try clear hcz35_6; try clear hcz37_0; try clear hcz37_1; try clear hcz37_2; try clear hcz37_3; try clear hcz37_4; try clear hcz37_5; try clear hcz37_6; try clear hcz38_0; try clear hcz38_1; try clear hcz38_10; try clear hcz38_2; try clear hcz38_3; try clear hcz38_4; try clear hcz38_5; try clear hcz38_6; try clear hcz38_7; try clear hcz38_8; try clear hcz38_9; try clear hcz41_0; try clear hcz41_1; try clear hcz41_2; try clear hcz41_3; try clear hcz41_4; try clear hcz41_5; try clear hcz41_6; try clear hcz52_0; try clear hcz52_1; try clear hcz52_10; try clear hcz52_2; try clear hcz52_3; try clear hcz52_4; try clear hcz52_5; try clear hcz52_6; try clear hcz52_7; try clear hcz52_8; try clear hcz52_9; try clear hcz53_0; try clear hcz53_1; try clear hcz53_10; try clear hcz53_2; try clear hcz53_3; try clear hcz53_4; try clear hcz53_5; try clear hcz53_6; try clear hcz53_7; try clear hcz53_8; try clear hcz53_9; try clear hcz54_0; try clear hcz54_1; try clear hcz54_10; try clear hcz54_2; try clear hcz54_3; try clear hcz54_4; try clear hcz54_5; try clear hcz54_6; try clear hcz54_7; try clear hcz54_8; try clear hcz54_9; try clear hcz55_0; try clear hcz55_1; try clear hcz55_10; try clear hcz55_2; try clear hcz55_3; try clear hcz55_4; try clear hcz55_5; try clear hcz55_6; try clear hcz55_7; try clear hcz55_8; try clear hcz55_9; try clear hcz56_0; try clear hcz56_1; try clear hcz56_10; try clear hcz56_2; try clear hcz56_3; try clear hcz56_4; try clear hcz56_5; try clear hcz56_6; try clear hcz56_7; try clear hcz56_8; try clear hcz56_9; try clear hcz57_0; try clear hcz57_1; try clear hcz57_10; try clear hcz57_2; try clear hcz57_3; try clear hcz57_4; try clear hcz57_5; try clear hcz57_6; try clear hcz57_7; try clear hcz57_8; try clear hcz57_9; try clear hcz63_0; try clear hcz63_1; try clear hcz63_10; try clear hcz63_2; try clear hcz63_3; try clear hcz63_4; try clear hcz63_5; try clear hcz63_6; try clear hcz63_7; try clear hcz63_8; try clear hcz63_9; try clear hcz65_0; try clear hcz65_1; try clear hcz65_10; try clear hcz65_2; try clear hcz65_3; try clear hcz65_4; try clear hcz65_5; try clear hcz65_6; try clear hcz65_7; try clear hcz65_8; try clear hcz65_9; try clear hcz66_0; try clear hcz66_1; try clear hcz66_10; try clear hcz66_2; try clear hcz66_3; try clear hcz66_4; try clear hcz66_5; try clear hcz66_6; try clear hcz66_7; try clear hcz66_8; try clear hcz66_9; try clear hcz68_0; try clear hcz68_1; try clear hcz68_10; try clear hcz68_2; try clear hcz68_3; try clear hcz68_4; try clear hcz68_5; try clear hcz68_6; try clear hcz68_7; try clear hcz68_8; try clear hcz68_9; try clear hcz71_0; try clear hcz71_1; try clear hcz71_10; try clear hcz71_2; try clear hcz71_3; try clear hcz71_4; try clear hcz71_5; try clear hcz71_6; try clear hcz71_7; try clear hcz71_8; try clear hcz71_9; try clear hcz72_0; try clear hcz72_1; try clear hcz72_10; try clear hcz72_2; try clear hcz72_3; try clear hcz72_4; try clear hcz72_5; try clear hcz72_6; try clear hcz72_7; try clear hcz72_8; try clear hcz72_9; try clear hcz73_0; try clear hcz73_1; try clear hcz73_10; try clear hcz73_2; try clear hcz73_3; try clear hcz73_4; try clear hcz73_5; try clear hcz73_6; try clear hcz73_7; try clear hcz73_8; try clear hcz73_9; try clear hfz13_0; try clear hfz13_1; try clear hfz13_10; try clear hfz13_2; try clear hfz13_3; try clear hfz13_4; try clear hfz13_5; try clear hfz13_6; try clear hfz13_7; try clear hfz13_8; try clear hfz13_9; try clear hfz14_0; try clear hfz14_1; try clear hfz14_10; try clear hfz14_2; try clear hfz14_3; try clear hfz14_4; try clear hfz14_5; try clear hfz14_6; try clear hfz14_7; try clear hfz14_8; try clear hfz14_9; try clear hfz15_0; try clear hfz15_1; try clear hfz15_10; try clear hfz15_2; try clear hfz15_3; try clear hfz15_4; try clear hfz15_5; try clear hfz15_6; try clear hfz15_7; try clear hfz15_8; try clear hfz15_9; try clear hfz16_0; try clear hfz16_1; try clear hfz16_10; try clear hfz16_2; try clear hfz16_3; try clear hfz16_4; try clear hfz16_5; try clear hfz16_6; try clear hfz16_7; try clear hfz16_8; try clear hfz16_9; try clear hfz17_0; try clear hfz17_1; try clear hfz17_10; try clear hfz17_2; try clear hfz17_3; try clear hfz17_4; try clear hfz17_5; try clear hfz17_6; try clear hfz17_7; try clear hfz17_8; try clear hfz17_9; try clear hfz19_0; try clear hfz19_1; try clear hfz19_10; try clear hfz19_2; try clear hfz19_3; try clear hfz19_4; try clear hfz19_5; try clear hfz19_6; try clear hfz19_7; try clear hfz19_8; try clear hfz19_9; try clear hfz29_0; try clear hfz29_1; try clear hfz29_2; try clear hfz29_3; try clear hfz29_4; try clear hfz29_5; try clear hfz29_6; try clear hfz31_0; try clear hfz31_1; try clear hfz31_2; try clear hfz31_3; try clear hfz31_4; try clear hfz31_5; try clear hfz31_6; try clear hfz32_0; try clear hfz32_1; try clear hfz32_10; try clear hfz32_2; try clear hfz32_3; try clear hfz32_4; try clear hfz32_5; try clear hfz32_6; try clear hfz32_7; try clear hfz32_8; try clear hfz32_9; try clear hfz35_0; try clear hfz35_1; try clear hfz35_2; try clear hfz35_3; try clear hfz35_4; try clear hfz35_5; try clear hfz35_6; try clear hfz37_0; try clear hfz37_1; try clear hfz37_2; try clear hfz37_3; try clear hfz37_4; try clear hfz37_5; try clear hfz37_6; try clear hfz38_0; try clear hfz38_1; try clear hfz38_10; try clear hfz38_2; try clear hfz38_3; try clear hfz38_4; try clear hfz38_5; try clear hfz38_6; try clear hfz38_7; try clear hfz38_8; try clear hfz38_9; try clear hfz41_0; try clear hfz41_1; try clear hfz41_2; try clear hfz41_3; try clear hfz41_4; try clear hfz41_5; try clear hfz41_6; try clear hfz52_0; try clear hfz52_1; try clear hfz52_10; try clear hfz52_2; try clear hfz52_3; try clear hfz52_4; try clear hfz52_5; try clear hfz52_6; try clear hfz52_7; try clear hfz52_8; try clear hfz52_9; try clear hfz53_0; try clear hfz53_1; try clear hfz53_10; try clear hfz53_2; try clear hfz53_3; try clear hfz53_4; try clear hfz53_5; try clear hfz53_6; try clear hfz53_7; try clear hfz53_8; try clear hfz53_9; try clear hfz54_0; try clear hfz54_1; try clear hfz54_10; try clear hfz54_2; try clear hfz54_3; try clear hfz54_4; try clear hfz54_5; try clear hfz54_6; try clear hfz54_7; try clear hfz54_8; try clear hfz54_9; try clear hfz55_0; try clear hfz55_1; try clear hfz55_10; try clear hfz55_2; try clear hfz55_3; try clear hfz55_4; try clear hfz55_5; try clear hfz55_6; try clear hfz55_7; try clear hfz55_8; try clear hfz55_9; try clear hfz56_0; try clear hfz56_1; try clear hfz56_10; try clear hfz56_2; try clear hfz56_3; try clear hfz56_4; try clear hfz56_5; try clear hfz56_6; try clear hfz56_7; try clear hfz56_8; try clear hfz56_9; try clear hfz57_0; try clear hfz57_1; try clear hfz57_10; try clear hfz57_2; try clear hfz57_3; try clear hfz57_4; try clear hfz57_5; try clear hfz57_6; try clear hfz57_7; try clear hfz57_8; try clear hfz57_9; try clear hfz63_0; try clear hfz63_1; try clear hfz63_10; try clear hfz63_2; try clear hfz63_3; try clear hfz63_4; try clear hfz63_5; try clear hfz63_6; try clear hfz63_7; try clear hfz63_8; try clear hfz63_9; try clear hfz65_0; try clear hfz65_1; try clear hfz65_10; try clear hfz65_2; try clear hfz65_3; try clear hfz65_4; try clear hfz65_5; try clear hfz65_6; try clear hfz65_7; try clear hfz65_8; try clear hfz65_9; try clear hfz66_0; try clear hfz66_1; try clear hfz66_10; try clear hfz66_2; try clear hfz66_3; try clear hfz66_4; try clear hfz66_5; try clear hfz66_6; try clear hfz66_7; try clear hfz66_8; try clear hfz66_9; try clear hfz68_0; try clear hfz68_1; try clear hfz68_10; try clear hfz68_2; try clear hfz68_3; try clear hfz68_4; try clear hfz68_5; try clear hfz68_6; try clear hfz68_7; try clear hfz68_8; try clear hfz68_9; try clear hfz71_0; try clear hfz71_1; try clear hfz71_10; try clear hfz71_2; try clear hfz71_3; try clear hfz71_4; try clear hfz71_5; try clear hfz71_6; try clear hfz71_7; try clear hfz71_8; try clear hfz71_9; try clear hfz72_0; try clear hfz72_1; try clear hfz72_10; try clear hfz72_2; try clear hfz72_3; try clear hfz72_4; try clear hfz72_5; try clear hfz72_6; try clear hfz72_7; try clear hfz72_8; try clear hfz72_9; try clear hfz73_0; try clear hfz73_1; try clear hfz73_10; try clear hfz73_2; try clear hfz73_3; try clear hfz73_4; try clear hfz73_5; try clear hfz73_6; try clear hfz73_7; try clear hfz73_8; try clear hfz73_9; try clear hx280_0; try clear hx280_1; try clear hx280_2; try clear hx280_3; try clear hx280_4; try clear hx280_5; try clear hx280_6; try clear p2; try clear p28; try clear p280; try clear p6; try clear q2; try clear q28; try clear q280
              obtain ⟨x142_5, rfl, HA, HK5, BK275, HB⟩ := hrel
              cases gk with
              | zero => exact absurd HA.out (by simp [impl_NodeOk.l1])
              | succ k5 =>
               have H := HA.out
               clear HA
               simp only [impl_NodeOk.l1] at H
               by_cases c75 : x142_5 < a1
               ·rw [if_pos c75] at H
                have c75b0 : decide (x142_5 < a1) = true := decide_eq_true c75
                clear c75
                by_cases c76 : a0_5 = 2
                ·rw [if_pos c76] at H
                 have c76b0 : (a0_5 == 2) = true := beq_iff_eq.mpr c76
                 have c76b1 : (a0_5 != 2) = false := bne_eq_false_iff_eq.mpr c76
                 clear c76
                 by_cases c77 : 0 ≤ x142_5
                 ·rw [if_pos c77] at H
                  have c77b0 : decide (0 ≤ x142_5) = true := decide_eq_true c77
                  clear c77
                  by_cases c78 : x142_5 < (l0_9.length : Int)
                  ·rw [if_pos c78] at H
                   have c78b0 : decide (x142_5 < (l0_9.length : Int)) = true := decide_eq_true c78
                   clear c78
                   replace H := Option.bind_eq_some_iff.mp H
                   obtain ⟨t289, A790, H⟩ := H
                   replace H : (if t289 = true then (if x142_5 < (l0_10.length : Int) then ((impl_within.f (rd l0_10 x142_5) 0 (l0_3.length : Int)).bind fun t291 => (if t291 = true then (impl_NodeOk.l1 k5 a1 (wrap64 (x142_5 + 1)) a0_0 a0_1 a0_2 l0_3 a0_4 a0_5 a0_6 a0_7 l0_8 l0_9 l0_10) else (some false))) else (none)) else (some false)) = some r := H
                   have A79 := Aside0.mk A790
                   clear A790
                   by_cases c80 : t289 = true
                   ·subst c80
                    have H1 : (if x142_5 < (l0_10.length : Int) then ((impl_within.f (rd l0_10 x142_5) 0 (l0_3.length : Int)).bind fun t291 => (if t291 = true then (impl_NodeOk.l1 k5 a1 (wrap64 (x142_5 + 1)) a0_0 a0_1 a0_2 l0_3 a0_4 a0_5 a0_6 a0_7 l0_8 l0_9 l0_10) else (some false))) else (none)) = some r := by rw [if_pos rfl] at H; exact H
                    clear H
                    have H := H1
                    clear H1
                    by_cases c81 : x142_5 < (l0_10.length : Int)
                    ·rw [if_pos c81] at H
                     have c81b0 : decide (x142_5 < (l0_10.length : Int)) = true := decide_eq_true c81
                     clear c81
                     replace H := Option.bind_eq_some_iff.mp H
                     obtain ⟨t291, A820, H⟩ := H
                     replace H : (if t291 = true then (impl_NodeOk.l1 k5 a1 (wrap64 (x142_5 + 1)) a0_0 a0_1 a0_2 l0_3 a0_4 a0_5 a0_6 a0_7 l0_8 l0_9 l0_10) else (some false)) = some r := H
                     have A82 := Aside0.mk A820
                     clear A820
                     by_cases c83 : t291 = true
                     ·subst c83
                      have H1 : (impl_NodeOk.l1 k5 a1 (wrap64 (x142_5 + 1)) a0_0 a0_1 a0_2 l0_3 a0_4 a0_5 a0_6 a0_7 l0_8 l0_9 l0_10) = some r := by rw [if_pos rfl] at H; exact H
                      clear H
                      have H := H1
                      clear H1
                      have H' := Aside0.mk H
                      clear H
                      try go_wp2
                      replace BK275 := Aside0.mk (blk_drew BK275.out)
                      replace HB := Aside0.mk (below_drew1 HB.out)
                      have p288 : 0 ≤ (x142_5 : Int) := od
                      have q288 : x142_5 < (l0_9.length : Int) := od
                      obtain ⟨ad288, e288, hx288_0⟩ := Kd.at_int HR0_9.out x142_5 p288 q288
                      have hw288_0 := hx288_0
                      cases e288
                      replace hx288_0 := hxb HB hx288_0
                      replace p288 := eq_true p288
                      replace q288 := eq_true q288
                      have p290 : 0 ≤ (x142_5 : Int) := od
                      have q290 : x142_5 < (l0_10.length : Int) := od
                      obtain ⟨ad290, e290, hx290_0⟩ := Kd.at_int HR0_10.out x142_5 p290 q290
                      have hw290_0 := hx290_0
                      cases e290
                      replace hx290_0 := hxb HB hx290_0
                      replace p290 := eq_true p290
                      replace q290 := eq_true q290
                      refine start_ (n := 49) (S := fun w' => w'.cell? ⟨gb275, 0, none⟩ = some (.int .i64 a0_0) ∧ w'.cell? ⟨gb275, 1, none⟩ = some (.int .i64 a0_1) ∧ w'.cell? ⟨gb275, 2, none⟩ = some (.int .i64 a0_2) ∧ w'.cell? ⟨gb275, 3, none⟩ = some (.slice A0_3 l0_3.length c0_3) ∧ w'.cell? ⟨gb275, 4, none⟩ = some (.int .i64 a0_4) ∧ w'.cell? ⟨gb275, 5, none⟩ = some (.int .i64 a0_5) ∧ w'.cell? ⟨gb275, 6, none⟩ = some (.int .i64 a0_6) ∧ w'.cell? ⟨gb275, 7, none⟩ = some (.int .i64 a0_7) ∧ w'.cell? ⟨gb275, 8, none⟩ = some (.slice A0_8 l0_8.length c0_8) ∧ w'.cell? ⟨gb275, 9, none⟩ = some (.slice (some ad288) l0_9.length c0_9) ∧ w'.cell? ⟨gb275, 10, none⟩ = some (.slice (some ad290) l0_10.length c0_10) ∧ w'.cell? (ad288.add (x142_5).toNat) = some (.int .i64 (rd l0_9 x142_5)) ∧ w'.cell? (ad290.add (x142_5).toNat) = some (.int .i64 (rd l0_10 x142_5))) (ds := []) (tf 0 49) (by kernel_rfl) rfl rfl (cells_11 BK275.out ⟨(hxb HB hw288_0 :), (hxb HB hw290_0 :)⟩) (fun hHeld => ?_); refine with_tabW impl_NodeOk.tab18 impl_NodeOk.bits18 (fun HT_ HW_ => ?_)
                      generalize wr.drew = w84 at BK275 HB hx288_0 hx290_0 hHeld ⊢
                      refine pv_ HT_ 0 (some 145) (tf 1 48) (h := ?_)
                      refine tv_ HT_ HW_ hHeld 1 (some 146) (tf 2 47) (h := ?_)
                      refine pv_ HT_ 2 (some 147) (tf 3 46) (h := ?_)
                      refine pv_ HT_ 3 (some 148) (tf 4 45) (h := ?_)
                      refine pv_ HT_ 4 (some 149) (tf 5 44) (h := ?_)
                      refine pv_ HT_ 6 (some 151) (tb 49 95) (h := ?_)
                      refine pv_ HT_ 9 (some 154) (tb 49 607) (h := ?_)
                      refine tv_ HT_ HW_ hHeld 5 (some 150) (tb 49 639) (h := ?_)
                      refine pv_ HT_ 7 (some 152) (tb 49 767) (h := ?_)
                      refine tv_ HT_ HW_ hHeld 8 (some 153) (tf 10 39) (h := ?_)
                      refine tv_ HT_ HW_ hHeld 10 (some 155) (tf 11 38) (h := ?_)
                      refine pv_ HT_ 11 (some 156) (tf 12 37) (h := ?_)
                      refine pv_ HT_ 12 (some 157) (tf 13 36) (h := ?_)
                      refine one_ (i := 13) (N := some 158) (tf 14 35) rfl rfl (one_of HT_.out (by kernel_rfl)) (by decide) (fun K hK => ?_)
                      refine gs_ Try.func81 #[.int .i64 (rd l0_9 x142_5), .int .i64 1, .int .i64 (wrap64 ((l0_3.length : Int) + 1))] (h := ?_)
                      with_reducible refine (impl_within.calls (rd l0_9 x142_5) 1 (wrap64 ((l0_3.length : Int) + 1)) true _ A79.out).mono ?_
                      rintro e w' ⟨rfl, ⟨nd, rfl⟩⟩
                      refine ⟨_, rfl, ?_⟩
                      refine hK.out _ _ (cells_11 BK275.out ⟨(hxb HB hw288_0 :), (hxb HB hw290_0 :)⟩) (fun hHeld => ?_)
                      clear hK K
                      refine norm_ (a' := ?_) ?_ ?_
                      rotate_left
                      ·show Act.put _ (some 158) _ = _
                       simp only [Act.put, List.setIfInBounds_toArray, List.set_cons_zero, List.set_cons_succ, i64_w, i32_w]
                       rfl
                      refine pv_ HT_ 14 (some 159) (tf 15 34) (h := ?_)
                      refine pv_ HT_ 15 (some 160) (tf 16 33) (h := ?_)
                      refine pv_ HT_ 16 (some 161) (tf 17 32) (h := ?_)
                      refine pv_ HT_ 18 (some 163) (tb 49 393215) (h := ?_)
                      refine pv_ HT_ 21 (some 166) (tb 49 2490367) (h := ?_)
                      refine tv_ HT_ HW_ hHeld 17 (some 162) (tb 49 2621439) (h := ?_)
                      refine pv_ HT_ 19 (some 164) (tb 49 3145727) (h := ?_)
                      refine tv_ HT_ HW_ hHeld 20 (some 165) (tf 22 27) (h := ?_)
                      refine tv_ HT_ HW_ hHeld 22 (some 167) (tf 23 26) (h := ?_)
                      refine pv_ HT_ 23 (some 168) (tf 24 25) (h := ?_)
                      refine one_ (i := 24) (N := some 169) (tf 25 24) rfl rfl (one_of HT_.out (by kernel_rfl)) (by decide) (fun K hK => ?_)
                      refine gs_ Try.func81 #[.int .i64 (rd l0_10 x142_5), .int .i64 0, .int .i64 (l0_3.length : Int)] (h := ?_)
                      with_reducible refine (impl_within.calls (rd l0_10 x142_5) 0 (l0_3.length : Int) true _ A82.out).mono ?_
                      rintro e w' ⟨rfl, ⟨nd, rfl⟩⟩
                      refine ⟨_, rfl, ?_⟩
                      refine hK.out _ _ (cells_11 BK275.out ⟨(hxb HB hw288_0 :), (hxb HB hw290_0 :)⟩) (fun hHeld => ?_)
                      clear hK K
                      refine norm_ (a' := ?_) ?_ ?_
                      rotate_left
                      ·show Act.put _ (some 169) _ = _
                       simp only [Act.put, List.setIfInBounds_toArray, List.set_cons_zero, List.set_cons_succ, i64_w, i32_w]
                       rfl
                      refine pv_ HT_ 25 (some 170) (tf 26 23) (h := ?_)
                      refine pv_ HT_ 26 (some 171) (tf 27 22) (h := ?_)
                      refine pv_ HT_ 27 (some 172) (tf 28 21) (h := ?_)
                      refine pv_ HT_ 28 (some 173) (tf 29 20) (h := ?_)
                      refine pv_ HT_ 29 (some 174) (tf 30 19) (h := ?_)
                      refine tv_ HT_ HW_ hHeld 30 (some 175) (tf 31 18) (h := ?_)
                      refine pv_ HT_ 31 (some 176) (tf 32 17) (h := ?_)
                      refine pv_ HT_ 32 (some 177) (tf 33 16) (h := ?_)
                      refine pu_ HT_ 33 (some 178) (tf 34 15) (h := ?_)
                      refine pu_ HT_ 34 (some 179) (tf 35 14) (h := ?_)
                      refine pu_ HT_ 35 (some 180) (tf 36 13) (h := ?_)
                      refine pu_ HT_ 36 (some 181) (tf 37 12) (h := ?_)
                      refine pu_ HT_ 37 (some 182) (tf 38 11) (h := ?_)
                      refine pu_ HT_ 38 (some 183) (tf 39 10) (h := ?_)
                      refine pu_ HT_ 39 (some 184) (tf 40 9) (h := ?_)
                      refine pu_ HT_ 40 (some 185) (tf 41 8) (h := ?_)
                      refine pu_ HT_ 41 (some 186) (tf 42 7) (h := ?_)
                      refine pu_ HT_ 42 (some 187) (tf 43 6) (h := ?_)
                      refine pu_ HT_ 43 (some 188) (tf 44 5) (h := ?_)
                      refine pu_ HT_ 44 (some 189) (tf 45 4) (h := ?_)
                      refine pu_ HT_ 45 (some 190) (tf 46 3) (h := ?_)
                      refine pu_ HT_ 46 (some 191) (tf 47 2) (h := ?_)
                      refine pv_ HT_ 47 (some 192) (tf 48 1) (h := ?_)
                      refine pv_ HT_ 48 (some 193) (tf 49 0) (h := ?_)
                      refine done_ (done_of HT_.out (by kernel_rfl)) ?_
                      try go_wp2
                      go_roundg k5
                      case measure => have := HJ2.out; have := HK2.out; have := HJ42.out; have := HJ58.out; have := HK5.out; omega
                      case rel => exact ⟨(wrap64 (x142_5 + 1)), (by first | rfl | (simp; done) | (simp [*]; done)), H', ⟨by have := HJ2.out; have := HK2.out; have := HJ42.out; have := HJ58.out; have := HK5.out; omega⟩, ⟨by (with_reducible repeat (first | refine blk_drewN ?_ _ | refine blk_drew ?_ | refine blk_alloc ?_ _)); exact BK275.out⟩, ⟨by repeat (first | (with_reducible first | exact HB.out | apply below_alloc | apply pw_below_drewN | apply below_drew1 | refine below_set ?_ GE275.out) | exact HB.out)⟩⟩
                     ·replace c83 := Bool.eq_false_iff.mpr c83
                      subst c83
                      have H1 : (some false) = some r := by rw [if_neg (show ¬ (false = true) by decide)] at H; exact H
                      clear H
                      have H := H1
                      clear H1
                      obtain rfl := Option.some.inj H
                      try go_wp2
                      replace BK275 := Aside0.mk (blk_drew BK275.out)
                      replace HB := Aside0.mk (below_drew1 HB.out)
                      have p288 : 0 ≤ (x142_5 : Int) := od
                      have q288 : x142_5 < (l0_9.length : Int) := od
                      obtain ⟨ad288, e288, hx288_0⟩ := Kd.at_int HR0_9.out x142_5 p288 q288
                      have hw288_0 := hx288_0
                      cases e288
                      replace hx288_0 := hxb HB hx288_0
                      replace p288 := eq_true p288
                      replace q288 := eq_true q288
                      have p290 : 0 ≤ (x142_5 : Int) := od
                      have q290 : x142_5 < (l0_10.length : Int) := od
                      obtain ⟨ad290, e290, hx290_0⟩ := Kd.at_int HR0_10.out x142_5 p290 q290
                      have hw290_0 := hx290_0
                      cases e290
                      replace hx290_0 := hxb HB hx290_0
                      replace p290 := eq_true p290
                      replace q290 := eq_true q290
                      refine start_ (n := 49) (S := fun w' => w'.cell? ⟨gb275, 0, none⟩ = some (.int .i64 a0_0) ∧ w'.cell? ⟨gb275, 1, none⟩ = some (.int .i64 a0_1) ∧ w'.cell? ⟨gb275, 2, none⟩ = some (.int .i64 a0_2) ∧ w'.cell? ⟨gb275, 3, none⟩ = some (.slice A0_3 l0_3.length c0_3) ∧ w'.cell? ⟨gb275, 4, none⟩ = some (.int .i64 a0_4) ∧ w'.cell? ⟨gb275, 5, none⟩ = some (.int .i64 a0_5) ∧ w'.cell? ⟨gb275, 6, none⟩ = some (.int .i64 a0_6) ∧ w'.cell? ⟨gb275, 7, none⟩ = some (.int .i64 a0_7) ∧ w'.cell? ⟨gb275, 8, none⟩ = some (.slice A0_8 l0_8.length c0_8) ∧ w'.cell? ⟨gb275, 9, none⟩ = some (.slice (some ad288) l0_9.length c0_9) ∧ w'.cell? ⟨gb275, 10, none⟩ = some (.slice (some ad290) l0_10.length c0_10) ∧ w'.cell? (ad288.add (x142_5).toNat) = some (.int .i64 (rd l0_9 x142_5)) ∧ w'.cell? (ad290.add (x142_5).toNat) = some (.int .i64 (rd l0_10 x142_5))) (ds := []) (tf 0 49) (by kernel_rfl) rfl rfl (cells_11 BK275.out ⟨(hxb HB hw288_0 :), (hxb HB hw290_0 :)⟩) (fun hHeld => ?_); refine with_tabW impl_NodeOk.tab18 impl_NodeOk.bits18 (fun HT_ HW_ => ?_)
                      generalize wr.drew = w85 at BK275 HB hx288_0 hx290_0 hHeld ⊢
                      refine pv_ HT_ 0 (some 145) (tf 1 48) (h := ?_)
                      refine tv_ HT_ HW_ hHeld 1 (some 146) (tf 2 47) (h := ?_)
                      refine pv_ HT_ 2 (some 147) (tf 3 46) (h := ?_)
                      refine pv_ HT_ 3 (some 148) (tf 4 45) (h := ?_)
                      refine pv_ HT_ 4 (some 149) (tf 5 44) (h := ?_)
                      refine pv_ HT_ 6 (some 151) (tb 49 95) (h := ?_)
                      refine pv_ HT_ 9 (some 154) (tb 49 607) (h := ?_)
                      refine tv_ HT_ HW_ hHeld 5 (some 150) (tb 49 639) (h := ?_)
                      refine pv_ HT_ 7 (some 152) (tb 49 767) (h := ?_)
                      refine tv_ HT_ HW_ hHeld 8 (some 153) (tf 10 39) (h := ?_)
                      refine tv_ HT_ HW_ hHeld 10 (some 155) (tf 11 38) (h := ?_)
                      refine pv_ HT_ 11 (some 156) (tf 12 37) (h := ?_)
                      refine pv_ HT_ 12 (some 157) (tf 13 36) (h := ?_)
                      refine one_ (i := 13) (N := some 158) (tf 14 35) rfl rfl (one_of HT_.out (by kernel_rfl)) (by decide) (fun K hK => ?_)
                      refine gs_ Try.func81 #[.int .i64 (rd l0_9 x142_5), .int .i64 1, .int .i64 (wrap64 ((l0_3.length : Int) + 1))] (h := ?_)
                      with_reducible refine (impl_within.calls (rd l0_9 x142_5) 1 (wrap64 ((l0_3.length : Int) + 1)) true _ A79.out).mono ?_
                      rintro e w' ⟨rfl, ⟨nd, rfl⟩⟩
                      refine ⟨_, rfl, ?_⟩
                      refine hK.out _ _ (cells_11 BK275.out ⟨(hxb HB hw288_0 :), (hxb HB hw290_0 :)⟩) (fun hHeld => ?_)
                      clear hK K
                      refine norm_ (a' := ?_) ?_ ?_
                      rotate_left
                      ·show Act.put _ (some 158) _ = _
                       simp only [Act.put, List.setIfInBounds_toArray, List.set_cons_zero, List.set_cons_succ, i64_w, i32_w]
                       rfl
                      refine pv_ HT_ 14 (some 159) (tf 15 34) (h := ?_)
                      refine pv_ HT_ 15 (some 160) (tf 16 33) (h := ?_)
                      refine pv_ HT_ 16 (some 161) (tf 17 32) (h := ?_)
                      refine pv_ HT_ 18 (some 163) (tb 49 393215) (h := ?_)
                      refine pv_ HT_ 21 (some 166) (tb 49 2490367) (h := ?_)
                      refine tv_ HT_ HW_ hHeld 17 (some 162) (tb 49 2621439) (h := ?_)
                      refine pv_ HT_ 19 (some 164) (tb 49 3145727) (h := ?_)
                      refine tv_ HT_ HW_ hHeld 20 (some 165) (tf 22 27) (h := ?_)
                      refine tv_ HT_ HW_ hHeld 22 (some 167) (tf 23 26) (h := ?_)
                      refine pv_ HT_ 23 (some 168) (tf 24 25) (h := ?_)
                      refine one_ (i := 24) (N := some 169) (tf 25 24) rfl rfl (one_of HT_.out (by kernel_rfl)) (by decide) (fun K hK => ?_)
                      refine gs_ Try.func81 #[.int .i64 (rd l0_10 x142_5), .int .i64 0, .int .i64 (l0_3.length : Int)] (h := ?_)
                      with_reducible refine (impl_within.calls (rd l0_10 x142_5) 0 (l0_3.length : Int) false _ A82.out).mono ?_
                      rintro e w' ⟨rfl, ⟨nd, rfl⟩⟩
                      refine ⟨_, rfl, ?_⟩
                      refine hK.out _ _ (cells_11 BK275.out ⟨(hxb HB hw288_0 :), (hxb HB hw290_0 :)⟩) (fun hHeld => ?_)
                      clear hK K
                      refine norm_ (a' := ?_) ?_ ?_
                      rotate_left
                      ·show Act.put _ (some 169) _ = _
                       simp only [Act.put, List.setIfInBounds_toArray, List.set_cons_zero, List.set_cons_succ, i64_w, i32_w]
                       rfl
                      refine pv_ HT_ 25 (some 170) (tf 26 23) (h := ?_)
                      refine pv_ HT_ 26 (some 171) (tf 27 22) (h := ?_)
                      refine pv_ HT_ 27 (some 172) (tf 28 21) (h := ?_)
                      refine pv_ HT_ 28 (some 173) (tf 29 20) (h := ?_)
                      refine pu_ HT_ 29 (some 174) (tf 30 19) (h := ?_)
                      refine pu_ HT_ 30 (some 175) (tf 31 18) (h := ?_)
                      refine pu_ HT_ 31 (some 176) (tf 32 17) (h := ?_)
                      refine pu_ HT_ 32 (some 177) (tf 33 16) (h := ?_)
                      refine pu_ HT_ 33 (some 178) (tf 34 15) (h := ?_)
                      refine pu_ HT_ 34 (some 179) (tf 35 14) (h := ?_)
                      refine pu_ HT_ 35 (some 180) (tf 36 13) (h := ?_)
                      refine pu_ HT_ 36 (some 181) (tf 37 12) (h := ?_)
                      refine pu_ HT_ 37 (some 182) (tf 38 11) (h := ?_)
                      refine pu_ HT_ 38 (some 183) (tf 39 10) (h := ?_)
                      refine pu_ HT_ 39 (some 184) (tf 40 9) (h := ?_)
                      refine pu_ HT_ 40 (some 185) (tf 41 8) (h := ?_)
                      refine pu_ HT_ 41 (some 186) (tf 42 7) (h := ?_)
                      refine pu_ HT_ 42 (some 187) (tf 43 6) (h := ?_)
                      refine pu_ HT_ 43 (some 188) (tf 44 5) (h := ?_)
                      refine pu_ HT_ 44 (some 189) (tf 45 4) (h := ?_)
                      refine pu_ HT_ 45 (some 190) (tf 46 3) (h := ?_)
                      refine pu_ HT_ 46 (some 191) (tf 47 2) (h := ?_)
                      refine pu_ HT_ 47 (some 192) (tf 48 1) (h := ?_)
                      refine pv_ HT_ 48 (some 193) (tf 49 0) (h := ?_)
                      refine done_ (done_of HT_.out (by kernel_rfl)) ?_
                      try go_wp2
                      go_ret
                      exact ⟨by first | rfl | (simp [errW_none, errW_some] <;> rfl) | (simp [*, errW_none, errW_some] <;> rfl), by repeat (first | (with_reducible first | exact HB.out | apply below_alloc | apply pw_below_drewN | apply below_drew1 | refine below_set ?_ GE275.out) | exact HB.out)⟩
                    ·rw [if_neg c81] at H
                     exact absurd H (by simp)
                   ·replace c80 := Bool.eq_false_iff.mpr c80
                    subst c80
                    have H1 : (some false) = some r := by rw [if_neg (show ¬ (false = true) by decide)] at H; exact H
                    clear H
                    have H := H1
                    clear H1
                    obtain rfl := Option.some.inj H
                    try go_wp2
                    replace BK275 := Aside0.mk (blk_drew BK275.out)
                    replace HB := Aside0.mk (below_drew1 HB.out)
                    have p288 : 0 ≤ (x142_5 : Int) := od
                    have q288 : x142_5 < (l0_9.length : Int) := od
                    obtain ⟨ad288, e288, hx288_0⟩ := Kd.at_int HR0_9.out x142_5 p288 q288
                    have hw288_0 := hx288_0
                    cases e288
                    replace hx288_0 := hxb HB hx288_0
                    replace p288 := eq_true p288
                    replace q288 := eq_true q288
                    refine start_ (n := 49) (S := fun w' => w'.cell? ⟨gb275, 0, none⟩ = some (.int .i64 a0_0) ∧ w'.cell? ⟨gb275, 1, none⟩ = some (.int .i64 a0_1) ∧ w'.cell? ⟨gb275, 2, none⟩ = some (.int .i64 a0_2) ∧ w'.cell? ⟨gb275, 3, none⟩ = some (.slice A0_3 l0_3.length c0_3) ∧ w'.cell? ⟨gb275, 4, none⟩ = some (.int .i64 a0_4) ∧ w'.cell? ⟨gb275, 5, none⟩ = some (.int .i64 a0_5) ∧ w'.cell? ⟨gb275, 6, none⟩ = some (.int .i64 a0_6) ∧ w'.cell? ⟨gb275, 7, none⟩ = some (.int .i64 a0_7) ∧ w'.cell? ⟨gb275, 8, none⟩ = some (.slice A0_8 l0_8.length c0_8) ∧ w'.cell? ⟨gb275, 9, none⟩ = some (.slice (some ad288) l0_9.length c0_9) ∧ w'.cell? ⟨gb275, 10, none⟩ = some (.slice A0_10 l0_10.length c0_10) ∧ w'.cell? (ad288.add (x142_5).toNat) = some (.int .i64 (rd l0_9 x142_5))) (ds := []) (tf 0 49) (by kernel_rfl) rfl rfl (cells_11 BK275.out ((hxb HB hw288_0 :))) (fun hHeld => ?_); refine with_tabW impl_NodeOk.tab18 impl_NodeOk.bits18 (fun HT_ HW_ => ?_)
                    generalize wr.drew = w86 at BK275 HB hx288_0 hHeld ⊢
                    refine pv_ HT_ 0 (some 145) (tf 1 48) (h := ?_)
                    refine tv_ HT_ HW_ hHeld 1 (some 146) (tf 2 47) (h := ?_)
                    refine pv_ HT_ 2 (some 147) (tf 3 46) (h := ?_)
                    refine pv_ HT_ 3 (some 148) (tf 4 45) (h := ?_)
                    refine pv_ HT_ 4 (some 149) (tf 5 44) (h := ?_)
                    refine pv_ HT_ 6 (some 151) (tb 49 95) (h := ?_)
                    refine pv_ HT_ 9 (some 154) (tb 49 607) (h := ?_)
                    refine tv_ HT_ HW_ hHeld 5 (some 150) (tb 49 639) (h := ?_)
                    refine pv_ HT_ 7 (some 152) (tb 49 767) (h := ?_)
                    refine tv_ HT_ HW_ hHeld 8 (some 153) (tf 10 39) (h := ?_)
                    refine tv_ HT_ HW_ hHeld 10 (some 155) (tf 11 38) (h := ?_)
                    refine pv_ HT_ 11 (some 156) (tf 12 37) (h := ?_)
                    refine pv_ HT_ 12 (some 157) (tf 13 36) (h := ?_)
                    refine one_ (i := 13) (N := some 158) (tf 14 35) rfl rfl (one_of HT_.out (by kernel_rfl)) (by decide) (fun K hK => ?_)
                    refine gs_ Try.func81 #[.int .i64 (rd l0_9 x142_5), .int .i64 1, .int .i64 (wrap64 ((l0_3.length : Int) + 1))] (h := ?_)
                    with_reducible refine (impl_within.calls (rd l0_9 x142_5) 1 (wrap64 ((l0_3.length : Int) + 1)) false _ A79.out).mono ?_
                    rintro e w' ⟨rfl, ⟨nd, rfl⟩⟩
                    refine ⟨_, rfl, ?_⟩
                    refine hK.out _ _ (cells_11 BK275.out ((hxb HB hw288_0 :))) (fun hHeld => ?_)
                    clear hK K
                    refine norm_ (a' := ?_) ?_ ?_
                    rotate_left
                    ·show Act.put _ (some 158) _ = _
                     simp only [Act.put, List.setIfInBounds_toArray, List.set_cons_zero, List.set_cons_succ, i64_w, i32_w]
                     rfl
                    refine pv_ HT_ 14 (some 159) (tf 15 34) (h := ?_)
                    refine pv_ HT_ 15 (some 160) (tf 16 33) (h := ?_)
                    refine pu_ HT_ 16 (some 161) (tf 17 32) (h := ?_)
                    refine pu_ HT_ 17 (some 162) (tf 18 31) (h := ?_)
                    refine pu_ HT_ 18 (some 163) (tf 19 30) (h := ?_)
                    refine pu_ HT_ 19 (some 164) (tf 20 29) (h := ?_)
                    refine pu_ HT_ 20 (some 165) (tf 21 28) (h := ?_)
                    refine pu_ HT_ 21 (some 166) (tf 22 27) (h := ?_)
                    refine pu_ HT_ 22 (some 167) (tf 23 26) (h := ?_)
                    refine pu_ HT_ 23 (some 168) (tf 24 25) (h := ?_)
                    refine pu_ HT_ 24 (some 169) (tf 25 24) (h := ?_)
                    refine pu_ HT_ 25 (some 170) (tf 26 23) (h := ?_)
                    refine pv_ HT_ 26 (some 171) (tf 27 22) (h := ?_)
                    refine pv_ HT_ 27 (some 172) (tf 28 21) (h := ?_)
                    refine pv_ HT_ 28 (some 173) (tf 29 20) (h := ?_)
                    refine pu_ HT_ 29 (some 174) (tf 30 19) (h := ?_)
                    refine pu_ HT_ 30 (some 175) (tf 31 18) (h := ?_)
                    refine pu_ HT_ 31 (some 176) (tf 32 17) (h := ?_)
                    refine pu_ HT_ 32 (some 177) (tf 33 16) (h := ?_)
                    refine pu_ HT_ 33 (some 178) (tf 34 15) (h := ?_)
                    refine pu_ HT_ 34 (some 179) (tf 35 14) (h := ?_)
                    refine pu_ HT_ 35 (some 180) (tf 36 13) (h := ?_)
                    refine pu_ HT_ 36 (some 181) (tf 37 12) (h := ?_)
                    refine pu_ HT_ 37 (some 182) (tf 38 11) (h := ?_)
                    refine pu_ HT_ 38 (some 183) (tf 39 10) (h := ?_)
                    refine pu_ HT_ 39 (some 184) (tf 40 9) (h := ?_)
                    refine pu_ HT_ 40 (some 185) (tf 41 8) (h := ?_)
                    refine pu_ HT_ 41 (some 186) (tf 42 7) (h := ?_)
                    refine pu_ HT_ 42 (some 187) (tf 43 6) (h := ?_)
                    refine pu_ HT_ 43 (some 188) (tf 44 5) (h := ?_)
                    refine pu_ HT_ 44 (some 189) (tf 45 4) (h := ?_)
                    refine pu_ HT_ 45 (some 190) (tf 46 3) (h := ?_)
                    refine pu_ HT_ 46 (some 191) (tf 47 2) (h := ?_)
                    refine pu_ HT_ 47 (some 192) (tf 48 1) (h := ?_)
                    refine pv_ HT_ 48 (some 193) (tf 49 0) (h := ?_)
                    refine done_ (done_of HT_.out (by kernel_rfl)) ?_
                    try go_wp2
                    go_ret
                    exact ⟨by first | rfl | (simp [errW_none, errW_some] <;> rfl) | (simp [*, errW_none, errW_some] <;> rfl), by repeat (first | (with_reducible first | exact HB.out | apply below_alloc | apply pw_below_drewN | apply below_drew1 | refine below_set ?_ GE275.out) | exact HB.out)⟩
                  ·rw [if_neg c78] at H
                   exact absurd H (by simp)
                 ·rw [if_neg c77] at H
                  exact absurd H (by simp)
                ·rw [if_neg c76] at H
                 have c76b0 : (a0_5 == 2) = false := beq_eq_false_iff_ne.mpr c76
                 have c76b1 : (a0_5 != 2) = true := bne_iff_ne.mpr c76
                 by_cases c87 : 0 ≤ x142_5
                 ·rw [if_pos c87] at H
                  have c87b0 : decide (0 ≤ x142_5) = true := decide_eq_true c87
                  clear c87
                  by_cases c88 : x142_5 < (l0_9.length : Int)
                  ·rw [if_pos c88] at H
                   have c88b0 : decide (x142_5 < (l0_9.length : Int)) = true := decide_eq_true c88
                   clear c88
                   by_cases c89 : (rd l0_9 x142_5) = 0
                   ·rw [if_pos c89] at H
                    have c89b0 : ((rd l0_9 x142_5) == 0) = true := beq_iff_eq.mpr c89
                    have c89b1 : ((rd l0_9 x142_5) != 0) = false := bne_eq_false_iff_eq.mpr c89
                    clear c89
                    by_cases c90 : x142_5 < (l0_10.length : Int)
                    ·rw [if_pos c90] at H
                     have c90b0 : decide (x142_5 < (l0_10.length : Int)) = true := decide_eq_true c90
                     clear c90
                     by_cases c91 : (rd l0_10 x142_5) = 0
                     ·rw [if_pos c91] at H
                      have c91b0 : ((rd l0_10 x142_5) == 0) = true := beq_iff_eq.mpr c91
                      have c91b1 : ((rd l0_10 x142_5) != 0) = false := bne_eq_false_iff_eq.mpr c91
                      clear c91
                      have H' := Aside0.mk H
                      clear H
                      try go_wp2
                      replace BK275 := Aside0.mk (blk_drew BK275.out)
                      replace HB := Aside0.mk (below_drew1 HB.out)
                      have p292 : 0 ≤ (x142_5 : Int) := od
                      have q292 : x142_5 < (l0_9.length : Int) := od
                      obtain ⟨ad292, e292, hx292_0⟩ := Kd.at_int HR0_9.out x142_5 p292 q292
                      have hw292_0 := hx292_0
                      cases e292
                      replace hx292_0 := hxb HB hx292_0
                      replace p292 := eq_true p292
                      replace q292 := eq_true q292
                      have p293 : 0 ≤ (x142_5 : Int) := od
                      have q293 : x142_5 < (l0_10.length : Int) := od
                      obtain ⟨ad293, e293, hx293_0⟩ := Kd.at_int HR0_10.out x142_5 p293 q293
                      have hw293_0 := hx293_0
                      cases e293
                      replace hx293_0 := hxb HB hx293_0
                      replace p293 := eq_true p293
                      replace q293 := eq_true q293
                      refine start_ (n := 49) (S := fun w' => w'.cell? ⟨gb275, 0, none⟩ = some (.int .i64 a0_0) ∧ w'.cell? ⟨gb275, 1, none⟩ = some (.int .i64 a0_1) ∧ w'.cell? ⟨gb275, 2, none⟩ = some (.int .i64 a0_2) ∧ w'.cell? ⟨gb275, 3, none⟩ = some (.slice A0_3 l0_3.length c0_3) ∧ w'.cell? ⟨gb275, 4, none⟩ = some (.int .i64 a0_4) ∧ w'.cell? ⟨gb275, 5, none⟩ = some (.int .i64 a0_5) ∧ w'.cell? ⟨gb275, 6, none⟩ = some (.int .i64 a0_6) ∧ w'.cell? ⟨gb275, 7, none⟩ = some (.int .i64 a0_7) ∧ w'.cell? ⟨gb275, 8, none⟩ = some (.slice A0_8 l0_8.length c0_8) ∧ w'.cell? ⟨gb275, 9, none⟩ = some (.slice (some ad292) l0_9.length c0_9) ∧ w'.cell? ⟨gb275, 10, none⟩ = some (.slice (some ad293) l0_10.length c0_10) ∧ w'.cell? (ad292.add (x142_5).toNat) = some (.int .i64 (rd l0_9 x142_5)) ∧ w'.cell? (ad293.add (x142_5).toNat) = some (.int .i64 (rd l0_10 x142_5))) (ds := []) (tf 0 49) (by kernel_rfl) rfl rfl (cells_11 BK275.out ⟨(hxb HB hw292_0 :), (hxb HB hw293_0 :)⟩) (fun hHeld => ?_); refine with_tabW impl_NodeOk.tab18 impl_NodeOk.bits18 (fun HT_ HW_ => ?_)
                      generalize wr.drew = w92 at BK275 HB hx292_0 hx293_0 hHeld ⊢
                      refine pv_ HT_ 0 (some 145) (tf 1 48) (h := ?_)
                      refine tv_ HT_ HW_ hHeld 1 (some 146) (tf 2 47) (h := ?_)
                      refine pv_ HT_ 2 (some 147) (tf 3 46) (h := ?_)
                      refine pv_ HT_ 3 (some 148) (tf 4 45) (h := ?_)
                      refine pu_ HT_ 4 (some 149) (tf 5 44) (h := ?_)
                      refine pu_ HT_ 5 (some 150) (tf 6 43) (h := ?_)
                      refine pu_ HT_ 6 (some 151) (tf 7 42) (h := ?_)
                      refine pu_ HT_ 7 (some 152) (tf 8 41) (h := ?_)
                      refine pu_ HT_ 8 (some 153) (tf 9 40) (h := ?_)
                      refine pu_ HT_ 9 (some 154) (tf 10 39) (h := ?_)
                      refine pu_ HT_ 10 (some 155) (tf 11 38) (h := ?_)
                      refine pu_ HT_ 11 (some 156) (tf 12 37) (h := ?_)
                      refine pu_ HT_ 12 (some 157) (tf 13 36) (h := ?_)
                      refine pu_ HT_ 13 (some 158) (tf 14 35) (h := ?_)
                      refine pu_ HT_ 14 (some 159) (tf 15 34) (h := ?_)
                      refine pu_ HT_ 15 (some 160) (tf 16 33) (h := ?_)
                      refine pu_ HT_ 16 (some 161) (tf 17 32) (h := ?_)
                      refine pu_ HT_ 17 (some 162) (tf 18 31) (h := ?_)
                      refine pu_ HT_ 18 (some 163) (tf 19 30) (h := ?_)
                      refine pu_ HT_ 19 (some 164) (tf 20 29) (h := ?_)
                      refine pu_ HT_ 20 (some 165) (tf 21 28) (h := ?_)
                      refine pu_ HT_ 21 (some 166) (tf 22 27) (h := ?_)
                      refine pu_ HT_ 22 (some 167) (tf 23 26) (h := ?_)
                      refine pu_ HT_ 23 (some 168) (tf 24 25) (h := ?_)
                      refine pu_ HT_ 24 (some 169) (tf 25 24) (h := ?_)
                      refine pu_ HT_ 25 (some 170) (tf 26 23) (h := ?_)
                      refine pu_ HT_ 26 (some 171) (tf 27 22) (h := ?_)
                      refine pv_ HT_ 27 (some 172) (tf 28 21) (h := ?_)
                      refine pv_ HT_ 28 (some 173) (tf 29 20) (h := ?_)
                      refine pv_ HT_ 29 (some 174) (tf 30 19) (h := ?_)
                      refine tv_ HT_ HW_ hHeld 30 (some 175) (tf 31 18) (h := ?_)
                      refine pv_ HT_ 31 (some 176) (tf 32 17) (h := ?_)
                      refine pv_ HT_ 32 (some 177) (tf 33 16) (h := ?_)
                      refine pv_ HT_ 33 (some 178) (tf 34 15) (h := ?_)
                      refine pv_ HT_ 35 (some 180) (tb 49 51539607551) (h := ?_)
                      refine tv_ HT_ HW_ hHeld 34 (some 179) (tf 36 13) (h := ?_)
                      refine pv_ HT_ 36 (some 181) (tf 37 12) (h := ?_)
                      refine tv_ HT_ HW_ hHeld 37 (some 182) (tf 38 11) (h := ?_)
                      refine pv_ HT_ 38 (some 183) (tf 39 10) (h := ?_)
                      refine pv_ HT_ 39 (some 184) (tf 40 9) (h := ?_)
                      refine pv_ HT_ 40 (some 185) (tf 41 8) (h := ?_)
                      refine pv_ HT_ 42 (some 187) (tb 49 6597069766655) (h := ?_)
                      refine tv_ HT_ HW_ hHeld 41 (some 186) (tf 43 6) (h := ?_)
                      refine pv_ HT_ 43 (some 188) (tf 44 5) (h := ?_)
                      refine tv_ HT_ HW_ hHeld 44 (some 189) (tf 45 4) (h := ?_)
                      refine pv_ HT_ 45 (some 190) (tf 46 3) (h := ?_)
                      refine pv_ HT_ 46 (some 191) (tf 47 2) (h := ?_)
                      refine pv_ HT_ 47 (some 192) (tf 48 1) (h := ?_)
                      refine pv_ HT_ 48 (some 193) (tf 49 0) (h := ?_)
                      refine done_ (done_of HT_.out (by kernel_rfl)) ?_
                      try go_wp2
                      go_roundg k5
                      case measure => have := HJ2.out; have := HK2.out; have := HJ42.out; have := HJ58.out; have := HK5.out; omega
                      case rel => exact ⟨(wrap64 (x142_5 + 1)), (by first | rfl | (simp; done) | (simp [*]; done)), H', ⟨by have := HJ2.out; have := HK2.out; have := HJ42.out; have := HJ58.out; have := HK5.out; omega⟩, ⟨by (with_reducible repeat (first | refine blk_drewN ?_ _ | refine blk_drew ?_ | refine blk_alloc ?_ _)); exact BK275.out⟩, ⟨by repeat (first | (with_reducible first | exact HB.out | apply below_alloc | apply pw_below_drewN | apply below_drew1 | refine below_set ?_ GE275.out) | exact HB.out)⟩⟩
                     ·rw [if_neg c91] at H
                      have c91b0 : ((rd l0_10 x142_5) == 0) = false := beq_eq_false_iff_ne.mpr c91
                      have c91b1 : ((rd l0_10 x142_5) != 0) = true := bne_iff_ne.mpr c91
                      obtain rfl := Option.some.inj H
                      try go_wp2
                      replace BK275 := Aside0.mk (blk_drew BK275.out)
                      replace HB := Aside0.mk (below_drew1 HB.out)
                      have p292 : 0 ≤ (x142_5 : Int) := od
                      have q292 : x142_5 < (l0_9.length : Int) := od
                      obtain ⟨ad292, e292, hx292_0⟩ := Kd.at_int HR0_9.out x142_5 p292 q292
                      have hw292_0 := hx292_0
                      cases e292
                      replace hx292_0 := hxb HB hx292_0
                      replace p292 := eq_true p292
                      replace q292 := eq_true q292
                      have p293 : 0 ≤ (x142_5 : Int) := od
                      have q293 : x142_5 < (l0_10.length : Int) := od
                      obtain ⟨ad293, e293, hx293_0⟩ := Kd.at_int HR0_10.out x142_5 p293 q293
                      have hw293_0 := hx293_0
                      cases e293
                      replace hx293_0 := hxb HB hx293_0
                      replace p293 := eq_true p293
                      replace q293 := eq_true q293
                      refine start_ (n := 49) (S := fun w' => w'.cell? ⟨gb275, 0, none⟩ = some (.int .i64 a0_0) ∧ w'.cell? ⟨gb275, 1, none⟩ = some (.int .i64 a0_1) ∧ w'.cell? ⟨gb275, 2, none⟩ = some (.int .i64 a0_2) ∧ w'.cell? ⟨gb275, 3, none⟩ = some (.slice A0_3 l0_3.length c0_3) ∧ w'.cell? ⟨gb275, 4, none⟩ = some (.int .i64 a0_4) ∧ w'.cell? ⟨gb275, 5, none⟩ = some (.int .i64 a0_5) ∧ w'.cell? ⟨gb275, 6, none⟩ = some (.int .i64 a0_6) ∧ w'.cell? ⟨gb275, 7, none⟩ = some (.int .i64 a0_7) ∧ w'.cell? ⟨gb275, 8, none⟩ = some (.slice A0_8 l0_8.length c0_8) ∧ w'.cell? ⟨gb275, 9, none⟩ = some (.slice (some ad292) l0_9.length c0_9) ∧ w'.cell? ⟨gb275, 10, none⟩ = some (.slice (some ad293) l0_10.length c0_10) ∧ w'.cell? (ad292.add (x142_5).toNat) = some (.int .i64 (rd l0_9 x142_5)) ∧ w'.cell? (ad293.add (x142_5).toNat) = some (.int .i64 (rd l0_10 x142_5))) (ds := []) (tf 0 49) (by kernel_rfl) rfl rfl (cells_11 BK275.out ⟨(hxb HB hw292_0 :), (hxb HB hw293_0 :)⟩) (fun hHeld => ?_); refine with_tabW impl_NodeOk.tab18 impl_NodeOk.bits18 (fun HT_ HW_ => ?_)
                      generalize wr.drew = w93 at BK275 HB hx292_0 hx293_0 hHeld ⊢
                      refine pv_ HT_ 0 (some 145) (tf 1 48) (h := ?_)
                      refine tv_ HT_ HW_ hHeld 1 (some 146) (tf 2 47) (h := ?_)
                      refine pv_ HT_ 2 (some 147) (tf 3 46) (h := ?_)
                      refine pv_ HT_ 3 (some 148) (tf 4 45) (h := ?_)
                      refine pu_ HT_ 4 (some 149) (tf 5 44) (h := ?_)
                      refine pu_ HT_ 5 (some 150) (tf 6 43) (h := ?_)
                      refine pu_ HT_ 6 (some 151) (tf 7 42) (h := ?_)
                      refine pu_ HT_ 7 (some 152) (tf 8 41) (h := ?_)
                      refine pu_ HT_ 8 (some 153) (tf 9 40) (h := ?_)
                      refine pu_ HT_ 9 (some 154) (tf 10 39) (h := ?_)
                      refine pu_ HT_ 10 (some 155) (tf 11 38) (h := ?_)
                      refine pu_ HT_ 11 (some 156) (tf 12 37) (h := ?_)
                      refine pu_ HT_ 12 (some 157) (tf 13 36) (h := ?_)
                      refine pu_ HT_ 13 (some 158) (tf 14 35) (h := ?_)
                      refine pu_ HT_ 14 (some 159) (tf 15 34) (h := ?_)
                      refine pu_ HT_ 15 (some 160) (tf 16 33) (h := ?_)
                      refine pu_ HT_ 16 (some 161) (tf 17 32) (h := ?_)
                      refine pu_ HT_ 17 (some 162) (tf 18 31) (h := ?_)
                      refine pu_ HT_ 18 (some 163) (tf 19 30) (h := ?_)
                      refine pu_ HT_ 19 (some 164) (tf 20 29) (h := ?_)
                      refine pu_ HT_ 20 (some 165) (tf 21 28) (h := ?_)
                      refine pu_ HT_ 21 (some 166) (tf 22 27) (h := ?_)
                      refine pu_ HT_ 22 (some 167) (tf 23 26) (h := ?_)
                      refine pu_ HT_ 23 (some 168) (tf 24 25) (h := ?_)
                      refine pu_ HT_ 24 (some 169) (tf 25 24) (h := ?_)
                      refine pu_ HT_ 25 (some 170) (tf 26 23) (h := ?_)
                      refine pu_ HT_ 26 (some 171) (tf 27 22) (h := ?_)
                      refine pv_ HT_ 27 (some 172) (tf 28 21) (h := ?_)
                      refine pv_ HT_ 28 (some 173) (tf 29 20) (h := ?_)
                      refine pv_ HT_ 29 (some 174) (tf 30 19) (h := ?_)
                      refine tv_ HT_ HW_ hHeld 30 (some 175) (tf 31 18) (h := ?_)
                      refine pv_ HT_ 31 (some 176) (tf 32 17) (h := ?_)
                      refine pv_ HT_ 32 (some 177) (tf 33 16) (h := ?_)
                      refine pv_ HT_ 33 (some 178) (tf 34 15) (h := ?_)
                      refine pv_ HT_ 35 (some 180) (tb 49 51539607551) (h := ?_)
                      refine tv_ HT_ HW_ hHeld 34 (some 179) (tf 36 13) (h := ?_)
                      refine pv_ HT_ 36 (some 181) (tf 37 12) (h := ?_)
                      refine tv_ HT_ HW_ hHeld 37 (some 182) (tf 38 11) (h := ?_)
                      refine pv_ HT_ 38 (some 183) (tf 39 10) (h := ?_)
                      refine pv_ HT_ 39 (some 184) (tf 40 9) (h := ?_)
                      refine pv_ HT_ 40 (some 185) (tf 41 8) (h := ?_)
                      refine pv_ HT_ 42 (some 187) (tb 49 6597069766655) (h := ?_)
                      refine tv_ HT_ HW_ hHeld 41 (some 186) (tf 43 6) (h := ?_)
                      refine pv_ HT_ 43 (some 188) (tf 44 5) (h := ?_)
                      refine tv_ HT_ HW_ hHeld 44 (some 189) (tf 45 4) (h := ?_)
                      refine pv_ HT_ 45 (some 190) (tf 46 3) (h := ?_)
                      refine pv_ HT_ 46 (some 191) (tf 47 2) (h := ?_)
                      refine pv_ HT_ 47 (some 192) (tf 48 1) (h := ?_)
                      refine pv_ HT_ 48 (some 193) (tf 49 0) (h := ?_)
                      refine done_ (done_of HT_.out (by kernel_rfl)) ?_
                      try go_wp2
                      go_ret
                      exact ⟨by first | rfl | (simp [errW_none, errW_some] <;> rfl) | (simp [*, errW_none, errW_some] <;> rfl), by repeat (first | (with_reducible first | exact HB.out | apply below_alloc | apply pw_below_drewN | apply below_drew1 | refine below_set ?_ GE275.out) | exact HB.out)⟩
                    ·rw [if_neg c90] at H
                     exact absurd H (by simp)
                   ·rw [if_neg c89] at H
                    have c89b0 : ((rd l0_9 x142_5) == 0) = false := beq_eq_false_iff_ne.mpr c89
                    have c89b1 : ((rd l0_9 x142_5) != 0) = true := bne_iff_ne.mpr c89
                    obtain rfl := Option.some.inj H
                    try go_wp2
                    replace BK275 := Aside0.mk (blk_drew BK275.out)
                    replace HB := Aside0.mk (below_drew1 HB.out)
                    have p292 : 0 ≤ (x142_5 : Int) := od
                    have q292 : x142_5 < (l0_9.length : Int) := od
                    obtain ⟨ad292, e292, hx292_0⟩ := Kd.at_int HR0_9.out x142_5 p292 q292
                    have hw292_0 := hx292_0
                    cases e292
                    replace hx292_0 := hxb HB hx292_0
                    replace p292 := eq_true p292
                    replace q292 := eq_true q292
                    refine start_ (n := 49) (S := fun w' => w'.cell? ⟨gb275, 0, none⟩ = some (.int .i64 a0_0) ∧ w'.cell? ⟨gb275, 1, none⟩ = some (.int .i64 a0_1) ∧ w'.cell? ⟨gb275, 2, none⟩ = some (.int .i64 a0_2) ∧ w'.cell? ⟨gb275, 3, none⟩ = some (.slice A0_3 l0_3.length c0_3) ∧ w'.cell? ⟨gb275, 4, none⟩ = some (.int .i64 a0_4) ∧ w'.cell? ⟨gb275, 5, none⟩ = some (.int .i64 a0_5) ∧ w'.cell? ⟨gb275, 6, none⟩ = some (.int .i64 a0_6) ∧ w'.cell? ⟨gb275, 7, none⟩ = some (.int .i64 a0_7) ∧ w'.cell? ⟨gb275, 8, none⟩ = some (.slice A0_8 l0_8.length c0_8) ∧ w'.cell? ⟨gb275, 9, none⟩ = some (.slice (some ad292) l0_9.length c0_9) ∧ w'.cell? ⟨gb275, 10, none⟩ = some (.slice A0_10 l0_10.length c0_10) ∧ w'.cell? (ad292.add (x142_5).toNat) = some (.int .i64 (rd l0_9 x142_5))) (ds := []) (tf 0 49) (by kernel_rfl) rfl rfl (cells_11 BK275.out ((hxb HB hw292_0 :))) (fun hHeld => ?_); refine with_tabW impl_NodeOk.tab18 impl_NodeOk.bits18 (fun HT_ HW_ => ?_)
                    generalize wr.drew = w94 at BK275 HB hx292_0 hHeld ⊢
                    refine pv_ HT_ 0 (some 145) (tf 1 48) (h := ?_)
                    refine tv_ HT_ HW_ hHeld 1 (some 146) (tf 2 47) (h := ?_)
                    refine pv_ HT_ 2 (some 147) (tf 3 46) (h := ?_)
                    refine pv_ HT_ 3 (some 148) (tf 4 45) (h := ?_)
                    refine pu_ HT_ 4 (some 149) (tf 5 44) (h := ?_)
                    refine pu_ HT_ 5 (some 150) (tf 6 43) (h := ?_)
                    refine pu_ HT_ 6 (some 151) (tf 7 42) (h := ?_)
                    refine pu_ HT_ 7 (some 152) (tf 8 41) (h := ?_)
                    refine pu_ HT_ 8 (some 153) (tf 9 40) (h := ?_)
                    refine pu_ HT_ 9 (some 154) (tf 10 39) (h := ?_)
                    refine pu_ HT_ 10 (some 155) (tf 11 38) (h := ?_)
                    refine pu_ HT_ 11 (some 156) (tf 12 37) (h := ?_)
                    refine pu_ HT_ 12 (some 157) (tf 13 36) (h := ?_)
                    refine pu_ HT_ 13 (some 158) (tf 14 35) (h := ?_)
                    refine pu_ HT_ 14 (some 159) (tf 15 34) (h := ?_)
                    refine pu_ HT_ 15 (some 160) (tf 16 33) (h := ?_)
                    refine pu_ HT_ 16 (some 161) (tf 17 32) (h := ?_)
                    refine pu_ HT_ 17 (some 162) (tf 18 31) (h := ?_)
                    refine pu_ HT_ 18 (some 163) (tf 19 30) (h := ?_)
                    refine pu_ HT_ 19 (some 164) (tf 20 29) (h := ?_)
                    refine pu_ HT_ 20 (some 165) (tf 21 28) (h := ?_)
                    refine pu_ HT_ 21 (some 166) (tf 22 27) (h := ?_)
                    refine pu_ HT_ 22 (some 167) (tf 23 26) (h := ?_)
                    refine pu_ HT_ 23 (some 168) (tf 24 25) (h := ?_)
                    refine pu_ HT_ 24 (some 169) (tf 25 24) (h := ?_)
                    refine pu_ HT_ 25 (some 170) (tf 26 23) (h := ?_)
                    refine pu_ HT_ 26 (some 171) (tf 27 22) (h := ?_)
                    refine pv_ HT_ 27 (some 172) (tf 28 21) (h := ?_)
                    refine pv_ HT_ 28 (some 173) (tf 29 20) (h := ?_)
                    refine pv_ HT_ 29 (some 174) (tf 30 19) (h := ?_)
                    refine tv_ HT_ HW_ hHeld 30 (some 175) (tf 31 18) (h := ?_)
                    refine pv_ HT_ 31 (some 176) (tf 32 17) (h := ?_)
                    refine pv_ HT_ 32 (some 177) (tf 33 16) (h := ?_)
                    refine pv_ HT_ 33 (some 178) (tf 34 15) (h := ?_)
                    refine pv_ HT_ 35 (some 180) (tb 49 51539607551) (h := ?_)
                    refine tv_ HT_ HW_ hHeld 34 (some 179) (tf 36 13) (h := ?_)
                    refine pv_ HT_ 36 (some 181) (tf 37 12) (h := ?_)
                    refine tv_ HT_ HW_ hHeld 37 (some 182) (tf 38 11) (h := ?_)
                    refine pv_ HT_ 38 (some 183) (tf 39 10) (h := ?_)
                    refine pv_ HT_ 39 (some 184) (tf 40 9) (h := ?_)
                    refine pu_ HT_ 40 (some 185) (tf 41 8) (h := ?_)
                    refine pu_ HT_ 41 (some 186) (tf 42 7) (h := ?_)
                    refine pu_ HT_ 42 (some 187) (tf 43 6) (h := ?_)
                    refine pu_ HT_ 43 (some 188) (tf 44 5) (h := ?_)
                    refine pu_ HT_ 44 (some 189) (tf 45 4) (h := ?_)
                    refine pu_ HT_ 45 (some 190) (tf 46 3) (h := ?_)
                    refine pv_ HT_ 46 (some 191) (tf 47 2) (h := ?_)
                    refine pv_ HT_ 47 (some 192) (tf 48 1) (h := ?_)
                    refine pv_ HT_ 48 (some 193) (tf 49 0) (h := ?_)
                    refine done_ (done_of HT_.out (by kernel_rfl)) ?_
                    try go_wp2
                    go_ret
                    exact ⟨by first | rfl | (simp [errW_none, errW_some] <;> rfl) | (simp [*, errW_none, errW_some] <;> rfl), by repeat (first | (with_reducible first | exact HB.out | apply below_alloc | apply pw_below_drewN | apply below_drew1 | refine below_set ?_ GE275.out) | exact HB.out)⟩
                  ·rw [if_neg c88] at H
                   exact absurd H (by simp)
                 ·rw [if_neg c87] at H
                  exact absurd H (by simp)
               ·rw [if_neg c75] at H
                have c75b0 : decide (x142_5 < a1) = false := decide_eq_false c75
                clear c75
                obtain rfl := Option.some.inj H
                go_wp2
                go_ret
                exact ⟨by first | rfl | (simp [errW_none, errW_some] <;> rfl) | (simp [*, errW_none, errW_some] <;> rfl), by repeat (first | (with_reducible first | exact HB.out | apply below_alloc | apply pw_below_drewN | apply below_drew1 | refine below_set ?_ GE275.out) | exact HB.out)⟩

end Go.Proofs.Ytdgegnakiljfjaa.PW
