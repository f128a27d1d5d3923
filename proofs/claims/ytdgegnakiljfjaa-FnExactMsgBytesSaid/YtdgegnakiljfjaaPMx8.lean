-- Written for this claim by the session's program pp.py, out of the kit's print and the seat's translation.
import Derived.Test.YtdgegnakiljfjaaPMx0
import Derived.Test.YtdgegnakiljfjaaPMx6
import Derived.Test.YtdgegnakiljfjaaPMx7
namespace Go.Proofs.Ytdgegnakiljfjaa.PM
open Go.RowKit Go.Proofs.YtdgegnakiljfjaaW.PrintWords Go.Proofs.YtdgegnakiljfjaaW.PrintLast Go.Proofs.YtdgegnakiljfjaaW.PrintMore
attribute [local go_sem] max2_int min2_int max_two min_two max_three min_three max_four min_four   -- for this text's walks alone
set_option linter.unusedVariables false
set_option linter.unusedSimpArgs false

/-! ### spec_MsgOk: function 27 -/
mutual
def spec_MsgOk.j0 : Nat → Bool → Int → Int → Int → Int → Int → Int → List (S147) → Int → Bool → Option (Bool)
 | 0, _, _, _, _, _, _, _, _, _, _ => none
 | k + 1, x81, x257000, x257001, x257002, x257003, x257004, x257005, x257006, x257007, x257008 => if x81 = true then (some false) else (if ((x257004 == 0) != (x257005 == 0)) = true then (if x257000 = 3 then (spec_MsgOk.j1 k false x257000 x257001 x257002 x257003 x257004 x257005 x257006 x257007 x257008) else (spec_MsgOk.j1 k (x257000 != 1) x257000 x257001 x257002 x257003 x257004 x257005 x257006 x257007 x257008)) else (spec_MsgOk.j1 k false x257000 x257001 x257002 x257003 x257004 x257005 x257006 x257007 x257008))
def spec_MsgOk.j1 : Nat → Bool → Int → Int → Int → Int → Int → Int → List (S147) → Int → Bool → Option (Bool)
 | 0, _, _, _, _, _, _, _, _, _, _ => none
 | k + 1, x98, x257000, x257001, x257002, x257003, x257004, x257005, x257006, x257007, x257008 => if x98 = true then (some false) else (spec_MsgOk.l0 k 0 x257000 x257001 x257002 x257003 x257004 x257005 x257006 x257007 x257008)
def spec_MsgOk.l0 : Nat → Int → Int → Int → Int → Int → Int → Int → List (S147) → Int → Bool → Option (Bool)
 | 0, _, _, _, _, _, _, _, _, _, _ => none
 | k + 1, x3, x257000, x257001, x257002, x257003, x257004, x257005, x257006, x257007, x257008 => if x3 < (x257006.length : Int) then (if 0 ≤ x3 then ((spec_ItemOk.f k ((rd_T147 x257006 x3).f0) ((rd_T147 x257006 x3).f1.f0) ((rd_T147 x257006 x3).f1.f1) ((rd_T147 x257006 x3).f1.f2.f0) ((rd_T147 x257006 x3).f1.f2.f1) ((rd_T147 x257006 x3).f1.f2.f2) ((rd_T147 x257006 x3).f1.f2.f3)).bind fun t264 => (if t264 = true then (if ((rd_T147 x257006 x3).f0) > x257003 then (some false) else (if x3 > 0 then (if 0 ≤ (wrap64 (x3 - 1)) then (if (wrap64 (x3 - 1)) < (x257006.length : Int) then (if ((rd_T147 x257006 (wrap64 (x3 - 1))).f0) > ((rd_T147 x257006 x3).f0) then (some false) else (if ((rd_T147 x257006 x3).f0) < x257005 then (some false) else (spec_MsgOk.l0 k (wrap64 (x3 + 1)) x257000 x257001 x257002 x257003 x257004 x257005 x257006 x257007 x257008))) else (none)) else (none)) else (if ((rd_T147 x257006 x3).f0) < x257005 then (some false) else (spec_MsgOk.l0 k (wrap64 (x3 + 1)) x257000 x257001 x257002 x257003 x257004 x257005 x257006 x257007 x257008)))) else (some false))) else (none)) else (if x257000 = 0 then (if (x257006.length : Int) = 0 then (if x257007 = 0 then (some (!x257008)) else (some false)) else (some false)) else (if x257000 = 1 then (if x257004 = 0 then (if x257005 = 0 then (if (x257006.length : Int) = 0 then (some (x257007 == 0)) else (some false)) else (some false)) else (some false)) else (if x257000 = 2 then (some (!x257008)) else (if x257005 = 0 then (if (x257006.length : Int) = 0 then (some (x257007 == 0)) else (some false)) else (some false)))))
end
def spec_MsgOk.f (k : Nat) (a0_0 : Int) (a0_1 : Int) (a0_2 : Int) (a0_3 : Int) (a0_4 : Int) (a0_5 : Int) (l0_6 : List (S147)) (a0_7 : Int) (a0_8 : Bool) : Option (Bool) := if a0_0 < 0 then (spec_MsgOk.j0 k true a0_0 a0_1 a0_2 a0_3 a0_4 a0_5 l0_6 a0_7 a0_8) else (if a0_0 > 3 then (spec_MsgOk.j0 k true a0_0 a0_1 a0_2 a0_3 a0_4 a0_5 l0_6 a0_7 a0_8) else ((spec_l3server.f a0_1).bind fun t257 => (if t257 = true then ((spec_l3server.f a0_2).bind fun t258 => (if t258 = true then (if a0_1 = a0_2 then (spec_MsgOk.j0 k true a0_0 a0_1 a0_2 a0_3 a0_4 a0_5 l0_6 a0_7 a0_8) else (if a0_3 < 1 then (spec_MsgOk.j0 k true a0_0 a0_1 a0_2 a0_3 a0_4 a0_5 l0_6 a0_7 a0_8) else ((spec_l3term.f a0_3).bind fun t259 => (if t259 = true then ((spec_l3place.f a0_4).bind fun t260 => (if t260 = true then ((spec_l3term.f a0_5).bind fun t261 => (if t261 = true then (if a0_5 > a0_3 then (spec_MsgOk.j0 k true a0_0 a0_1 a0_2 a0_3 a0_4 a0_5 l0_6 a0_7 a0_8) else ((spec_l3place.f a0_7).bind fun t262 => (if t262 = true then (if (l0_6.length : Int) > 4 then (spec_MsgOk.j0 k true a0_0 a0_1 a0_2 a0_3 a0_4 a0_5 l0_6 a0_7 a0_8) else (spec_MsgOk.j0 k (decide ((l0_6.length : Int) > (wrap64 (400 - a0_4)))) a0_0 a0_1 a0_2 a0_3 a0_4 a0_5 l0_6 a0_7 a0_8)) else (spec_MsgOk.j0 k true a0_0 a0_1 a0_2 a0_3 a0_4 a0_5 l0_6 a0_7 a0_8)))) else (spec_MsgOk.j0 k true a0_0 a0_1 a0_2 a0_3 a0_4 a0_5 l0_6 a0_7 a0_8))) else (spec_MsgOk.j0 k true a0_0 a0_1 a0_2 a0_3 a0_4 a0_5 l0_6 a0_7 a0_8))) else (spec_MsgOk.j0 k true a0_0 a0_1 a0_2 a0_3 a0_4 a0_5 l0_6 a0_7 a0_8))))) else (spec_MsgOk.j0 k true a0_0 a0_1 a0_2 a0_3 a0_4 a0_5 l0_6 a0_7 a0_8))) else (spec_MsgOk.j0 k true a0_0 a0_1 a0_2 a0_3 a0_4 a0_5 l0_6 a0_7 a0_8))))
def spec_MsgOk.T8 : Bool × List (List Nat × List Nat) := (true, [([], []), ([0], [0]), ([], []), ([1, 2], [1, 2]), ([3], [3]), ([4], [4]), ([5], [5]), ([6, 5], [6]), ([7], [7]), ([8, 7], [7, 8]), ([7], [7]), ([9, 10, 7], [7, 9, 10]), ([11, 7], [7, 11]), ([12, 7], [7, 12]), ([7], [7]), ([14, 7], [7, 14]), ([13, 15, 7], [7, 13, 15]), ([7, 16], [7, 16]), ([17, 7], [17]), ([18], [18]), ([19, 18], [18, 19]), ([20, 18, 18], [18, 20]), ([21], [21]), ([22, 21], [21, 22]), ([21], [21]), ([24, 21], [21, 24]), ([23, 25, 21], [21, 23, 25]), ([26, 21], [21, 26]), ([27, 21], [21, 27]), ([21], [21]), ([29, 21], [21, 29]), ([21], [21]), ([30, 31, 21], [21, 30, 31]), ([32, 21], [21, 32]), ([33, 21], [21, 33]), ([28, 34, 21], [21, 28, 34]), ([21, 35, 18], [18, 21, 35]), ([18, 36], [18, 36]), ([37, 21], [37]), ([38], [38]), ([39, 38], [38, 39]), ([38], [38]), ([40, 41, 38], [38, 40, 41]), ([42, 38], [38, 42]), ([43, 38], [38, 43]), ([38], [38]), ([45, 38], [38, 45]), ([44, 46, 38], [38, 44, 46]), ([38, 47], [38, 47])])
def spec_MsgOk.B8 : List Nat := [0, 1, 0, 7, 15, 31, 63, 127, 255, 511, 255, 2047, 4095, 8191, 255, 16639, 65535, 131071, 262143, 524287, 1048575, 2097151, 4194303, 8388607, 4194303, 20971519, 67108863, 134217727, 268435455, 4194303, 541065215, 4194303, 3762290687, 8057257983, 16647192575, 34359738367, 68719476735, 137438953471, 274877906943, 549755813887, 1099511627775, 549755813887, 4398046511103, 8796093022207, 17592186044415, 549755813887, 35734127902719, 140737488355327, 281474976710655]
theorem spec_MsgOk.tab8 : rtab .any (opsOf Try.f27 8) = spec_MsgOk.T8 := by kernel_rfl
theorem spec_MsgOk.bits8 : waitsOk spec_MsgOk.T8.2 spec_MsgOk.B8 = true := by kernel_rfl
set_option maxHeartbeats 200000000 in
set_option maxRecDepth 100000 in
theorem spec_MsgOk.calls (k : Nat) (a0_0 : Int) (a0_1 : Int) (a0_2 : Int) (a0_3 : Int) (a0_4 : Int) (a0_5 : Int) (A0_6 : Option Addr) (c0_6 : Nat) (l0_6 : List (S147)) (a0_7 : Int) (a0_8 : Bool) (r : Bool) (w : World) (hr0_6 : Kd.C k147 w A0_6 l0_6.length l0_6) (hc0_6 : l0_6.length ≤ c0_6) (h : spec_MsgOk.f k a0_0 a0_1 a0_2 a0_3 a0_4 a0_5 l0_6 a0_7 a0_8 = some r) :
  Calls Try.prog 27 #[.agg #[.int .i64 a0_0, .int .i64 a0_1, .int .i64 a0_2, .int .i64 a0_3, .int .i64 a0_4, .int .i64 a0_5, .slice A0_6 l0_6.length c0_6, .int .i64 a0_7, .bool a0_8]] w fun e w' => e = .returned (.bool r) ∧ Below w.heap.size w w' := by
 have hu54 := Try.underlying54
 have hu147 := Try.underlying147
 have HR0_6 := Aside0.mk hr0_6
 have HC0_6 := Aside0.mk hc0_6
 clear hr0_6 hc0_6
 have HB := Aside0.mk (Below.refl w.heap.size w)
 have H : (if a0_0 < 0 then (spec_MsgOk.j0 k true a0_0 a0_1 a0_2 a0_3 a0_4 a0_5 l0_6 a0_7 a0_8) else (if a0_0 > 3 then (spec_MsgOk.j0 k true a0_0 a0_1 a0_2 a0_3 a0_4 a0_5 l0_6 a0_7 a0_8) else ((spec_l3server.f a0_1).bind fun t257 => (if t257 = true then ((spec_l3server.f a0_2).bind fun t258 => (if t258 = true then (if a0_1 = a0_2 then (spec_MsgOk.j0 k true a0_0 a0_1 a0_2 a0_3 a0_4 a0_5 l0_6 a0_7 a0_8) else (if a0_3 < 1 then (spec_MsgOk.j0 k true a0_0 a0_1 a0_2 a0_3 a0_4 a0_5 l0_6 a0_7 a0_8) else ((spec_l3term.f a0_3).bind fun t259 => (if t259 = true then ((spec_l3place.f a0_4).bind fun t260 => (if t260 = true then ((spec_l3term.f a0_5).bind fun t261 => (if t261 = true then (if a0_5 > a0_3 then (spec_MsgOk.j0 k true a0_0 a0_1 a0_2 a0_3 a0_4 a0_5 l0_6 a0_7 a0_8) else ((spec_l3place.f a0_7).bind fun t262 => (if t262 = true then (if (l0_6.length : Int) > 4 then (spec_MsgOk.j0 k true a0_0 a0_1 a0_2 a0_3 a0_4 a0_5 l0_6 a0_7 a0_8) else (spec_MsgOk.j0 k (decide ((l0_6.length : Int) > (wrap64 (400 - a0_4)))) a0_0 a0_1 a0_2 a0_3 a0_4 a0_5 l0_6 a0_7 a0_8)) else (spec_MsgOk.j0 k true a0_0 a0_1 a0_2 a0_3 a0_4 a0_5 l0_6 a0_7 a0_8)))) else (spec_MsgOk.j0 k true a0_0 a0_1 a0_2 a0_3 a0_4 a0_5 l0_6 a0_7 a0_8))) else (spec_MsgOk.j0 k true a0_0 a0_1 a0_2 a0_3 a0_4 a0_5 l0_6 a0_7 a0_8))) else (spec_MsgOk.j0 k true a0_0 a0_1 a0_2 a0_3 a0_4 a0_5 l0_6 a0_7 a0_8))))) else (spec_MsgOk.j0 k true a0_0 a0_1 a0_2 a0_3 a0_4 a0_5 l0_6 a0_7 a0_8))) else (spec_MsgOk.j0 k true a0_0 a0_1 a0_2 a0_3 a0_4 a0_5 l0_6 a0_7 a0_8))))) = some r := h
 clear h
 have HC2 := Aside0.mk H
 clear H
 go_enter Try.func27, Try.ntmps27
 go_upto_region 1 with (first | ((with_reducible refine gate_dst (N := 1) rfl ?_); (try (refine gate_guard (by rfl) ?_; dsimp only)); refine bx_ 1 #[.int .i64 a0_0, .int .i64 a0_1, .int .i64 a0_2, .int .i64 a0_3, .int .i64 a0_4, .int .i64 a0_5, .slice A0_6 l0_6.length c0_6, .int .i64 a0_7, .bool a0_8] 54 (h := ?_); intro gb256 hg w3 hbox hb; have BK256 := Aside0.mk (hbox); have GW256 := Aside0.mk ((by rw [hg]; exact (below_size bel) : w.heap.size ≤ gb256)); have GE256 := GW256; replace HB := Aside0.mk (below_step bel hb); clear hb hbox hg))
 (try simp only [Act.put, List.setIfInBounds_toArray, List.set_cons_zero, List.set_cons_succ])
 go_cut [81] (fun v81 wc => ∃ (kq : Nat) (x81_1 : Bool), v81 = .bool x81_1 ∧ Aside0 (spec_MsgOk.j0 kq x81_1 a0_0 a0_1 a0_2 a0_3 a0_4 a0_5 l0_6 a0_7 a0_8 = some r) ∧ Aside0 (kq ≤ k) ∧ Aside0 (wc.heap[gb256]? = some (.cells #[.int .i64 a0_0, .int .i64 a0_1, .int .i64 a0_2, .int .i64 a0_3, .int .i64 a0_4, .int .i64 a0_5, (.slice A0_6 l0_6.length c0_6), .int .i64 a0_7, .bool a0_8] 54 (0, 0))) ∧ Aside0 (Below w.heap.size w wc))
 case first =>
  have H := HC2.out
  clear HC2
  by_cases c4 : a0_0 < 0
  ·rw [if_pos c4] at H
   have c4b0 : decide (a0_0 < 0) = true := decide_eq_true c4
   clear c4
   (first | rw [c4b0] | (simp only [i64_w, i32_w]; rw [c4b0]) | skip)
   as_aux_lemma =>
    have H' := Aside0.mk H
    clear H
    obtain ⟨hcz5_0, hcz5_1, hcz5_2, hcz5_3, hcz5_4, hcz5_5, hcz5_6, hcz5_7, hcz5_8, -⟩ := cells_9 BK256.out trivial
    obtain ⟨hfz5_0, hfz5_1, hfz5_2, hfz5_3, hfz5_4, hfz5_5, hfz5_6, hfz5_7, hfz5_8, -⟩ := frz_9 BK256.out
    go_wp2
    go_meet
    case rel => exact ⟨_, (true), rs_, H', ⟨by first | omega | exact Nat.le_refl _⟩, ⟨by (with_reducible repeat (first | refine blk_drewN ?_ _ | refine blk_drew ?_ | refine blk_alloc ?_ _)); exact BK256.out⟩, ⟨bel⟩⟩
  rw [if_neg c4] at H
  have c4b0 : decide (a0_0 < 0) = false := decide_eq_false c4
  clear c4
  (first | rw [c4b0] | (simp only [i64_w, i32_w]; rw [c4b0]) | skip)
  by_cases c6 : a0_0 > 3
  ·rw [if_pos c6] at H
   have c6b0 : decide (3 < a0_0) = true := decide_eq_true c6
   clear c6
   as_aux_lemma =>
    have H' := Aside0.mk H
    clear H
    obtain ⟨hcz7_0, hcz7_1, hcz7_2, hcz7_3, hcz7_4, hcz7_5, hcz7_6, hcz7_7, hcz7_8, -⟩ := cells_9 BK256.out trivial
    obtain ⟨hfz7_0, hfz7_1, hfz7_2, hfz7_3, hfz7_4, hfz7_5, hfz7_6, hfz7_7, hfz7_8, -⟩ := frz_9 BK256.out
    go_wp2
    go_meet
    case rel => exact ⟨_, (true), rs_, H', ⟨by first | omega | exact Nat.le_refl _⟩, ⟨by (with_reducible repeat (first | refine blk_drewN ?_ _ | refine blk_drew ?_ | refine blk_alloc ?_ _)); exact BK256.out⟩, ⟨bel⟩⟩
  rw [if_neg c6] at H
  have c6b0 : decide (3 < a0_0) = false := decide_eq_false c6
  clear c6
  replace H := Option.bind_eq_some_iff.mp H
  obtain ⟨t257, A80, H⟩ := H
  replace H : (if t257 = true then ((spec_l3server.f a0_2).bind fun t258 => (if t258 = true then (if a0_1 = a0_2 then (spec_MsgOk.j0 k true a0_0 a0_1 a0_2 a0_3 a0_4 a0_5 l0_6 a0_7 a0_8) else (if a0_3 < 1 then (spec_MsgOk.j0 k true a0_0 a0_1 a0_2 a0_3 a0_4 a0_5 l0_6 a0_7 a0_8) else ((spec_l3term.f a0_3).bind fun t259 => (if t259 = true then ((spec_l3place.f a0_4).bind fun t260 => (if t260 = true then ((spec_l3term.f a0_5).bind fun t261 => (if t261 = true then (if a0_5 > a0_3 then (spec_MsgOk.j0 k true a0_0 a0_1 a0_2 a0_3 a0_4 a0_5 l0_6 a0_7 a0_8) else ((spec_l3place.f a0_7).bind fun t262 => (if t262 = true then (if (l0_6.length : Int) > 4 then (spec_MsgOk.j0 k true a0_0 a0_1 a0_2 a0_3 a0_4 a0_5 l0_6 a0_7 a0_8) else (spec_MsgOk.j0 k (decide ((l0_6.length : Int) > (wrap64 (400 - a0_4)))) a0_0 a0_1 a0_2 a0_3 a0_4 a0_5 l0_6 a0_7 a0_8)) else (spec_MsgOk.j0 k true a0_0 a0_1 a0_2 a0_3 a0_4 a0_5 l0_6 a0_7 a0_8)))) else (spec_MsgOk.j0 k true a0_0 a0_1 a0_2 a0_3 a0_4 a0_5 l0_6 a0_7 a0_8))) else (spec_MsgOk.j0 k true a0_0 a0_1 a0_2 a0_3 a0_4 a0_5 l0_6 a0_7 a0_8))) else (spec_MsgOk.j0 k true a0_0 a0_1 a0_2 a0_3 a0_4 a0_5 l0_6 a0_7 a0_8))))) else (spec_MsgOk.j0 k true a0_0 a0_1 a0_2 a0_3 a0_4 a0_5 l0_6 a0_7 a0_8))) else (spec_MsgOk.j0 k true a0_0 a0_1 a0_2 a0_3 a0_4 a0_5 l0_6 a0_7 a0_8)) = some r := H
  have A8 := Aside0.mk A80
  clear A80
  by_cases c9 : t257 = true
  ·subst c9
   have H1 : ((spec_l3server.f a0_2).bind fun t258 => (if t258 = true then (if a0_1 = a0_2 then (spec_MsgOk.j0 k true a0_0 a0_1 a0_2 a0_3 a0_4 a0_5 l0_6 a0_7 a0_8) else (if a0_3 < 1 then (spec_MsgOk.j0 k true a0_0 a0_1 a0_2 a0_3 a0_4 a0_5 l0_6 a0_7 a0_8) else ((spec_l3term.f a0_3).bind fun t259 => (if t259 = true then ((spec_l3place.f a0_4).bind fun t260 => (if t260 = true then ((spec_l3term.f a0_5).bind fun t261 => (if t261 = true then (if a0_5 > a0_3 then (spec_MsgOk.j0 k true a0_0 a0_1 a0_2 a0_3 a0_4 a0_5 l0_6 a0_7 a0_8) else ((spec_l3place.f a0_7).bind fun t262 => (if t262 = true then (if (l0_6.length : Int) > 4 then (spec_MsgOk.j0 k true a0_0 a0_1 a0_2 a0_3 a0_4 a0_5 l0_6 a0_7 a0_8) else (spec_MsgOk.j0 k (decide ((l0_6.length : Int) > (wrap64 (400 - a0_4)))) a0_0 a0_1 a0_2 a0_3 a0_4 a0_5 l0_6 a0_7 a0_8)) else (spec_MsgOk.j0 k true a0_0 a0_1 a0_2 a0_3 a0_4 a0_5 l0_6 a0_7 a0_8)))) else (spec_MsgOk.j0 k true a0_0 a0_1 a0_2 a0_3 a0_4 a0_5 l0_6 a0_7 a0_8))) else (spec_MsgOk.j0 k true a0_0 a0_1 a0_2 a0_3 a0_4 a0_5 l0_6 a0_7 a0_8))) else (spec_MsgOk.j0 k true a0_0 a0_1 a0_2 a0_3 a0_4 a0_5 l0_6 a0_7 a0_8))))) else (spec_MsgOk.j0 k true a0_0 a0_1 a0_2 a0_3 a0_4 a0_5 l0_6 a0_7 a0_8))) = some r := by rw [if_pos rfl] at H; exact H
   clear H
   have H := H1
   clear H1
   replace H := Option.bind_eq_some_iff.mp H
   obtain ⟨t258, A100, H⟩ := H
   replace H : (if t258 = true then (if a0_1 = a0_2 then (spec_MsgOk.j0 k true a0_0 a0_1 a0_2 a0_3 a0_4 a0_5 l0_6 a0_7 a0_8) else (if a0_3 < 1 then (spec_MsgOk.j0 k true a0_0 a0_1 a0_2 a0_3 a0_4 a0_5 l0_6 a0_7 a0_8) else ((spec_l3term.f a0_3).bind fun t259 => (if t259 = true then ((spec_l3place.f a0_4).bind fun t260 => (if t260 = true then ((spec_l3term.f a0_5).bind fun t261 => (if t261 = true then (if a0_5 > a0_3 then (spec_MsgOk.j0 k true a0_0 a0_1 a0_2 a0_3 a0_4 a0_5 l0_6 a0_7 a0_8) else ((spec_l3place.f a0_7).bind fun t262 => (if t262 = true then (if (l0_6.length : Int) > 4 then (spec_MsgOk.j0 k true a0_0 a0_1 a0_2 a0_3 a0_4 a0_5 l0_6 a0_7 a0_8) else (spec_MsgOk.j0 k (decide ((l0_6.length : Int) > (wrap64 (400 - a0_4)))) a0_0 a0_1 a0_2 a0_3 a0_4 a0_5 l0_6 a0_7 a0_8)) else (spec_MsgOk.j0 k true a0_0 a0_1 a0_2 a0_3 a0_4 a0_5 l0_6 a0_7 a0_8)))) else (spec_MsgOk.j0 k true a0_0 a0_1 a0_2 a0_3 a0_4 a0_5 l0_6 a0_7 a0_8))) else (spec_MsgOk.j0 k true a0_0 a0_1 a0_2 a0_3 a0_4 a0_5 l0_6 a0_7 a0_8))) else (spec_MsgOk.j0 k true a0_0 a0_1 a0_2 a0_3 a0_4 a0_5 l0_6 a0_7 a0_8))))) else (spec_MsgOk.j0 k true a0_0 a0_1 a0_2 a0_3 a0_4 a0_5 l0_6 a0_7 a0_8)) = some r := H
   have A10 := Aside0.mk A100
   clear A100
   by_cases c11 : t258 = true
   ·subst c11
    have H1 : (if a0_1 = a0_2 then (spec_MsgOk.j0 k true a0_0 a0_1 a0_2 a0_3 a0_4 a0_5 l0_6 a0_7 a0_8) else (if a0_3 < 1 then (spec_MsgOk.j0 k true a0_0 a0_1 a0_2 a0_3 a0_4 a0_5 l0_6 a0_7 a0_8) else ((spec_l3term.f a0_3).bind fun t259 => (if t259 = true then ((spec_l3place.f a0_4).bind fun t260 => (if t260 = true then ((spec_l3term.f a0_5).bind fun t261 => (if t261 = true then (if a0_5 > a0_3 then (spec_MsgOk.j0 k true a0_0 a0_1 a0_2 a0_3 a0_4 a0_5 l0_6 a0_7 a0_8) else ((spec_l3place.f a0_7).bind fun t262 => (if t262 = true then (if (l0_6.length : Int) > 4 then (spec_MsgOk.j0 k true a0_0 a0_1 a0_2 a0_3 a0_4 a0_5 l0_6 a0_7 a0_8) else (spec_MsgOk.j0 k (decide ((l0_6.length : Int) > (wrap64 (400 - a0_4)))) a0_0 a0_1 a0_2 a0_3 a0_4 a0_5 l0_6 a0_7 a0_8)) else (spec_MsgOk.j0 k true a0_0 a0_1 a0_2 a0_3 a0_4 a0_5 l0_6 a0_7 a0_8)))) else (spec_MsgOk.j0 k true a0_0 a0_1 a0_2 a0_3 a0_4 a0_5 l0_6 a0_7 a0_8))) else (spec_MsgOk.j0 k true a0_0 a0_1 a0_2 a0_3 a0_4 a0_5 l0_6 a0_7 a0_8))) else (spec_MsgOk.j0 k true a0_0 a0_1 a0_2 a0_3 a0_4 a0_5 l0_6 a0_7 a0_8))))) = some r := by rw [if_pos rfl] at H; exact H
    clear H
    have H := H1
    clear H1
    by_cases c12 : a0_1 = a0_2
    ·rw [if_pos c12] at H
     have c12b0 : (a0_1 == a0_2) = true := beq_iff_eq.mpr c12
     have c12b1 : (a0_1 != a0_2) = false := bne_eq_false_iff_eq.mpr c12
     clear c12
     as_aux_lemma =>
      have H' := Aside0.mk H
      clear H
      obtain ⟨hcz13_0, hcz13_1, hcz13_2, hcz13_3, hcz13_4, hcz13_5, hcz13_6, hcz13_7, hcz13_8, -⟩ := cells_9 BK256.out trivial
      obtain ⟨hfz13_0, hfz13_1, hfz13_2, hfz13_3, hfz13_4, hfz13_5, hfz13_6, hfz13_7, hfz13_8, -⟩ := frz_9 BK256.out
      go_wp2_with (first | (go_at_call 107; (with_reducible refine (spec_l3server.calls a0_1 true _ A8.out).mono ?_); rintro e w' ⟨rfl, ⟨nd, rfl⟩⟩) | (go_at_call 107; (with_reducible refine (spec_l3server.calls a0_2 true _ A10.out).mono ?_); rintro e w' ⟨rfl, ⟨nd, rfl⟩⟩))
      go_meet
      case rel => exact ⟨_, (true), rs_, H', ⟨by first | omega | exact Nat.le_refl _⟩, ⟨by (with_reducible repeat (first | refine blk_drewN ?_ _ | refine blk_drew ?_ | refine blk_alloc ?_ _)); exact BK256.out⟩, ⟨bel⟩⟩
    rw [if_neg c12] at H
    have c12b0 : (a0_1 == a0_2) = false := beq_eq_false_iff_ne.mpr c12
    have c12b1 : (a0_1 != a0_2) = true := bne_iff_ne.mpr c12
    by_cases c14 : a0_3 < 1
    ·rw [if_pos c14] at H
     have c14b0 : decide (a0_3 < 1) = true := decide_eq_true c14
     clear c14
     as_aux_lemma =>
      have H' := Aside0.mk H
      clear H
      obtain ⟨hcz15_0, hcz15_1, hcz15_2, hcz15_3, hcz15_4, hcz15_5, hcz15_6, hcz15_7, hcz15_8, -⟩ := cells_9 BK256.out trivial
      obtain ⟨hfz15_0, hfz15_1, hfz15_2, hfz15_3, hfz15_4, hfz15_5, hfz15_6, hfz15_7, hfz15_8, -⟩ := frz_9 BK256.out
      go_wp2_with (first | (go_at_call 107; (with_reducible refine (spec_l3server.calls a0_1 true _ A8.out).mono ?_); rintro e w' ⟨rfl, ⟨nd, rfl⟩⟩) | (go_at_call 107; (with_reducible refine (spec_l3server.calls a0_2 true _ A10.out).mono ?_); rintro e w' ⟨rfl, ⟨nd, rfl⟩⟩))
      go_meet
      case rel => exact ⟨_, (true), rs_, H', ⟨by first | omega | exact Nat.le_refl _⟩, ⟨by (with_reducible repeat (first | refine blk_drewN ?_ _ | refine blk_drew ?_ | refine blk_alloc ?_ _)); exact BK256.out⟩, ⟨bel⟩⟩
    rw [if_neg c14] at H
    have c14b0 : decide (a0_3 < 1) = false := decide_eq_false c14
    clear c14
    replace H := Option.bind_eq_some_iff.mp H
    obtain ⟨t259, A160, H⟩ := H
    replace H : (if t259 = true then ((spec_l3place.f a0_4).bind fun t260 => (if t260 = true then ((spec_l3term.f a0_5).bind fun t261 => (if t261 = true then (if a0_5 > a0_3 then (spec_MsgOk.j0 k true a0_0 a0_1 a0_2 a0_3 a0_4 a0_5 l0_6 a0_7 a0_8) else ((spec_l3place.f a0_7).bind fun t262 => (if t262 = true then (if (l0_6.length : Int) > 4 then (spec_MsgOk.j0 k true a0_0 a0_1 a0_2 a0_3 a0_4 a0_5 l0_6 a0_7 a0_8) else (spec_MsgOk.j0 k (decide ((l0_6.length : Int) > (wrap64 (400 - a0_4)))) a0_0 a0_1 a0_2 a0_3 a0_4 a0_5 l0_6 a0_7 a0_8)) else (spec_MsgOk.j0 k true a0_0 a0_1 a0_2 a0_3 a0_4 a0_5 l0_6 a0_7 a0_8)))) else (spec_MsgOk.j0 k true a0_0 a0_1 a0_2 a0_3 a0_4 a0_5 l0_6 a0_7 a0_8))) else (spec_MsgOk.j0 k true a0_0 a0_1 a0_2 a0_3 a0_4 a0_5 l0_6 a0_7 a0_8))) else (spec_MsgOk.j0 k true a0_0 a0_1 a0_2 a0_3 a0_4 a0_5 l0_6 a0_7 a0_8)) = some r := H
    have A16 := Aside0.mk A160
    clear A160
    by_cases c17 : t259 = true
    ·subst c17
     have H1 : ((spec_l3place.f a0_4).bind fun t260 => (if t260 = true then ((spec_l3term.f a0_5).bind fun t261 => (if t261 = true then (if a0_5 > a0_3 then (spec_MsgOk.j0 k true a0_0 a0_1 a0_2 a0_3 a0_4 a0_5 l0_6 a0_7 a0_8) else ((spec_l3place.f a0_7).bind fun t262 => (if t262 = true then (if (l0_6.length : Int) > 4 then (spec_MsgOk.j0 k true a0_0 a0_1 a0_2 a0_3 a0_4 a0_5 l0_6 a0_7 a0_8) else (spec_MsgOk.j0 k (decide ((l0_6.length : Int) > (wrap64 (400 - a0_4)))) a0_0 a0_1 a0_2 a0_3 a0_4 a0_5 l0_6 a0_7 a0_8)) else (spec_MsgOk.j0 k true a0_0 a0_1 a0_2 a0_3 a0_4 a0_5 l0_6 a0_7 a0_8)))) else (spec_MsgOk.j0 k true a0_0 a0_1 a0_2 a0_3 a0_4 a0_5 l0_6 a0_7 a0_8))) else (spec_MsgOk.j0 k true a0_0 a0_1 a0_2 a0_3 a0_4 a0_5 l0_6 a0_7 a0_8))) = some r := by rw [if_pos rfl] at H; exact H
     clear H
     have H := H1
     clear H1
     replace H := Option.bind_eq_some_iff.mp H
     obtain ⟨t260, A180, H⟩ := H
     replace H : (if t260 = true then ((spec_l3term.f a0_5).bind fun t261 => (if t261 = true then (if a0_5 > a0_3 then (spec_MsgOk.j0 k true a0_0 a0_1 a0_2 a0_3 a0_4 a0_5 l0_6 a0_7 a0_8) else ((spec_l3place.f a0_7).bind fun t262 => (if t262 = true then (if (l0_6.length : Int) > 4 then (spec_MsgOk.j0 k true a0_0 a0_1 a0_2 a0_3 a0_4 a0_5 l0_6 a0_7 a0_8) else (spec_MsgOk.j0 k (decide ((l0_6.length : Int) > (wrap64 (400 - a0_4)))) a0_0 a0_1 a0_2 a0_3 a0_4 a0_5 l0_6 a0_7 a0_8)) else (spec_MsgOk.j0 k true a0_0 a0_1 a0_2 a0_3 a0_4 a0_5 l0_6 a0_7 a0_8)))) else (spec_MsgOk.j0 k true a0_0 a0_1 a0_2 a0_3 a0_4 a0_5 l0_6 a0_7 a0_8))) else (spec_MsgOk.j0 k true a0_0 a0_1 a0_2 a0_3 a0_4 a0_5 l0_6 a0_7 a0_8)) = some r := H
     have A18 := Aside0.mk A180
     clear A180
     by_cases c19 : t260 = true
     ·subst c19
      have H1 : ((spec_l3term.f a0_5).bind fun t261 => (if t261 = true then (if a0_5 > a0_3 then (spec_MsgOk.j0 k true a0_0 a0_1 a0_2 a0_3 a0_4 a0_5 l0_6 a0_7 a0_8) else ((spec_l3place.f a0_7).bind fun t262 => (if t262 = true then (if (l0_6.length : Int) > 4 then (spec_MsgOk.j0 k true a0_0 a0_1 a0_2 a0_3 a0_4 a0_5 l0_6 a0_7 a0_8) else (spec_MsgOk.j0 k (decide ((l0_6.length : Int) > (wrap64 (400 - a0_4)))) a0_0 a0_1 a0_2 a0_3 a0_4 a0_5 l0_6 a0_7 a0_8)) else (spec_MsgOk.j0 k true a0_0 a0_1 a0_2 a0_3 a0_4 a0_5 l0_6 a0_7 a0_8)))) else (spec_MsgOk.j0 k true a0_0 a0_1 a0_2 a0_3 a0_4 a0_5 l0_6 a0_7 a0_8))) = some r := by rw [if_pos rfl] at H; exact H
      clear H
      have H := H1
      clear H1
      replace H := Option.bind_eq_some_iff.mp H
      obtain ⟨t261, A200, H⟩ := H
      replace H : (if t261 = true then (if a0_5 > a0_3 then (spec_MsgOk.j0 k true a0_0 a0_1 a0_2 a0_3 a0_4 a0_5 l0_6 a0_7 a0_8) else ((spec_l3place.f a0_7).bind fun t262 => (if t262 = true then (if (l0_6.length : Int) > 4 then (spec_MsgOk.j0 k true a0_0 a0_1 a0_2 a0_3 a0_4 a0_5 l0_6 a0_7 a0_8) else (spec_MsgOk.j0 k (decide ((l0_6.length : Int) > (wrap64 (400 - a0_4)))) a0_0 a0_1 a0_2 a0_3 a0_4 a0_5 l0_6 a0_7 a0_8)) else (spec_MsgOk.j0 k true a0_0 a0_1 a0_2 a0_3 a0_4 a0_5 l0_6 a0_7 a0_8)))) else (spec_MsgOk.j0 k true a0_0 a0_1 a0_2 a0_3 a0_4 a0_5 l0_6 a0_7 a0_8)) = some r := H
      have A20 := Aside0.mk A200
      clear A200
      by_cases c21 : t261 = true
      ·subst c21
       have H1 : (if a0_5 > a0_3 then (spec_MsgOk.j0 k true a0_0 a0_1 a0_2 a0_3 a0_4 a0_5 l0_6 a0_7 a0_8) else ((spec_l3place.f a0_7).bind fun t262 => (if t262 = true then (if (l0_6.length : Int) > 4 then (spec_MsgOk.j0 k true a0_0 a0_1 a0_2 a0_3 a0_4 a0_5 l0_6 a0_7 a0_8) else (spec_MsgOk.j0 k (decide ((l0_6.length : Int) > (wrap64 (400 - a0_4)))) a0_0 a0_1 a0_2 a0_3 a0_4 a0_5 l0_6 a0_7 a0_8)) else (spec_MsgOk.j0 k true a0_0 a0_1 a0_2 a0_3 a0_4 a0_5 l0_6 a0_7 a0_8)))) = some r := by rw [if_pos rfl] at H; exact H
       clear H
       have H := H1
       clear H1
       by_cases c22 : a0_5 > a0_3
       ·rw [if_pos c22] at H
        have c22b0 : decide (a0_3 < a0_5) = true := decide_eq_true c22
        clear c22
        as_aux_lemma =>
         have H' := Aside0.mk H
         clear H
         obtain ⟨hcz23_0, hcz23_1, hcz23_2, hcz23_3, hcz23_4, hcz23_5, hcz23_6, hcz23_7, hcz23_8, -⟩ := cells_9 BK256.out trivial
         obtain ⟨hfz23_0, hfz23_1, hfz23_2, hfz23_3, hfz23_4, hfz23_5, hfz23_6, hfz23_7, hfz23_8, -⟩ := frz_9 BK256.out
         go_wp2_with (first | (go_at_call 107; (with_reducible refine (spec_l3server.calls a0_1 true _ A8.out).mono ?_); rintro e w' ⟨rfl, ⟨nd, rfl⟩⟩) | (go_at_call 107; (with_reducible refine (spec_l3server.calls a0_2 true _ A10.out).mono ?_); rintro e w' ⟨rfl, ⟨nd, rfl⟩⟩) | (go_at_call 108; (with_reducible refine (spec_l3term.calls a0_3 true _ A16.out).mono ?_); rintro e w' ⟨rfl, ⟨nd, rfl⟩⟩) | (go_at_call 109; (with_reducible refine (spec_l3place.calls a0_4 true _ A18.out).mono ?_); rintro e w' ⟨rfl, ⟨nd, rfl⟩⟩) | (go_at_call 108; (with_reducible refine (spec_l3term.calls a0_5 true _ A20.out).mono ?_); rintro e w' ⟨rfl, ⟨nd, rfl⟩⟩))
         go_meet
         case rel => exact ⟨_, (true), rs_, H', ⟨by first | omega | exact Nat.le_refl _⟩, ⟨by (with_reducible repeat (first | refine blk_drewN ?_ _ | refine blk_drew ?_ | refine blk_alloc ?_ _)); exact BK256.out⟩, ⟨bel⟩⟩
       rw [if_neg c22] at H
       have c22b0 : decide (a0_3 < a0_5) = false := decide_eq_false c22
       clear c22
       replace H := Option.bind_eq_some_iff.mp H
       obtain ⟨t262, A240, H⟩ := H
       replace H : (if t262 = true then (if (l0_6.length : Int) > 4 then (spec_MsgOk.j0 k true a0_0 a0_1 a0_2 a0_3 a0_4 a0_5 l0_6 a0_7 a0_8) else (spec_MsgOk.j0 k (decide ((l0_6.length : Int) > (wrap64 (400 - a0_4)))) a0_0 a0_1 a0_2 a0_3 a0_4 a0_5 l0_6 a0_7 a0_8)) else (spec_MsgOk.j0 k true a0_0 a0_1 a0_2 a0_3 a0_4 a0_5 l0_6 a0_7 a0_8)) = some r := H
       have A24 := Aside0.mk A240
       clear A240
       by_cases c25 : t262 = true
       ·subst c25
        have H1 : (if (l0_6.length : Int) > 4 then (spec_MsgOk.j0 k true a0_0 a0_1 a0_2 a0_3 a0_4 a0_5 l0_6 a0_7 a0_8) else (spec_MsgOk.j0 k (decide ((l0_6.length : Int) > (wrap64 (400 - a0_4)))) a0_0 a0_1 a0_2 a0_3 a0_4 a0_5 l0_6 a0_7 a0_8)) = some r := by rw [if_pos rfl] at H; exact H
        clear H
        have H := H1
        clear H1
        by_cases c26 : (l0_6.length : Int) > 4
        ·rw [if_pos c26] at H
         have c26b0 : decide (4 < (l0_6.length : Int)) = true := decide_eq_true c26
         have c26b1 : decide (4 < l0_6.length) = true := decide_eq_true (by omega)
         clear c26
         as_aux_lemma =>
          have H' := Aside0.mk H
          clear H
          obtain ⟨hcz27_0, hcz27_1, hcz27_2, hcz27_3, hcz27_4, hcz27_5, hcz27_6, hcz27_7, hcz27_8, -⟩ := cells_9 BK256.out trivial
          obtain ⟨hfz27_0, hfz27_1, hfz27_2, hfz27_3, hfz27_4, hfz27_5, hfz27_6, hfz27_7, hfz27_8, -⟩ := frz_9 BK256.out
          go_wp2_with (first | (go_at_call 107; (with_reducible refine (spec_l3server.calls a0_1 true _ A8.out).mono ?_); rintro e w' ⟨rfl, ⟨nd, rfl⟩⟩) | (go_at_call 107; (with_reducible refine (spec_l3server.calls a0_2 true _ A10.out).mono ?_); rintro e w' ⟨rfl, ⟨nd, rfl⟩⟩) | (go_at_call 108; (with_reducible refine (spec_l3term.calls a0_3 true _ A16.out).mono ?_); rintro e w' ⟨rfl, ⟨nd, rfl⟩⟩) | (go_at_call 109; (with_reducible refine (spec_l3place.calls a0_4 true _ A18.out).mono ?_); rintro e w' ⟨rfl, ⟨nd, rfl⟩⟩) | (go_at_call 108; (with_reducible refine (spec_l3term.calls a0_5 true _ A20.out).mono ?_); rintro e w' ⟨rfl, ⟨nd, rfl⟩⟩) | (go_at_call 109; (with_reducible refine (spec_l3place.calls a0_7 true _ A24.out).mono ?_); rintro e w' ⟨rfl, ⟨nd, rfl⟩⟩))
          go_meet
          case rel => exact ⟨_, (true), rs_, H', ⟨by first | omega | exact Nat.le_refl _⟩, ⟨by (with_reducible repeat (first | refine blk_drewN ?_ _ | refine blk_drew ?_ | refine blk_alloc ?_ _)); exact BK256.out⟩, ⟨bel⟩⟩
        rw [if_neg c26] at H
        have c26b0 : decide (4 < (l0_6.length : Int)) = false := decide_eq_false c26
        have c26b1 : decide (4 < l0_6.length) = false := decide_eq_false (by omega)
        clear c26
        as_aux_lemma =>
         have H' := Aside0.mk H
         clear H
         obtain ⟨hcz28_0, hcz28_1, hcz28_2, hcz28_3, hcz28_4, hcz28_5, hcz28_6, hcz28_7, hcz28_8, -⟩ := cells_9 BK256.out trivial
         obtain ⟨hfz28_0, hfz28_1, hfz28_2, hfz28_3, hfz28_4, hfz28_5, hfz28_6, hfz28_7, hfz28_8, -⟩ := frz_9 BK256.out
         go_wp2_with (first | (go_at_call 107; (with_reducible refine (spec_l3server.calls a0_1 true _ A8.out).mono ?_); rintro e w' ⟨rfl, ⟨nd, rfl⟩⟩) | (go_at_call 107; (with_reducible refine (spec_l3server.calls a0_2 true _ A10.out).mono ?_); rintro e w' ⟨rfl, ⟨nd, rfl⟩⟩) | (go_at_call 108; (with_reducible refine (spec_l3term.calls a0_3 true _ A16.out).mono ?_); rintro e w' ⟨rfl, ⟨nd, rfl⟩⟩) | (go_at_call 109; (with_reducible refine (spec_l3place.calls a0_4 true _ A18.out).mono ?_); rintro e w' ⟨rfl, ⟨nd, rfl⟩⟩) | (go_at_call 108; (with_reducible refine (spec_l3term.calls a0_5 true _ A20.out).mono ?_); rintro e w' ⟨rfl, ⟨nd, rfl⟩⟩) | (go_at_call 109; (with_reducible refine (spec_l3place.calls a0_7 true _ A24.out).mono ?_); rintro e w' ⟨rfl, ⟨nd, rfl⟩⟩))
         go_meet
         case rel => exact ⟨_, (decide ((l0_6.length : Int) > (wrap64 (400 - a0_4)))), rs_, H', ⟨by first | omega | exact Nat.le_refl _⟩, ⟨by (with_reducible repeat (first | refine blk_drewN ?_ _ | refine blk_drew ?_ | refine blk_alloc ?_ _)); exact BK256.out⟩, ⟨bel⟩⟩
       replace c25 := Bool.eq_false_iff.mpr c25
       subst c25
       have H1 : (spec_MsgOk.j0 k true a0_0 a0_1 a0_2 a0_3 a0_4 a0_5 l0_6 a0_7 a0_8) = some r := by rw [if_neg (show ¬ (false = true) by decide)] at H; exact H
       clear H
       have H := H1
       clear H1
       as_aux_lemma =>
        have H' := Aside0.mk H
        clear H
        obtain ⟨hcz29_0, hcz29_1, hcz29_2, hcz29_3, hcz29_4, hcz29_5, hcz29_6, hcz29_7, hcz29_8, -⟩ := cells_9 BK256.out trivial
        obtain ⟨hfz29_0, hfz29_1, hfz29_2, hfz29_3, hfz29_4, hfz29_5, hfz29_6, hfz29_7, hfz29_8, -⟩ := frz_9 BK256.out
        go_wp2_with (first | (go_at_call 107; (with_reducible refine (spec_l3server.calls a0_1 true _ A8.out).mono ?_); rintro e w' ⟨rfl, ⟨nd, rfl⟩⟩) | (go_at_call 107; (with_reducible refine (spec_l3server.calls a0_2 true _ A10.out).mono ?_); rintro e w' ⟨rfl, ⟨nd, rfl⟩⟩) | (go_at_call 108; (with_reducible refine (spec_l3term.calls a0_3 true _ A16.out).mono ?_); rintro e w' ⟨rfl, ⟨nd, rfl⟩⟩) | (go_at_call 109; (with_reducible refine (spec_l3place.calls a0_4 true _ A18.out).mono ?_); rintro e w' ⟨rfl, ⟨nd, rfl⟩⟩) | (go_at_call 108; (with_reducible refine (spec_l3term.calls a0_5 true _ A20.out).mono ?_); rintro e w' ⟨rfl, ⟨nd, rfl⟩⟩) | (go_at_call 109; (with_reducible refine (spec_l3place.calls a0_7 false _ A24.out).mono ?_); rintro e w' ⟨rfl, ⟨nd, rfl⟩⟩))
        go_meet
        case rel => exact ⟨_, (true), rs_, H', ⟨by first | omega | exact Nat.le_refl _⟩, ⟨by (with_reducible repeat (first | refine blk_drewN ?_ _ | refine blk_drew ?_ | refine blk_alloc ?_ _)); exact BK256.out⟩, ⟨bel⟩⟩
      replace c21 := Bool.eq_false_iff.mpr c21
      subst c21
      have H1 : (spec_MsgOk.j0 k true a0_0 a0_1 a0_2 a0_3 a0_4 a0_5 l0_6 a0_7 a0_8) = some r := by rw [if_neg (show ¬ (false = true) by decide)] at H; exact H
      clear H
      have H := H1
      clear H1
      as_aux_lemma =>
       have H' := Aside0.mk H
       clear H
       obtain ⟨hcz30_0, hcz30_1, hcz30_2, hcz30_3, hcz30_4, hcz30_5, hcz30_6, hcz30_7, hcz30_8, -⟩ := cells_9 BK256.out trivial
       obtain ⟨hfz30_0, hfz30_1, hfz30_2, hfz30_3, hfz30_4, hfz30_5, hfz30_6, hfz30_7, hfz30_8, -⟩ := frz_9 BK256.out
       go_wp2_with (first | (go_at_call 107; (with_reducible refine (spec_l3server.calls a0_1 true _ A8.out).mono ?_); rintro e w' ⟨rfl, ⟨nd, rfl⟩⟩) | (go_at_call 107; (with_reducible refine (spec_l3server.calls a0_2 true _ A10.out).mono ?_); rintro e w' ⟨rfl, ⟨nd, rfl⟩⟩) | (go_at_call 108; (with_reducible refine (spec_l3term.calls a0_3 true _ A16.out).mono ?_); rintro e w' ⟨rfl, ⟨nd, rfl⟩⟩) | (go_at_call 109; (with_reducible refine (spec_l3place.calls a0_4 true _ A18.out).mono ?_); rintro e w' ⟨rfl, ⟨nd, rfl⟩⟩) | (go_at_call 108; (with_reducible refine (spec_l3term.calls a0_5 false _ A20.out).mono ?_); rintro e w' ⟨rfl, ⟨nd, rfl⟩⟩))
       go_meet
       case rel => exact ⟨_, (true), rs_, H', ⟨by first | omega | exact Nat.le_refl _⟩, ⟨by (with_reducible repeat (first | refine blk_drewN ?_ _ | refine blk_drew ?_ | refine blk_alloc ?_ _)); exact BK256.out⟩, ⟨bel⟩⟩
     replace c19 := Bool.eq_false_iff.mpr c19
     subst c19
     have H1 : (spec_MsgOk.j0 k true a0_0 a0_1 a0_2 a0_3 a0_4 a0_5 l0_6 a0_7 a0_8) = some r := by rw [if_neg (show ¬ (false = true) by decide)] at H; exact H
     clear H
     have H := H1
     clear H1
     as_aux_lemma =>
      have H' := Aside0.mk H
      clear H
      obtain ⟨hcz31_0, hcz31_1, hcz31_2, hcz31_3, hcz31_4, hcz31_5, hcz31_6, hcz31_7, hcz31_8, -⟩ := cells_9 BK256.out trivial
      obtain ⟨hfz31_0, hfz31_1, hfz31_2, hfz31_3, hfz31_4, hfz31_5, hfz31_6, hfz31_7, hfz31_8, -⟩ := frz_9 BK256.out
      go_wp2_with (first | (go_at_call 107; (with_reducible refine (spec_l3server.calls a0_1 true _ A8.out).mono ?_); rintro e w' ⟨rfl, ⟨nd, rfl⟩⟩) | (go_at_call 107; (with_reducible refine (spec_l3server.calls a0_2 true _ A10.out).mono ?_); rintro e w' ⟨rfl, ⟨nd, rfl⟩⟩) | (go_at_call 108; (with_reducible refine (spec_l3term.calls a0_3 true _ A16.out).mono ?_); rintro e w' ⟨rfl, ⟨nd, rfl⟩⟩) | (go_at_call 109; (with_reducible refine (spec_l3place.calls a0_4 false _ A18.out).mono ?_); rintro e w' ⟨rfl, ⟨nd, rfl⟩⟩))
      go_meet
      case rel => exact ⟨_, (true), rs_, H', ⟨by first | omega | exact Nat.le_refl _⟩, ⟨by (with_reducible repeat (first | refine blk_drewN ?_ _ | refine blk_drew ?_ | refine blk_alloc ?_ _)); exact BK256.out⟩, ⟨bel⟩⟩
    replace c17 := Bool.eq_false_iff.mpr c17
    subst c17
    have H1 : (spec_MsgOk.j0 k true a0_0 a0_1 a0_2 a0_3 a0_4 a0_5 l0_6 a0_7 a0_8) = some r := by rw [if_neg (show ¬ (false = true) by decide)] at H; exact H
    clear H
    have H := H1
    clear H1
    as_aux_lemma =>
     have H' := Aside0.mk H
     clear H
     obtain ⟨hcz32_0, hcz32_1, hcz32_2, hcz32_3, hcz32_4, hcz32_5, hcz32_6, hcz32_7, hcz32_8, -⟩ := cells_9 BK256.out trivial
     obtain ⟨hfz32_0, hfz32_1, hfz32_2, hfz32_3, hfz32_4, hfz32_5, hfz32_6, hfz32_7, hfz32_8, -⟩ := frz_9 BK256.out
     go_wp2_with (first | (go_at_call 107; (with_reducible refine (spec_l3server.calls a0_1 true _ A8.out).mono ?_); rintro e w' ⟨rfl, ⟨nd, rfl⟩⟩) | (go_at_call 107; (with_reducible refine (spec_l3server.calls a0_2 true _ A10.out).mono ?_); rintro e w' ⟨rfl, ⟨nd, rfl⟩⟩) | (go_at_call 108; (with_reducible refine (spec_l3term.calls a0_3 false _ A16.out).mono ?_); rintro e w' ⟨rfl, ⟨nd, rfl⟩⟩))
     go_meet
     case rel => exact ⟨_, (true), rs_, H', ⟨by first | omega | exact Nat.le_refl _⟩, ⟨by (with_reducible repeat (first | refine blk_drewN ?_ _ | refine blk_drew ?_ | refine blk_alloc ?_ _)); exact BK256.out⟩, ⟨bel⟩⟩
   replace c11 := Bool.eq_false_iff.mpr c11
   subst c11
   have H1 : (spec_MsgOk.j0 k true a0_0 a0_1 a0_2 a0_3 a0_4 a0_5 l0_6 a0_7 a0_8) = some r := by rw [if_neg (show ¬ (false = true) by decide)] at H; exact H
   clear H
   have H := H1
   clear H1
   as_aux_lemma =>
    have H' := Aside0.mk H
    clear H
    obtain ⟨hcz33_0, hcz33_1, hcz33_2, hcz33_3, hcz33_4, hcz33_5, hcz33_6, hcz33_7, hcz33_8, -⟩ := cells_9 BK256.out trivial
    obtain ⟨hfz33_0, hfz33_1, hfz33_2, hfz33_3, hfz33_4, hfz33_5, hfz33_6, hfz33_7, hfz33_8, -⟩ := frz_9 BK256.out
    go_wp2_with (first | (go_at_call 107; (with_reducible refine (spec_l3server.calls a0_1 true _ A8.out).mono ?_); rintro e w' ⟨rfl, ⟨nd, rfl⟩⟩) | (go_at_call 107; (with_reducible refine (spec_l3server.calls a0_2 false _ A10.out).mono ?_); rintro e w' ⟨rfl, ⟨nd, rfl⟩⟩))
    go_meet
    case rel => exact ⟨_, (true), rs_, H', ⟨by first | omega | exact Nat.le_refl _⟩, ⟨by (with_reducible repeat (first | refine blk_drewN ?_ _ | refine blk_drew ?_ | refine blk_alloc ?_ _)); exact BK256.out⟩, ⟨bel⟩⟩
  replace c9 := Bool.eq_false_iff.mpr c9
  subst c9
  have H1 : (spec_MsgOk.j0 k true a0_0 a0_1 a0_2 a0_3 a0_4 a0_5 l0_6 a0_7 a0_8) = some r := by rw [if_neg (show ¬ (false = true) by decide)] at H; exact H
  clear H
  have H := H1
  clear H1
  as_aux_lemma =>
   have H' := Aside0.mk H
   clear H
   obtain ⟨hcz34_0, hcz34_1, hcz34_2, hcz34_3, hcz34_4, hcz34_5, hcz34_6, hcz34_7, hcz34_8, -⟩ := cells_9 BK256.out trivial
   obtain ⟨hfz34_0, hfz34_1, hfz34_2, hfz34_3, hfz34_4, hfz34_5, hfz34_6, hfz34_7, hfz34_8, -⟩ := frz_9 BK256.out
   go_wp2_with (first | (go_at_call 107; (with_reducible refine (spec_l3server.calls a0_1 false _ A8.out).mono ?_); rintro e w' ⟨rfl, ⟨nd, rfl⟩⟩))
   go_meet
   case rel => exact ⟨_, (true), rs_, H', ⟨by first | omega | exact Nat.le_refl _⟩, ⟨by (with_reducible repeat (first | refine blk_drewN ?_ _ | refine blk_drew ?_ | refine blk_alloc ?_ _)); exact BK256.out⟩, ⟨bel⟩⟩
 case rest =>
  clear HC2
  try clear c1; try clear c2; try clear p2; try clear c4; try clear c4b0; try clear c6; try clear c6b0; try clear p6; try clear c9; try clear c11; try clear c12; try clear c12b0; try clear c12b1; try clear c14; try clear c14b0; try clear c17; try clear c19; try clear c21; try clear c22; try clear c22b0; try clear c25; try clear c26; try clear c26b0; try clear c26b1; try clear c27; try clear hcz13_0; try clear hcz13_1; try clear hcz13_2; try clear hcz13_3; try clear hcz13_4; try clear hcz13_5; try clear hcz13_6; try clear hcz13_7; try clear hcz13_8; try clear hcz15_0; try clear hcz15_1; try clear hcz15_2; try clear hcz15_3; try clear hcz15_4; try clear hcz15_5; try clear hcz15_6; try clear hcz15_7; try clear hcz15_8; try clear hcz23_0; try clear hcz23_1; try clear hcz23_2; try clear hcz23_3; try clear hcz23_4; try clear hcz23_5; try clear hcz23_6; try clear hcz23_7; try clear hcz23_8; try clear hcz27_0; try clear hcz27_1; try clear hcz27_2; try clear hcz27_3; try clear hcz27_4; try clear hcz27_5; try clear hcz27_6; try clear hcz27_7; try clear hcz27_8; try clear hcz28_0; try clear hcz28_1; try clear hcz28_2; try clear hcz28_3; try clear hcz28_4; try clear hcz28_5; try clear hcz28_6; try clear hcz28_7; try clear hcz28_8; try clear hcz29_0; try clear hcz29_1; try clear hcz29_2; try clear hcz29_3; try clear hcz29_4; try clear hcz29_5; try clear hcz29_6; try clear hcz29_7; try clear hcz29_8; try clear hcz30_0; try clear hcz30_1; try clear hcz30_2; try clear hcz30_3; try clear hcz30_4; try clear hcz30_5; try clear hcz30_6; try clear hcz30_7; try clear hcz30_8; try clear hcz31_0; try clear hcz31_1; try clear hcz31_2; try clear hcz31_3; try clear hcz31_4; try clear hcz31_5; try clear hcz31_6; try clear hcz31_7; try clear hcz31_8; try clear hcz32_0; try clear hcz32_1; try clear hcz32_2; try clear hcz32_3; try clear hcz32_4; try clear hcz32_5; try clear hcz32_6; try clear hcz32_7; try clear hcz32_8; try clear hcz33_0; try clear hcz33_1; try clear hcz33_2; try clear hcz33_3; try clear hcz33_4; try clear hcz33_5; try clear hcz33_6; try clear hcz33_7; try clear hcz33_8; try clear hcz34_0; try clear hcz34_1; try clear hcz34_2; try clear hcz34_3; try clear hcz34_4; try clear hcz34_5; try clear hcz34_6; try clear hcz34_7; try clear hcz34_8; try clear hcz5_0; try clear hcz5_1; try clear hcz5_2; try clear hcz5_3; try clear hcz5_4; try clear hcz5_5; try clear hcz5_6; try clear hcz5_7; try clear hcz5_8; try clear hcz7_0; try clear hcz7_1; try clear hcz7_2; try clear hcz7_3; try clear hcz7_4; try clear hcz7_5; try clear hcz7_6; try clear hcz7_7; try clear hcz7_8; try clear hfz13_0; try clear hfz13_1; try clear hfz13_2; try clear hfz13_3; try clear hfz13_4; try clear hfz13_5; try clear hfz13_6; try clear hfz13_7; try clear hfz13_8; try clear hfz15_0; try clear hfz15_1; try clear hfz15_2; try clear hfz15_3; try clear hfz15_4; try clear hfz15_5; try clear hfz15_6; try clear hfz15_7; try clear hfz15_8; try clear hfz23_0; try clear hfz23_1; try clear hfz23_2; try clear hfz23_3; try clear hfz23_4; try clear hfz23_5; try clear hfz23_6; try clear hfz23_7; try clear hfz23_8; try clear hfz27_0; try clear hfz27_1; try clear hfz27_2; try clear hfz27_3; try clear hfz27_4; try clear hfz27_5; try clear hfz27_6; try clear hfz27_7; try clear hfz27_8; try clear hfz28_0; try clear hfz28_1; try clear hfz28_2; try clear hfz28_3; try clear hfz28_4; try clear hfz28_5; try clear hfz28_6; try clear hfz28_7; try clear hfz28_8; try clear hfz29_0; try clear hfz29_1; try clear hfz29_2; try clear hfz29_3; try clear hfz29_4; try clear hfz29_5; try clear hfz29_6; try clear hfz29_7; try clear hfz29_8; try clear hfz30_0; try clear hfz30_1; try clear hfz30_2; try clear hfz30_3; try clear hfz30_4; try clear hfz30_5; try clear hfz30_6; try clear hfz30_7; try clear hfz30_8; try clear hfz31_0; try clear hfz31_1; try clear hfz31_2; try clear hfz31_3; try clear hfz31_4; try clear hfz31_5; try clear hfz31_6; try clear hfz31_7; try clear hfz31_8; try clear hfz32_0; try clear hfz32_1; try clear hfz32_2; try clear hfz32_3; try clear hfz32_4; try clear hfz32_5; try clear hfz32_6; try clear hfz32_7; try clear hfz32_8; try clear hfz33_0; try clear hfz33_1; try clear hfz33_2; try clear hfz33_3; try clear hfz33_4; try clear hfz33_5; try clear hfz33_6; try clear hfz33_7; try clear hfz33_8; try clear hfz34_0; try clear hfz34_1; try clear hfz34_2; try clear hfz34_3; try clear hfz34_4; try clear hfz34_5; try clear hfz34_6; try clear hfz34_7; try clear hfz34_8; try clear hfz5_0; try clear hfz5_1; try clear hfz5_2; try clear hfz5_3; try clear hfz5_4; try clear hfz5_5; try clear hfz5_6; try clear hfz5_7; try clear hfz5_8; try clear hfz7_0; try clear hfz7_1; try clear hfz7_2; try clear hfz7_3; try clear hfz7_4; try clear hfz7_5; try clear hfz7_6; try clear hfz7_7; try clear hfz7_8
  obtain ⟨kq, x81_1, rfl, HA, HJ1, BK256, HB⟩ := hcut
  cases kq with
  | zero => exact absurd HA.out (by simp [spec_MsgOk.j0])
  | succ kj1 =>
   have H := HA.out
   clear HA
   simp only [spec_MsgOk.j0] at H
   by_cases c35 : x81_1 = true
   ·subst c35
    have H1 : (some false) = some r := by rw [if_pos rfl] at H; exact H
    clear H
    have H := H1
    clear H1
    as_aux_lemma =>
     obtain rfl := Option.some.inj H
     go_wp2
     go_ret
     exact ⟨rz_, bel⟩
   replace c35 := Bool.eq_false_iff.mpr c35
   subst c35
   have H1 : (if ((a0_4 == 0) != (a0_5 == 0)) = true then (if a0_0 = 3 then (spec_MsgOk.j1 kj1 false a0_0 a0_1 a0_2 a0_3 a0_4 a0_5 l0_6 a0_7 a0_8) else (spec_MsgOk.j1 kj1 (a0_0 != 1) a0_0 a0_1 a0_2 a0_3 a0_4 a0_5 l0_6 a0_7 a0_8)) else (spec_MsgOk.j1 kj1 false a0_0 a0_1 a0_2 a0_3 a0_4 a0_5 l0_6 a0_7 a0_8)) = some r := by rw [if_neg (show ¬ (false = true) by decide)] at H; exact H
   clear H
   have H := H1
   clear H1
   have HC36 := Aside0.mk H
   clear H
   go_upto_region 3 with (fail)
   go_cut [98] (fun v98 wc => ∃ (kq : Nat) (x98_35 : Bool), v98 = .bool x98_35 ∧ Aside0 (spec_MsgOk.j1 kq x98_35 a0_0 a0_1 a0_2 a0_3 a0_4 a0_5 l0_6 a0_7 a0_8 = some r) ∧ Aside0 (kq ≤ kj1) ∧ Aside0 (wc.heap[gb256]? = some (.cells #[.int .i64 a0_0, .int .i64 a0_1, .int .i64 a0_2, .int .i64 a0_3, .int .i64 a0_4, .int .i64 a0_5, (.slice A0_6 l0_6.length c0_6), .int .i64 a0_7, .bool a0_8] 54 (0, 0))) ∧ Aside0 (Below w.heap.size w wc))
   case first =>
    have H := HC36.out
    clear HC36
    by_cases c37 : ((a0_4 == 0) != (a0_5 == 0)) = true
    ·rw [if_pos c37] at H
     have c37b0 : ((a0_4 == 0) != (a0_5 == 0)) = true := c37
     (try (have c37b1 : decide ((a0_4 == 0) = (a0_5 == 0)) = false := by simpa using c37))
     (try (have c37b2 : ((a0_4 == 0) == (a0_5 == 0)) = false := by simpa using c37))
     (try (have c37b3 : ¬ ((a0_4 == 0) = (a0_5 == 0)) := by simpa using c37))
     clear c37
     (first | rw [c37b0] | (simp only [i64_w, i32_w]; rw [c37b0]) | skip)
     by_cases c38 : a0_0 = 3
     ·rw [if_pos c38] at H
      have c38b0 : (a0_0 == 3) = true := beq_iff_eq.mpr c38
      have c38b1 : (a0_0 != 3) = false := bne_eq_false_iff_eq.mpr c38
      clear c38
      as_aux_lemma =>
       have H' := Aside0.mk H
       clear H
       obtain ⟨hcz39_0, hcz39_1, hcz39_2, hcz39_3, hcz39_4, hcz39_5, hcz39_6, hcz39_7, hcz39_8, -⟩ := cells_9 BK256.out trivial
       obtain ⟨hfz39_0, hfz39_1, hfz39_2, hfz39_3, hfz39_4, hfz39_5, hfz39_6, hfz39_7, hfz39_8, -⟩ := frz_9 BK256.out
       go_wp2
       go_meet
       case rel => exact ⟨_, (false), rs_, H', ⟨by have := HJ1.out; first | omega | exact Nat.le_refl _⟩, ⟨by (with_reducible repeat (first | refine blk_drewN ?_ _ | refine blk_drew ?_ | refine blk_alloc ?_ _)); exact BK256.out⟩, ⟨bel⟩⟩
     rw [if_neg c38] at H
     have c38b0 : (a0_0 == 3) = false := beq_eq_false_iff_ne.mpr c38
     have c38b1 : (a0_0 != 3) = true := bne_iff_ne.mpr c38
     as_aux_lemma =>
      have H' := Aside0.mk H
      clear H
      obtain ⟨hcz40_0, hcz40_1, hcz40_2, hcz40_3, hcz40_4, hcz40_5, hcz40_6, hcz40_7, hcz40_8, -⟩ := cells_9 BK256.out trivial
      obtain ⟨hfz40_0, hfz40_1, hfz40_2, hfz40_3, hfz40_4, hfz40_5, hfz40_6, hfz40_7, hfz40_8, -⟩ := frz_9 BK256.out
      go_wp2
      go_meet
      case rel => exact ⟨_, ((a0_0 != 1)), rs_, H', ⟨by have := HJ1.out; first | omega | exact Nat.le_refl _⟩, ⟨by (with_reducible repeat (first | refine blk_drewN ?_ _ | refine blk_drew ?_ | refine blk_alloc ?_ _)); exact BK256.out⟩, ⟨bel⟩⟩
    rw [if_neg c37] at H
    have c37b0 : ((a0_4 == 0) != (a0_5 == 0)) = false := by simpa using c37
    (try (have c37b1 : decide ((a0_4 == 0) = (a0_5 == 0)) = true := by simpa using c37))
    (try (have c37b2 : ((a0_4 == 0) == (a0_5 == 0)) = true := by simpa using c37))
    clear c37
    (first | rw [c37b0] | (simp only [i64_w, i32_w]; rw [c37b0]) | skip)
    as_aux_lemma =>
     have H' := Aside0.mk H
     clear H
     obtain ⟨hcz41_0, hcz41_1, hcz41_2, hcz41_3, hcz41_4, hcz41_5, hcz41_6, hcz41_7, hcz41_8, -⟩ := cells_9 BK256.out trivial
     obtain ⟨hfz41_0, hfz41_1, hfz41_2, hfz41_3, hfz41_4, hfz41_5, hfz41_6, hfz41_7, hfz41_8, -⟩ := frz_9 BK256.out
     go_wp2
     go_meet
     case rel => exact ⟨_, (false), rs_, H', ⟨by have := HJ1.out; first | omega | exact Nat.le_refl _⟩, ⟨by (with_reducible repeat (first | refine blk_drewN ?_ _ | refine blk_drew ?_ | refine blk_alloc ?_ _)); exact BK256.out⟩, ⟨bel⟩⟩
   case rest =>
    clear HC36
    try clear c1; try clear c2; try clear p2; try clear c3; try clear c4; try clear c4b0; try clear c6; try clear c6b0; try clear p6; try clear c9; try clear c11; try clear c12; try clear c12b0; try clear c12b1; try clear c14; try clear c14b0; try clear c17; try clear c19; try clear c21; try clear c22; try clear c22b0; try clear c25; try clear c26; try clear c26b0; try clear c26b1; try clear c27; try clear c35; try clear c37; try clear c37b0; try clear c37b1; try clear c37b2; try clear c38; try clear c38b0; try clear c38b1; try clear hcz13_0; try clear hcz13_1; try clear hcz13_2; try clear hcz13_3; try clear hcz13_4; try clear hcz13_5; try clear hcz13_6; try clear hcz13_7; try clear hcz13_8; try clear hcz15_0; try clear hcz15_1; try clear hcz15_2; try clear hcz15_3; try clear hcz15_4; try clear hcz15_5; try clear hcz15_6; try clear hcz15_7; try clear hcz15_8; try clear hcz23_0; try clear hcz23_1; try clear hcz23_2; try clear hcz23_3; try clear hcz23_4; try clear hcz23_5; try clear hcz23_6; try clear hcz23_7; try clear hcz23_8; try clear hcz27_0; try clear hcz27_1; try clear hcz27_2; try clear hcz27_3; try clear hcz27_4; try clear hcz27_5; try clear hcz27_6; try clear hcz27_7; try clear hcz27_8; try clear hcz28_0; try clear hcz28_1; try clear hcz28_2; try clear hcz28_3; try clear hcz28_4; try clear hcz28_5; try clear hcz28_6; try clear hcz28_7; try clear hcz28_8; try clear hcz29_0; try clear hcz29_1; try clear hcz29_2; try clear hcz29_3; try clear hcz29_4; try clear hcz29_5; try clear hcz29_6; try clear hcz29_7; try clear hcz29_8; try clear hcz30_0; try clear hcz30_1; try clear hcz30_2; try clear hcz30_3; try clear hcz30_4; try clear hcz30_5; try clear hcz30_6; try clear hcz30_7; try clear hcz30_8; try clear hcz31_0; try clear hcz31_1; try clear hcz31_2; try clear hcz31_3; try clear hcz31_4; try clear hcz31_5; try clear hcz31_6; try clear hcz31_7; try clear hcz31_8; try clear hcz32_0; try clear hcz32_1; try clear hcz32_2; try clear hcz32_3; try clear hcz32_4; try clear hcz32_5; try clear hcz32_6; try clear hcz32_7; try clear hcz32_8; try clear hcz33_0; try clear hcz33_1; try clear hcz33_2; try clear hcz33_3; try clear hcz33_4; try clear hcz33_5; try clear hcz33_6; try clear hcz33_7; try clear hcz33_8; try clear hcz34_0; try clear hcz34_1; try clear hcz34_2; try clear hcz34_3; try clear hcz34_4; try clear hcz34_5; try clear hcz34_6; try clear hcz34_7; try clear hcz34_8; try clear hcz39_0; try clear hcz39_1; try clear hcz39_2; try clear hcz39_3; try clear hcz39_4; try clear hcz39_5; try clear hcz39_6; try clear hcz39_7; try clear hcz39_8; try clear hcz40_0; try clear hcz40_1; try clear hcz40_2; try clear hcz40_3; try clear hcz40_4; try clear hcz40_5; try clear hcz40_6; try clear hcz40_7; try clear hcz40_8; try clear hcz41_0; try clear hcz41_1; try clear hcz41_2; try clear hcz41_3; try clear hcz41_4; try clear hcz41_5; try clear hcz41_6; try clear hcz41_7; try clear hcz41_8; try clear hcz5_0; try clear hcz5_1; try clear hcz5_2; try clear hcz5_3; try clear hcz5_4; try clear hcz5_5; try clear hcz5_6; try clear hcz5_7; try clear hcz5_8; try clear hcz7_0; try clear hcz7_1; try clear hcz7_2; try clear hcz7_3; try clear hcz7_4; try clear hcz7_5; try clear hcz7_6; try clear hcz7_7; try clear hcz7_8; try clear hfz13_0; try clear hfz13_1; try clear hfz13_2; try clear hfz13_3; try clear hfz13_4; try clear hfz13_5; try clear hfz13_6; try clear hfz13_7; try clear hfz13_8; try clear hfz15_0; try clear hfz15_1; try clear hfz15_2; try clear hfz15_3; try clear hfz15_4; try clear hfz15_5; try clear hfz15_6; try clear hfz15_7; try clear hfz15_8; try clear hfz23_0; try clear hfz23_1; try clear hfz23_2; try clear hfz23_3; try clear hfz23_4; try clear hfz23_5; try clear hfz23_6; try clear hfz23_7; try clear hfz23_8; try clear hfz27_0; try clear hfz27_1; try clear hfz27_2; try clear hfz27_3; try clear hfz27_4; try clear hfz27_5; try clear hfz27_6; try clear hfz27_7; try clear hfz27_8; try clear hfz28_0; try clear hfz28_1; try clear hfz28_2; try clear hfz28_3; try clear hfz28_4; try clear hfz28_5; try clear hfz28_6; try clear hfz28_7; try clear hfz28_8; try clear hfz29_0; try clear hfz29_1; try clear hfz29_2; try clear hfz29_3; try clear hfz29_4; try clear hfz29_5; try clear hfz29_6; try clear hfz29_7; try clear hfz29_8; try clear hfz30_0; try clear hfz30_1; try clear hfz30_2; try clear hfz30_3; try clear hfz30_4; try clear hfz30_5; try clear hfz30_6; try clear hfz30_7; try clear hfz30_8; try clear hfz31_0; try clear hfz31_1; try clear hfz31_2; try clear hfz31_3; try clear hfz31_4; try clear hfz31_5; try clear hfz31_6; try clear hfz31_7; try clear hfz31_8; try clear hfz32_0; try clear hfz32_1; try clear hfz32_2; try clear hfz32_3; try clear hfz32_4; try clear hfz32_5; try clear hfz32_6; try clear hfz32_7; try clear hfz32_8; try clear hfz33_0; try clear hfz33_1; try clear hfz33_2; try clear hfz33_3; try clear hfz33_4; try clear hfz33_5; try clear hfz33_6; try clear hfz33_7; try clear hfz33_8; try clear hfz34_0; try clear hfz34_1; try clear hfz34_2; try clear hfz34_3; try clear hfz34_4; try clear hfz34_5; try clear hfz34_6; try clear hfz34_7; try clear hfz34_8; try clear hfz39_0; try clear hfz39_1; try clear hfz39_2; try clear hfz39_3; try clear hfz39_4; try clear hfz39_5; try clear hfz39_6; try clear hfz39_7; try clear hfz39_8; try clear hfz40_0; try clear hfz40_1; try clear hfz40_2; try clear hfz40_3; try clear hfz40_4; try clear hfz40_5; try clear hfz40_6; try clear hfz40_7; try clear hfz40_8; try clear hfz41_0; try clear hfz41_1; try clear hfz41_2; try clear hfz41_3; try clear hfz41_4; try clear hfz41_5; try clear hfz41_6; try clear hfz41_7; try clear hfz41_8; try clear hfz5_0; try clear hfz5_1; try clear hfz5_2; try clear hfz5_3; try clear hfz5_4; try clear hfz5_5; try clear hfz5_6; try clear hfz5_7; try clear hfz5_8; try clear hfz7_0; try clear hfz7_1; try clear hfz7_2; try clear hfz7_3; try clear hfz7_4; try clear hfz7_5; try clear hfz7_6; try clear hfz7_7; try clear hfz7_8; try clear p2; try clear p6
    obtain ⟨kq, x98_35, rfl, HA, HJ35, BK256, HB⟩ := hcut
    cases kq with
    | zero => exact absurd HA.out (by simp [spec_MsgOk.j1])
    | succ kj35 =>
     have H := HA.out
     clear HA
     simp only [spec_MsgOk.j1] at H
     by_cases c42 : x98_35 = true
     ·subst c42
      have H1 : (some false) = some r := by rw [if_pos rfl] at H; exact H
      clear H
      have H := H1
      clear H1
      as_aux_lemma =>
       obtain rfl := Option.some.inj H
       go_wp2
       go_ret
       exact ⟨rz_, bel⟩
     replace c42 := Bool.eq_false_iff.mpr c42
     subst c42
     have H1 : (spec_MsgOk.l0 kj35 0 a0_0 a0_1 a0_2 a0_3 a0_4 a0_5 l0_6 a0_7 a0_8) = some r := by rw [if_neg (show ¬ (false = true) by decide)] at H; exact H
     clear H
     have H := H1
     clear H1
     have H' := Aside0.mk H
     clear H
     go_wp2
     go_loopg [3] kj35 (fun kq v3 w' => ∃ (x3_3 : Int), v3 = .int .i64 x3_3 ∧ Aside0 (spec_MsgOk.l0 kq x3_3 a0_0 a0_1 a0_2 a0_3 a0_4 a0_5 l0_6 a0_7 a0_8 = some r) ∧ Aside0 (kq ≤ kj35) ∧ Aside0 (w'.heap[gb256]? = some (.cells #[.int .i64 a0_0, .int .i64 a0_1, .int .i64 a0_2, .int .i64 a0_3, .int .i64 a0_4, .int .i64 a0_5, (.slice A0_6 l0_6.length c0_6), .int .i64 a0_7, .bool a0_8] 54 (0, 0))) ∧ Aside0 (Below w.heap.size w w'))
     case atStart => exact ⟨(0), rs_, H', ⟨Nat.le_refl _⟩, ⟨by (with_reducible repeat (first | refine blk_drewN ?_ _ | refine blk_drew ?_ | refine blk_alloc ?_ _)); exact BK256.out⟩, ⟨bel⟩⟩
     case round =>
      clear H'
      try clear c1; try clear c2; try clear p2; try clear c3; try clear c4; try clear c4b0; try clear c6; try clear c6b0; try clear p6; try clear c9; try clear c11; try clear c12; try clear c12b0; try clear c12b1; try clear c14; try clear c14b0; try clear c17; try clear c19; try clear c21; try clear c22; try clear c22b0; try clear c25; try clear c26; try clear c26b0; try clear c26b1; try clear c27; try clear c35; try clear c37; try clear c37b0; try clear c37b1; try clear c37b2; try clear c38; try clear c38b0; try clear c38b1; try clear c42; try clear hcz13_0; try clear hcz13_1; try clear hcz13_2; try clear hcz13_3; try clear hcz13_4; try clear hcz13_5; try clear hcz13_6; try clear hcz13_7; try clear hcz13_8; try clear hcz15_0; try clear hcz15_1; try clear hcz15_2; try clear hcz15_3; try clear hcz15_4; try clear hcz15_5; try clear hcz15_6; try clear hcz15_7; try clear hcz15_8; try clear hcz23_0; try clear hcz23_1; try clear hcz23_2; try clear hcz23_3; try clear hcz23_4; try clear hcz23_5; try clear hcz23_6; try clear hcz23_7; try clear hcz23_8; try clear hcz27_0; try clear hcz27_1; try clear hcz27_2; try clear hcz27_3; try clear hcz27_4; try clear hcz27_5; try clear hcz27_6; try clear hcz27_7; try clear hcz27_8; try clear hcz28_0; try clear hcz28_1; try clear hcz28_2; try clear hcz28_3; try clear hcz28_4; try clear hcz28_5; try clear hcz28_6; try clear hcz28_7; try clear hcz28_8; try clear hcz29_0; try clear hcz29_1; try clear hcz29_2; try clear hcz29_3; try clear hcz29_4; try clear hcz29_5; try clear hcz29_6; try clear hcz29_7; try clear hcz29_8; try clear hcz30_0; try clear hcz30_1; try clear hcz30_2; try clear hcz30_3; try clear hcz30_4; try clear hcz30_5; try clear hcz30_6; try clear hcz30_7; try clear hcz30_8; try clear hcz31_0; try clear hcz31_1; try clear hcz31_2; try clear hcz31_3; try clear hcz31_4; try clear hcz31_5; try clear hcz31_6; try clear hcz31_7; try clear hcz31_8; try clear hcz32_0; try clear hcz32_1; try clear hcz32_2; try clear hcz32_3; try clear hcz32_4; try clear hcz32_5; try clear hcz32_6; try clear hcz32_7; try clear hcz32_8; try clear hcz33_0; try clear hcz33_1; try clear hcz33_2; try clear hcz33_3; try clear hcz33_4; try clear hcz33_5; try clear hcz33_6; try clear hcz33_7; try clear hcz33_8; try clear hcz34_0; try clear hcz34_1; try clear hcz34_2; try clear hcz34_3; try clear hcz34_4; try clear hcz34_5; try clear hcz34_6; try clear hcz34_7; try clear hcz34_8; try clear hcz39_0; try clear hcz39_1; try clear hcz39_2; try clear hcz39_3; try clear hcz39_4; try clear hcz39_5; try clear hcz39_6; try clear hcz39_7; try clear hcz39_8; try clear hcz40_0; try clear hcz40_1; try clear hcz40_2; try clear hcz40_3; try clear hcz40_4; try clear hcz40_5; try clear hcz40_6; try clear hcz40_7; try clear hcz40_8; try clear hcz41_0; try clear hcz41_1; try clear hcz41_2; try clear hcz41_3; try clear hcz41_4; try clear hcz41_5; try clear hcz41_6; try clear hcz41_7; try clear hcz41_8; try clear hcz5_0; try clear hcz5_1; try clear hcz5_2; try clear hcz5_3; try clear hcz5_4; try clear hcz5_5; try clear hcz5_6; try clear hcz5_7; try clear hcz5_8; try clear hcz7_0; try clear hcz7_1; try clear hcz7_2; try clear hcz7_3; try clear hcz7_4; try clear hcz7_5; try clear hcz7_6; try clear hcz7_7; try clear hcz7_8; try clear hfz13_0; try clear hfz13_1; try clear hfz13_2; try clear hfz13_3; try clear hfz13_4; try clear hfz13_5; try clear hfz13_6; try clear hfz13_7; try clear hfz13_8; try clear hfz15_0; try clear hfz15_1; try clear hfz15_2; try clear hfz15_3; try clear hfz15_4; try clear hfz15_5; try clear hfz15_6; try clear hfz15_7; try clear hfz15_8; try clear hfz23_0; try clear hfz23_1; try clear hfz23_2; try clear hfz23_3; try clear hfz23_4; try clear hfz23_5; try clear hfz23_6; try clear hfz23_7; try clear hfz23_8; try clear hfz27_0; try clear hfz27_1; try clear hfz27_2; try clear hfz27_3; try clear hfz27_4; try clear hfz27_5; try clear hfz27_6; try clear hfz27_7; try clear hfz27_8; try clear hfz28_0; try clear hfz28_1; try clear hfz28_2; try clear hfz28_3; try clear hfz28_4; try clear hfz28_5; try clear hfz28_6; try clear hfz28_7; try clear hfz28_8; try clear hfz29_0; try clear hfz29_1; try clear hfz29_2; try clear hfz29_3; try clear hfz29_4; try clear hfz29_5; try clear hfz29_6; try clear hfz29_7; try clear hfz29_8; try clear hfz30_0; try clear hfz30_1; try clear hfz30_2; try clear hfz30_3; try clear hfz30_4; try clear hfz30_5; try clear hfz30_6; try clear hfz30_7; try clear hfz30_8; try clear hfz31_0; try clear hfz31_1; try clear hfz31_2; try clear hfz31_3; try clear hfz31_4; try clear hfz31_5; try clear hfz31_6; try clear hfz31_7; try clear hfz31_8; try clear hfz32_0; try clear hfz32_1; try clear hfz32_2; try clear hfz32_3; try clear hfz32_4; try clear hfz32_5; try clear hfz32_6; try clear hfz32_7; try clear hfz32_8; try clear hfz33_0; try clear hfz33_1; try clear hfz33_2; try clear hfz33_3; try clear hfz33_4; try clear hfz33_5; try clear hfz33_6; try clear hfz33_7; try clear hfz33_8; try clear hfz34_0; try clear hfz34_1; try clear hfz34_2; try clear hfz34_3; try clear hfz34_4; try clear hfz34_5; try clear hfz34_6; try clear hfz34_7; try clear hfz34_8; try clear hfz39_0; try clear hfz39_1; try clear hfz39_2; try clear hfz39_3; try clear hfz39_4; try clear hfz39_5; try clear hfz39_6; try clear hfz39_7; try clear hfz39_8; try clear hfz40_0; try clear hfz40_1; try clear hfz40_2; try clear hfz40_3; try clear hfz40_4; try clear hfz40_5; try clear hfz40_6; try clear hfz40_7; try clear hfz40_8; try clear hfz41_0; try clear hfz41_1; try clear hfz41_2; try clear hfz41_3; try clear hfz41_4; try clear hfz41_5; try clear hfz41_6; try clear hfz41_7; try clear hfz41_8; try clear hfz5_0; try clear hfz5_1; try clear hfz5_2; try clear hfz5_3; try clear hfz5_4; try clear hfz5_5; try clear hfz5_6; try clear hfz5_7; try clear hfz5_8; try clear hfz7_0; try clear hfz7_1; try clear hfz7_2; try clear hfz7_3; try clear hfz7_4; try clear hfz7_5; try clear hfz7_6; try clear hfz7_7; try clear hfz7_8; try clear p2; try clear p6
      obtain ⟨x3_3, rfl, HA, HK3, BK256, HB⟩ := hrel
      cases gk with
      | zero => exact absurd HA.out (by simp [spec_MsgOk.l0])
      | succ k3 =>
       have H := HA.out
       clear HA
       simp only [spec_MsgOk.l0] at H
       by_cases c43 : x3_3 < (l0_6.length : Int)
       ·rw [if_pos c43] at H
        have c43b0 : decide (x3_3 < (l0_6.length : Int)) = true := decide_eq_true c43
        clear c43
        by_cases c44 : 0 ≤ x3_3
        ·rw [if_pos c44] at H
         have c44b0 : decide (0 ≤ x3_3) = true := decide_eq_true c44
         clear c44
         replace H := Option.bind_eq_some_iff.mp H
         obtain ⟨t264, A450, H⟩ := H
         replace H : (if t264 = true then (if ((rd_T147 l0_6 x3_3).f0) > a0_3 then (some false) else (if x3_3 > 0 then (if 0 ≤ (wrap64 (x3_3 - 1)) then (if (wrap64 (x3_3 - 1)) < (l0_6.length : Int) then (if ((rd_T147 l0_6 (wrap64 (x3_3 - 1))).f0) > ((rd_T147 l0_6 x3_3).f0) then (some false) else (if ((rd_T147 l0_6 x3_3).f0) < a0_5 then (some false) else (spec_MsgOk.l0 k3 (wrap64 (x3_3 + 1)) a0_0 a0_1 a0_2 a0_3 a0_4 a0_5 l0_6 a0_7 a0_8))) else (none)) else (none)) else (if ((rd_T147 l0_6 x3_3).f0) < a0_5 then (some false) else (spec_MsgOk.l0 k3 (wrap64 (x3_3 + 1)) a0_0 a0_1 a0_2 a0_3 a0_4 a0_5 l0_6 a0_7 a0_8)))) else (some false)) = some r := H
         have A45 := Aside0.mk A450
         clear A450
         by_cases c46 : t264 = true
         ·subst c46
          have H1 : (if ((rd_T147 l0_6 x3_3).f0) > a0_3 then (some false) else (if x3_3 > 0 then (if 0 ≤ (wrap64 (x3_3 - 1)) then (if (wrap64 (x3_3 - 1)) < (l0_6.length : Int) then (if ((rd_T147 l0_6 (wrap64 (x3_3 - 1))).f0) > ((rd_T147 l0_6 x3_3).f0) then (some false) else (if ((rd_T147 l0_6 x3_3).f0) < a0_5 then (some false) else (spec_MsgOk.l0 k3 (wrap64 (x3_3 + 1)) a0_0 a0_1 a0_2 a0_3 a0_4 a0_5 l0_6 a0_7 a0_8))) else (none)) else (none)) else (if ((rd_T147 l0_6 x3_3).f0) < a0_5 then (some false) else (spec_MsgOk.l0 k3 (wrap64 (x3_3 + 1)) a0_0 a0_1 a0_2 a0_3 a0_4 a0_5 l0_6 a0_7 a0_8)))) = some r := by rw [if_pos rfl] at H; exact H
          clear H
          have H := H1
          clear H1
          by_cases c47 : ((rd_T147 l0_6 x3_3).f0) > a0_3
          ·rw [if_pos c47] at H
           have c47b0 : decide (a0_3 < ((rd_T147 l0_6 x3_3).f0)) = true := decide_eq_true c47
           clear c47
           as_aux_lemma =>
            obtain rfl := Option.some.inj H
            obtain ⟨hcz48_0, hcz48_1, hcz48_2, hcz48_3, hcz48_4, hcz48_5, hcz48_6, hcz48_7, hcz48_8, -⟩ := cells_9 BK256.out trivial
            obtain ⟨hfz48_0, hfz48_1, hfz48_2, hfz48_3, hfz48_4, hfz48_5, hfz48_6, hfz48_7, hfz48_8, -⟩ := frz_9 BK256.out
            try go_wp2
            replace BK256 := Aside0.mk (blk_drew BK256.out)
            replace HB := Aside0.mk (below_drew1 HB.out)
            have p263 : 0 ≤ (x3_3 : Int) := od
            have q263 : x3_3 < (l0_6.length : Int) := od
            obtain ⟨ad263, A263_4, c263_4, A263_5, c263_5, e263, hx263_0, hx263_1, hx263_2, hx263_3, hx263_4, hx263_5, hx263_6, hl263_4, hi263_4, hl263_5, hi263_5⟩ := at_T147 HR0_6.out x3_3 p263 q263
            have hw263_6 := hx263_6
            have hw263_5 := hx263_5
            have hw263_4 := hx263_4
            have hw263_3 := hx263_3
            have hw263_2 := hx263_2
            have hw263_1 := hx263_1
            have hw263_0 := hx263_0
            cases e263
            replace hx263_0 := hxb HB hx263_0
            replace hx263_1 := hxb HB hx263_1
            replace hx263_2 := hxb HB hx263_2
            replace hx263_3 := hxb HB hx263_3
            replace hx263_4 := hxb HB hx263_4
            replace hx263_5 := hxb HB hx263_5
            replace hx263_6 := hxb HB hx263_6
            have HR263_4 := Aside0.mk hi263_4
            have HC263_4 := Aside0.mk hl263_4
            clear hi263_4 hl263_4
            have HR263_5 := Aside0.mk hi263_5
            have HC263_5 := Aside0.mk hl263_5
            clear hi263_5 hl263_5
            replace p263 := eq_true p263
            replace q263 := eq_true q263
            have p265 : 0 ≤ (x3_3 : Int) := od
            have q265 : x3_3 < (l0_6.length : Int) := od
            obtain ⟨ad265, A265_4, c265_4, A265_5, c265_5, e265, hx265_0, hx265_1, hx265_2, hx265_3, hx265_4, hx265_5, hx265_6, hl265_4, hi265_4, hl265_5, hi265_5⟩ := at_T147 HR0_6.out x3_3 p265 q265
            have hw265_6 := hx265_6
            have hw265_5 := hx265_5
            have hw265_4 := hx265_4
            have hw265_3 := hx265_3
            have hw265_2 := hx265_2
            have hw265_1 := hx265_1
            have hw265_0 := hx265_0
            obtain rfl : ad263 = ad265 := (by injection e265)
            replace hx265_0 := hxb HB hx265_0
            replace hx265_1 := hxb HB hx265_1
            replace hx265_2 := hxb HB hx265_2
            replace hx265_3 := hxb HB hx265_3
            replace hx265_4 := hxb HB hx265_4
            replace hx265_5 := hxb HB hx265_5
            replace hx265_6 := hxb HB hx265_6
            have HR265_4 := Aside0.mk hi265_4
            have HC265_4 := Aside0.mk hl265_4
            clear hi265_4 hl265_4
            have HR265_5 := Aside0.mk hi265_5
            have HC265_5 := Aside0.mk hl265_5
            clear hi265_5 hl265_5
            replace p265 := eq_true p265
            replace q265 := eq_true q265
            refine start_ (n := 49) (S := fun w' => w'.cell? ⟨gb256, 0, none⟩ = some (.int .i64 a0_0) ∧ w'.cell? ⟨gb256, 1, none⟩ = some (.int .i64 a0_1) ∧ w'.cell? ⟨gb256, 2, none⟩ = some (.int .i64 a0_2) ∧ w'.cell? ⟨gb256, 3, none⟩ = some (.int .i64 a0_3) ∧ w'.cell? ⟨gb256, 4, none⟩ = some (.int .i64 a0_4) ∧ w'.cell? ⟨gb256, 5, none⟩ = some (.int .i64 a0_5) ∧ w'.cell? ⟨gb256, 6, none⟩ = some (.slice (some ad263) l0_6.length c0_6) ∧ w'.cell? ⟨gb256, 7, none⟩ = some (.int .i64 a0_7) ∧ w'.cell? ⟨gb256, 8, none⟩ = some (.bool a0_8) ∧ w'.cell? (ad263.add ((x3_3).toNat * 7)) = some (.int .i64 ((rd_T147 l0_6 x3_3).f0)) ∧ w'.cell? ⟨(ad263.add ((x3_3).toNat * 7)).block, (ad263.add ((x3_3).toNat * 7)).off + 1, none⟩ = some (.int .i64 ((rd_T147 l0_6 x3_3).f1.f0)) ∧ w'.cell? ⟨(ad263.add ((x3_3).toNat * 7)).block, (ad263.add ((x3_3).toNat * 7)).off + 2, none⟩ = some (.int .i64 ((rd_T147 l0_6 x3_3).f1.f1)) ∧ w'.cell? ⟨(ad263.add ((x3_3).toNat * 7)).block, (ad263.add ((x3_3).toNat * 7)).off + 3, none⟩ = some (.int .i64 ((rd_T147 l0_6 x3_3).f1.f2.f0)) ∧ w'.cell? ⟨(ad263.add ((x3_3).toNat * 7)).block, (ad263.add ((x3_3).toNat * 7)).off + 4, none⟩ = some (.slice A263_4 ((rd_T147 l0_6 x3_3).f1.f2.f1).length c263_4) ∧ w'.cell? ⟨(ad263.add ((x3_3).toNat * 7)).block, (ad263.add ((x3_3).toNat * 7)).off + 5, none⟩ = some (.slice A263_5 ((rd_T147 l0_6 x3_3).f1.f2.f2).length c263_5) ∧ w'.cell? ⟨(ad263.add ((x3_3).toNat * 7)).block, (ad263.add ((x3_3).toNat * 7)).off + 6, none⟩ = some (.int .i64 ((rd_T147 l0_6 x3_3).f1.f2.f3)) ∧ w'.cell? (ad263.add ((x3_3).toNat * 7)) = some (.int .i64 ((rd_T147 l0_6 x3_3).f0)) ∧ w'.cell? ⟨(ad263.add ((x3_3).toNat * 7)).block, (ad263.add ((x3_3).toNat * 7)).off + 1, none⟩ = some (.int .i64 ((rd_T147 l0_6 x3_3).f1.f0)) ∧ w'.cell? ⟨(ad263.add ((x3_3).toNat * 7)).block, (ad263.add ((x3_3).toNat * 7)).off + 2, none⟩ = some (.int .i64 ((rd_T147 l0_6 x3_3).f1.f1)) ∧ w'.cell? ⟨(ad263.add ((x3_3).toNat * 7)).block, (ad263.add ((x3_3).toNat * 7)).off + 3, none⟩ = some (.int .i64 ((rd_T147 l0_6 x3_3).f1.f2.f0)) ∧ w'.cell? ⟨(ad263.add ((x3_3).toNat * 7)).block, (ad263.add ((x3_3).toNat * 7)).off + 4, none⟩ = some (.slice A265_4 ((rd_T147 l0_6 x3_3).f1.f2.f1).length c265_4) ∧ w'.cell? ⟨(ad263.add ((x3_3).toNat * 7)).block, (ad263.add ((x3_3).toNat * 7)).off + 5, none⟩ = some (.slice A265_5 ((rd_T147 l0_6 x3_3).f1.f2.f2).length c265_5) ∧ w'.cell? ⟨(ad263.add ((x3_3).toNat * 7)).block, (ad263.add ((x3_3).toNat * 7)).off + 6, none⟩ = some (.int .i64 ((rd_T147 l0_6 x3_3).f1.f2.f3))) (ds := []) (tf 0 49) (by kernel_rfl) rfl rfl (cells_9 BK256.out ⟨(hxb HB hw263_0 :), (hxb HB hw263_1 :), (hxb HB hw263_2 :), (hxb HB hw263_3 :), (hxb HB hw263_4 :), (hxb HB hw263_5 :), (hxb HB hw263_6 :), (hxb HB hw265_0 :), (hxb HB hw265_1 :), (hxb HB hw265_2 :), (hxb HB hw265_3 :), (hxb HB hw265_4 :), (hxb HB hw265_5 :), (hxb HB hw265_6 :)⟩) (fun hHeld => ?_); refine with_tabW spec_MsgOk.tab8 spec_MsgOk.bits8 (fun HT_ HW_ => ?_)
            generalize wr.drew = w49 at BK256 HB HR263_4 HR263_5 HR265_4 HR265_5 hx263_0 hx263_1 hx263_2 hx263_3 hx263_4 hx263_5 hx263_6 hx265_0 hx265_1 hx265_2 hx265_3 hx265_4 hx265_5 hx265_6 hHeld ⊢
            refine pvn_ HT_ (h := ?_)
            refine pv_ HT_ 2 (some 108) (tb 49 5) (h := ?_)
            refine tv_ HT_ HW_ hHeld 1 (some 107) (tf 3 46) (h := ?_)
            refine pvn_ HT_ (h := ?_)
            refine tvn_ HT_ HW_ hHeld (h := ?_)
            refine one_ (i := 5) (N := some 111) (tf 6 43) rfl rfl (one_of HT_.out (by kernel_rfl)) (by decide) (fun K hK => ?_)
            refine gs_ Try.func110 #[.agg #[.int .i64 ((rd_T147 l0_6 x3_3).f0), .int .i64 ((rd_T147 l0_6 x3_3).f1.f0), .int .i64 ((rd_T147 l0_6 x3_3).f1.f1), .int .i64 ((rd_T147 l0_6 x3_3).f1.f2.f0), .slice A263_4 ((rd_T147 l0_6 x3_3).f1.f2.f1).length c263_4, .slice A263_5 ((rd_T147 l0_6 x3_3).f1.f2.f2).length c263_5, .int .i64 ((rd_T147 l0_6 x3_3).f1.f2.f3)]] (h := ?_)
            with_reducible refine (spec_ItemOk.calls k3 ((rd_T147 l0_6 x3_3).f0) ((rd_T147 l0_6 x3_3).f1.f0) ((rd_T147 l0_6 x3_3).f1.f1) ((rd_T147 l0_6 x3_3).f1.f2.f0) _ _ ((rd_T147 l0_6 x3_3).f1.f2.f1) _ _ ((rd_T147 l0_6 x3_3).f1.f2.f2) ((rd_T147 l0_6 x3_3).f1.f2.f3) true _ ?side1 ?side2 ?side3 ?side4 A45.out).mono ?_
            (case side1 => exact kcb)
            (case side2 => exact HC263_4.out)
            (case side3 => exact kcb)
            (case side4 => exact HC263_5.out)
            rintro e w50 ⟨rfl, hb⟩
            refine ⟨_, rfl, ?_⟩
            replace BK256 := Aside0.mk (blb BK256 hb)
            replace HB := Aside0.mk (below_step bel hb)
            (try clear hb)
            (try clear hb2)
            (try clear hk)
            (try clear hi)
            refine hK.out _ _ (cells_9 BK256.out ⟨(hxb HB hw263_0 :), (hxb HB hw263_1 :), (hxb HB hw263_2 :), (hxb HB hw263_3 :), (hxb HB hw263_4 :), (hxb HB hw263_5 :), (hxb HB hw263_6 :), (hxb HB hw265_0 :), (hxb HB hw265_1 :), (hxb HB hw265_2 :), (hxb HB hw265_3 :), (hxb HB hw265_4 :), (hxb HB hw265_5 :), (hxb HB hw265_6 :)⟩) (fun hHeld => ?_)
            clear hK K
            refine nrm_ (some 111) (h := ?_)
            iterate 3 (refine pvn_ HT_ (h := ?_))
            refine pv_ HT_ 10 (some 116) (tb 49 1535) (h := ?_)
            refine pv_ HT_ 14 (some 120) (tb 49 17919) (h := ?_)
            refine tv_ HT_ HW_ hHeld 9 (some 115) (tb 49 18431) (h := ?_)
            refine pv_ HT_ 11 (some 117) (tb 49 20479) (h := ?_)
            refine pv_ HT_ 12 (some 118) (tb 49 24575) (h := ?_)
            refine tv_ HT_ HW_ hHeld 13 (some 119) (tf 15 34) (h := ?_)
            refine tvn_ HT_ HW_ hHeld (h := ?_)
            iterate 3 (refine pvn_ HT_ (h := ?_))
            refine puns_ HT_ 18 [some _, some _, some _, some _, some _, some _, some _, some _, some _, some _, some _, some _, some _, some _, some _, some _, some _, some _] (h := ?_)
            iterate 2 (refine pvn_ HT_ (h := ?_))
            refine puns_ HT_ 9 [some _, some _, some _, some _, some _, some _, some _, some _, some _] (h := ?_)
            refine pvn_ HT_ (h := ?_)
            refine done_ (done_of HT_.out (by kernel_rfl)) ?_
            try go_wp2
            go_ret
            exact ⟨rz_, bel⟩
          rw [if_neg c47] at H
          have c47b0 : decide (a0_3 < ((rd_T147 l0_6 x3_3).f0)) = false := decide_eq_false c47
          clear c47
          by_cases c51 : x3_3 > 0
          ·rw [if_pos c51] at H
           have c51b0 : decide (0 < x3_3) = true := decide_eq_true c51
           clear c51
           obtain ⟨ji52, hji52⟩ : ∃ j_ : Int, (wrap64 (x3_3 - 1)) = j_ := ⟨_, rfl⟩
           replace H : (if 0 ≤ (ji52) then (if (ji52) < (l0_6.length : Int) then (if ((rd_T147 l0_6 (ji52)).f0) > ((rd_T147 l0_6 x3_3).f0) then (some false) else (if ((rd_T147 l0_6 x3_3).f0) < a0_5 then (some false) else (spec_MsgOk.l0 k3 (wrap64 (x3_3 + 1)) a0_0 a0_1 a0_2 a0_3 a0_4 a0_5 l0_6 a0_7 a0_8))) else (none)) else (none)) = some r := by first | (rw [hji52] at H; exact H) | (simp only [hji52] at H ⊢; exact H)
           (try rw [hji52] at A45)
           have hji52w : (IntKind.i64.wrap (x3_3 - 1)) = ji52 := (i64_w _).trans hji52
           by_cases c53 : 0 ≤ (ji52)
           ·rw [if_pos c53] at H
            have c53b0 : decide (0 ≤ (ji52)) = true := decide_eq_true c53
            clear c53
            by_cases c54 : (ji52) < (l0_6.length : Int)
            ·rw [if_pos c54] at H
             have c54b0 : decide ((ji52) < (l0_6.length : Int)) = true := decide_eq_true c54
             clear c54
             by_cases c55 : ((rd_T147 l0_6 (ji52)).f0) > ((rd_T147 l0_6 x3_3).f0)
             ·rw [if_pos c55] at H
              have c55b0 : decide (((rd_T147 l0_6 x3_3).f0) < ((rd_T147 l0_6 (ji52)).f0)) = true := decide_eq_true c55
              clear c55
              as_aux_lemma =>
               obtain rfl := Option.some.inj H
               obtain ⟨hcz56_0, hcz56_1, hcz56_2, hcz56_3, hcz56_4, hcz56_5, hcz56_6, hcz56_7, hcz56_8, -⟩ := cells_9 BK256.out trivial
               obtain ⟨hfz56_0, hfz56_1, hfz56_2, hfz56_3, hfz56_4, hfz56_5, hfz56_6, hfz56_7, hfz56_8, -⟩ := frz_9 BK256.out
               try go_wp2
               replace BK256 := Aside0.mk (blk_drew BK256.out)
               replace HB := Aside0.mk (below_drew1 HB.out)
               have p263 : 0 ≤ (x3_3 : Int) := od
               have q263 : x3_3 < (l0_6.length : Int) := od
               obtain ⟨ad263, A263_4, c263_4, A263_5, c263_5, e263, hx263_0, hx263_1, hx263_2, hx263_3, hx263_4, hx263_5, hx263_6, hl263_4, hi263_4, hl263_5, hi263_5⟩ := at_T147 HR0_6.out x3_3 p263 q263
               have hw263_6 := hx263_6
               have hw263_5 := hx263_5
               have hw263_4 := hx263_4
               have hw263_3 := hx263_3
               have hw263_2 := hx263_2
               have hw263_1 := hx263_1
               have hw263_0 := hx263_0
               cases e263
               replace hx263_0 := hxb HB hx263_0
               replace hx263_1 := hxb HB hx263_1
               replace hx263_2 := hxb HB hx263_2
               replace hx263_3 := hxb HB hx263_3
               replace hx263_4 := hxb HB hx263_4
               replace hx263_5 := hxb HB hx263_5
               replace hx263_6 := hxb HB hx263_6
               have HR263_4 := Aside0.mk hi263_4
               have HC263_4 := Aside0.mk hl263_4
               clear hi263_4 hl263_4
               have HR263_5 := Aside0.mk hi263_5
               have HC263_5 := Aside0.mk hl263_5
               clear hi263_5 hl263_5
               replace p263 := eq_true p263
               replace q263 := eq_true q263
               have p265 : 0 ≤ (x3_3 : Int) := od
               have q265 : x3_3 < (l0_6.length : Int) := od
               obtain ⟨ad265, A265_4, c265_4, A265_5, c265_5, e265, hx265_0, hx265_1, hx265_2, hx265_3, hx265_4, hx265_5, hx265_6, hl265_4, hi265_4, hl265_5, hi265_5⟩ := at_T147 HR0_6.out x3_3 p265 q265
               have hw265_6 := hx265_6
               have hw265_5 := hx265_5
               have hw265_4 := hx265_4
               have hw265_3 := hx265_3
               have hw265_2 := hx265_2
               have hw265_1 := hx265_1
               have hw265_0 := hx265_0
               obtain rfl : ad263 = ad265 := (by injection e265)
               replace hx265_0 := hxb HB hx265_0
               replace hx265_1 := hxb HB hx265_1
               replace hx265_2 := hxb HB hx265_2
               replace hx265_3 := hxb HB hx265_3
               replace hx265_4 := hxb HB hx265_4
               replace hx265_5 := hxb HB hx265_5
               replace hx265_6 := hxb HB hx265_6
               have HR265_4 := Aside0.mk hi265_4
               have HC265_4 := Aside0.mk hl265_4
               clear hi265_4 hl265_4
               have HR265_5 := Aside0.mk hi265_5
               have HC265_5 := Aside0.mk hl265_5
               clear hi265_5 hl265_5
               replace p265 := eq_true p265
               replace q265 := eq_true q265
               have p266 : 0 ≤ ((ji52) : Int) := od
               have q266 : (ji52) < (l0_6.length : Int) := od
               obtain ⟨ad266, A266_4, c266_4, A266_5, c266_5, e266, hx266_0, hx266_1, hx266_2, hx266_3, hx266_4, hx266_5, hx266_6, hl266_4, hi266_4, hl266_5, hi266_5⟩ := at_T147 HR0_6.out (ji52) p266 q266
               have hw266_6 := hx266_6
               have hw266_5 := hx266_5
               have hw266_4 := hx266_4
               have hw266_3 := hx266_3
               have hw266_2 := hx266_2
               have hw266_1 := hx266_1
               have hw266_0 := hx266_0
               obtain rfl : ad263 = ad266 := (by injection e266)
               replace hx266_0 := hxb HB hx266_0
               replace hx266_1 := hxb HB hx266_1
               replace hx266_2 := hxb HB hx266_2
               replace hx266_3 := hxb HB hx266_3
               replace hx266_4 := hxb HB hx266_4
               replace hx266_5 := hxb HB hx266_5
               replace hx266_6 := hxb HB hx266_6
               have HR266_4 := Aside0.mk hi266_4
               have HC266_4 := Aside0.mk hl266_4
               clear hi266_4 hl266_4
               have HR266_5 := Aside0.mk hi266_5
               have HC266_5 := Aside0.mk hl266_5
               clear hi266_5 hl266_5
               replace p266 := eq_true p266
               replace q266 := eq_true q266
               have p267 : 0 ≤ (x3_3 : Int) := od
               have q267 : x3_3 < (l0_6.length : Int) := od
               obtain ⟨ad267, A267_4, c267_4, A267_5, c267_5, e267, hx267_0, hx267_1, hx267_2, hx267_3, hx267_4, hx267_5, hx267_6, hl267_4, hi267_4, hl267_5, hi267_5⟩ := at_T147 HR0_6.out x3_3 p267 q267
               have hw267_6 := hx267_6
               have hw267_5 := hx267_5
               have hw267_4 := hx267_4
               have hw267_3 := hx267_3
               have hw267_2 := hx267_2
               have hw267_1 := hx267_1
               have hw267_0 := hx267_0
               obtain rfl : ad263 = ad267 := (by injection e267)
               replace hx267_0 := hxb HB hx267_0
               replace hx267_1 := hxb HB hx267_1
               replace hx267_2 := hxb HB hx267_2
               replace hx267_3 := hxb HB hx267_3
               replace hx267_4 := hxb HB hx267_4
               replace hx267_5 := hxb HB hx267_5
               replace hx267_6 := hxb HB hx267_6
               have HR267_4 := Aside0.mk hi267_4
               have HC267_4 := Aside0.mk hl267_4
               clear hi267_4 hl267_4
               have HR267_5 := Aside0.mk hi267_5
               have HC267_5 := Aside0.mk hl267_5
               clear hi267_5 hl267_5
               replace p267 := eq_true p267
               replace q267 := eq_true q267
               have ea_ := Option.some.inj (hx265_4.symm.trans hx267_4)
               injection ea_ with ea_ en_ ec_
               subst ea_
               subst ec_
               clear en_
               have ea_ := Option.some.inj (hx265_5.symm.trans hx267_5)
               injection ea_ with ea_ en_ ec_
               subst ea_
               subst ec_
               clear en_
               refine start_ (n := 49) (S := fun w' => w'.cell? ⟨gb256, 0, none⟩ = some (.int .i64 a0_0) ∧ w'.cell? ⟨gb256, 1, none⟩ = some (.int .i64 a0_1) ∧ w'.cell? ⟨gb256, 2, none⟩ = some (.int .i64 a0_2) ∧ w'.cell? ⟨gb256, 3, none⟩ = some (.int .i64 a0_3) ∧ w'.cell? ⟨gb256, 4, none⟩ = some (.int .i64 a0_4) ∧ w'.cell? ⟨gb256, 5, none⟩ = some (.int .i64 a0_5) ∧ w'.cell? ⟨gb256, 6, none⟩ = some (.slice (some ad263) l0_6.length c0_6) ∧ w'.cell? ⟨gb256, 7, none⟩ = some (.int .i64 a0_7) ∧ w'.cell? ⟨gb256, 8, none⟩ = some (.bool a0_8) ∧ w'.cell? (ad263.add ((x3_3).toNat * 7)) = some (.int .i64 ((rd_T147 l0_6 x3_3).f0)) ∧ w'.cell? ⟨(ad263.add ((x3_3).toNat * 7)).block, (ad263.add ((x3_3).toNat * 7)).off + 1, none⟩ = some (.int .i64 ((rd_T147 l0_6 x3_3).f1.f0)) ∧ w'.cell? ⟨(ad263.add ((x3_3).toNat * 7)).block, (ad263.add ((x3_3).toNat * 7)).off + 2, none⟩ = some (.int .i64 ((rd_T147 l0_6 x3_3).f1.f1)) ∧ w'.cell? ⟨(ad263.add ((x3_3).toNat * 7)).block, (ad263.add ((x3_3).toNat * 7)).off + 3, none⟩ = some (.int .i64 ((rd_T147 l0_6 x3_3).f1.f2.f0)) ∧ w'.cell? ⟨(ad263.add ((x3_3).toNat * 7)).block, (ad263.add ((x3_3).toNat * 7)).off + 4, none⟩ = some (.slice A263_4 ((rd_T147 l0_6 x3_3).f1.f2.f1).length c263_4) ∧ w'.cell? ⟨(ad263.add ((x3_3).toNat * 7)).block, (ad263.add ((x3_3).toNat * 7)).off + 5, none⟩ = some (.slice A263_5 ((rd_T147 l0_6 x3_3).f1.f2.f2).length c263_5) ∧ w'.cell? ⟨(ad263.add ((x3_3).toNat * 7)).block, (ad263.add ((x3_3).toNat * 7)).off + 6, none⟩ = some (.int .i64 ((rd_T147 l0_6 x3_3).f1.f2.f3)) ∧ w'.cell? (ad263.add ((x3_3).toNat * 7)) = some (.int .i64 ((rd_T147 l0_6 x3_3).f0)) ∧ w'.cell? ⟨(ad263.add ((x3_3).toNat * 7)).block, (ad263.add ((x3_3).toNat * 7)).off + 1, none⟩ = some (.int .i64 ((rd_T147 l0_6 x3_3).f1.f0)) ∧ w'.cell? ⟨(ad263.add ((x3_3).toNat * 7)).block, (ad263.add ((x3_3).toNat * 7)).off + 2, none⟩ = some (.int .i64 ((rd_T147 l0_6 x3_3).f1.f1)) ∧ w'.cell? ⟨(ad263.add ((x3_3).toNat * 7)).block, (ad263.add ((x3_3).toNat * 7)).off + 3, none⟩ = some (.int .i64 ((rd_T147 l0_6 x3_3).f1.f2.f0)) ∧ w'.cell? ⟨(ad263.add ((x3_3).toNat * 7)).block, (ad263.add ((x3_3).toNat * 7)).off + 4, none⟩ = some (.slice A265_4 ((rd_T147 l0_6 x3_3).f1.f2.f1).length c265_4) ∧ w'.cell? ⟨(ad263.add ((x3_3).toNat * 7)).block, (ad263.add ((x3_3).toNat * 7)).off + 5, none⟩ = some (.slice A265_5 ((rd_T147 l0_6 x3_3).f1.f2.f2).length c265_5) ∧ w'.cell? ⟨(ad263.add ((x3_3).toNat * 7)).block, (ad263.add ((x3_3).toNat * 7)).off + 6, none⟩ = some (.int .i64 ((rd_T147 l0_6 x3_3).f1.f2.f3)) ∧ w'.cell? (ad263.add (((ji52)).toNat * 7)) = some (.int .i64 ((rd_T147 l0_6 (ji52)).f0)) ∧ w'.cell? ⟨(ad263.add (((ji52)).toNat * 7)).block, (ad263.add (((ji52)).toNat * 7)).off + 1, none⟩ = some (.int .i64 ((rd_T147 l0_6 (ji52)).f1.f0)) ∧ w'.cell? ⟨(ad263.add (((ji52)).toNat * 7)).block, (ad263.add (((ji52)).toNat * 7)).off + 2, none⟩ = some (.int .i64 ((rd_T147 l0_6 (ji52)).f1.f1)) ∧ w'.cell? ⟨(ad263.add (((ji52)).toNat * 7)).block, (ad263.add (((ji52)).toNat * 7)).off + 3, none⟩ = some (.int .i64 ((rd_T147 l0_6 (ji52)).f1.f2.f0)) ∧ w'.cell? ⟨(ad263.add (((ji52)).toNat * 7)).block, (ad263.add (((ji52)).toNat * 7)).off + 4, none⟩ = some (.slice A266_4 ((rd_T147 l0_6 (ji52)).f1.f2.f1).length c266_4) ∧ w'.cell? ⟨(ad263.add (((ji52)).toNat * 7)).block, (ad263.add (((ji52)).toNat * 7)).off + 5, none⟩ = some (.slice A266_5 ((rd_T147 l0_6 (ji52)).f1.f2.f2).length c266_5) ∧ w'.cell? ⟨(ad263.add (((ji52)).toNat * 7)).block, (ad263.add (((ji52)).toNat * 7)).off + 6, none⟩ = some (.int .i64 ((rd_T147 l0_6 (ji52)).f1.f2.f3)) ∧ w'.cell? (ad263.add ((x3_3).toNat * 7)) = some (.int .i64 ((rd_T147 l0_6 x3_3).f0)) ∧ w'.cell? ⟨(ad263.add ((x3_3).toNat * 7)).block, (ad263.add ((x3_3).toNat * 7)).off + 1, none⟩ = some (.int .i64 ((rd_T147 l0_6 x3_3).f1.f0)) ∧ w'.cell? ⟨(ad263.add ((x3_3).toNat * 7)).block, (ad263.add ((x3_3).toNat * 7)).off + 2, none⟩ = some (.int .i64 ((rd_T147 l0_6 x3_3).f1.f1)) ∧ w'.cell? ⟨(ad263.add ((x3_3).toNat * 7)).block, (ad263.add ((x3_3).toNat * 7)).off + 3, none⟩ = some (.int .i64 ((rd_T147 l0_6 x3_3).f1.f2.f0)) ∧ w'.cell? ⟨(ad263.add ((x3_3).toNat * 7)).block, (ad263.add ((x3_3).toNat * 7)).off + 4, none⟩ = some (.slice A265_4 ((rd_T147 l0_6 x3_3).f1.f2.f1).length c265_4) ∧ w'.cell? ⟨(ad263.add ((x3_3).toNat * 7)).block, (ad263.add ((x3_3).toNat * 7)).off + 5, none⟩ = some (.slice A265_5 ((rd_T147 l0_6 x3_3).f1.f2.f2).length c265_5) ∧ w'.cell? ⟨(ad263.add ((x3_3).toNat * 7)).block, (ad263.add ((x3_3).toNat * 7)).off + 6, none⟩ = some (.int .i64 ((rd_T147 l0_6 x3_3).f1.f2.f3))) (ds := []) (tf 0 49) (by kernel_rfl) rfl rfl (cells_9 BK256.out ⟨(hxb HB hw263_0 :), (hxb HB hw263_1 :), (hxb HB hw263_2 :), (hxb HB hw263_3 :), (hxb HB hw263_4 :), (hxb HB hw263_5 :), (hxb HB hw263_6 :), (hxb HB hw265_0 :), (hxb HB hw265_1 :), (hxb HB hw265_2 :), (hxb HB hw265_3 :), (hxb HB hw265_4 :), (hxb HB hw265_5 :), (hxb HB hw265_6 :), (hxb HB hw266_0 :), (hxb HB hw266_1 :), (hxb HB hw266_2 :), (hxb HB hw266_3 :), (hxb HB hw266_4 :), (hxb HB hw266_5 :), (hxb HB hw266_6 :), (hxb HB hw267_0 :), (hxb HB hw267_1 :), (hxb HB hw267_2 :), (hxb HB hw267_3 :), (hxb HB hw267_4 :), (hxb HB hw267_5 :), (hxb HB hw267_6 :)⟩) (fun hHeld => ?_); refine with_tabW spec_MsgOk.tab8 spec_MsgOk.bits8 (fun HT_ HW_ => ?_)
               generalize wr.drew = w57 at BK256 HB HR263_4 HR263_5 HR265_4 HR265_5 HR266_4 HR266_5 HR267_4 HR267_5 hx263_0 hx263_1 hx263_2 hx263_3 hx263_4 hx263_5 hx263_6 hx265_0 hx265_1 hx265_2 hx265_3 hx265_4 hx265_5 hx265_6 hx266_0 hx266_1 hx266_2 hx266_3 hx266_4 hx266_5 hx266_6 hx267_0 hx267_1 hx267_2 hx267_3 hx267_4 hx267_5 hx267_6 hHeld ⊢
               refine pvn_ HT_ (h := ?_)
               refine pv_ HT_ 2 (some 108) (tb 49 5) (h := ?_)
               refine tv_ HT_ HW_ hHeld 1 (some 107) (tf 3 46) (h := ?_)
               refine pvn_ HT_ (h := ?_)
               refine tvn_ HT_ HW_ hHeld (h := ?_)
               refine one_ (i := 5) (N := some 111) (tf 6 43) rfl rfl (one_of HT_.out (by kernel_rfl)) (by decide) (fun K hK => ?_)
               refine gs_ Try.func110 #[.agg #[.int .i64 ((rd_T147 l0_6 x3_3).f0), .int .i64 ((rd_T147 l0_6 x3_3).f1.f0), .int .i64 ((rd_T147 l0_6 x3_3).f1.f1), .int .i64 ((rd_T147 l0_6 x3_3).f1.f2.f0), .slice A263_4 ((rd_T147 l0_6 x3_3).f1.f2.f1).length c263_4, .slice A263_5 ((rd_T147 l0_6 x3_3).f1.f2.f2).length c263_5, .int .i64 ((rd_T147 l0_6 x3_3).f1.f2.f3)]] (h := ?_)
               with_reducible refine (spec_ItemOk.calls k3 ((rd_T147 l0_6 x3_3).f0) ((rd_T147 l0_6 x3_3).f1.f0) ((rd_T147 l0_6 x3_3).f1.f1) ((rd_T147 l0_6 x3_3).f1.f2.f0) _ _ ((rd_T147 l0_6 x3_3).f1.f2.f1) _ _ ((rd_T147 l0_6 x3_3).f1.f2.f2) ((rd_T147 l0_6 x3_3).f1.f2.f3) true _ ?side1 ?side2 ?side3 ?side4 A45.out).mono ?_
               (case side1 => exact kcb)
               (case side2 => exact HC263_4.out)
               (case side3 => exact kcb)
               (case side4 => exact HC263_5.out)
               rintro e w58 ⟨rfl, hb⟩
               refine ⟨_, rfl, ?_⟩
               replace BK256 := Aside0.mk (blb BK256 hb)
               replace HB := Aside0.mk (below_step bel hb)
               (try clear hb)
               (try clear hb2)
               (try clear hk)
               (try clear hi)
               refine hK.out _ _ (cells_9 BK256.out ⟨(hxb HB hw263_0 :), (hxb HB hw263_1 :), (hxb HB hw263_2 :), (hxb HB hw263_3 :), (hxb HB hw263_4 :), (hxb HB hw263_5 :), (hxb HB hw263_6 :), (hxb HB hw265_0 :), (hxb HB hw265_1 :), (hxb HB hw265_2 :), (hxb HB hw265_3 :), (hxb HB hw265_4 :), (hxb HB hw265_5 :), (hxb HB hw265_6 :), (hxb HB hw266_0 :), (hxb HB hw266_1 :), (hxb HB hw266_2 :), (hxb HB hw266_3 :), (hxb HB hw266_4 :), (hxb HB hw266_5 :), (hxb HB hw266_6 :), (hxb HB hw267_0 :), (hxb HB hw267_1 :), (hxb HB hw267_2 :), (hxb HB hw267_3 :), (hxb HB hw267_4 :), (hxb HB hw267_5 :), (hxb HB hw267_6 :)⟩) (fun hHeld => ?_)
               clear hK K
               refine nrm_ (some 111) (h := ?_)
               iterate 3 (refine pvn_ HT_ (h := ?_))
               refine pv_ HT_ 10 (some 116) (tb 49 1535) (h := ?_)
               refine pv_ HT_ 14 (some 120) (tb 49 17919) (h := ?_)
               refine tv_ HT_ HW_ hHeld 9 (some 115) (tb 49 18431) (h := ?_)
               refine pv_ HT_ 11 (some 117) (tb 49 20479) (h := ?_)
               refine pv_ HT_ 12 (some 118) (tb 49 24575) (h := ?_)
               refine tv_ HT_ HW_ hHeld 13 (some 119) (tf 15 34) (h := ?_)
               refine tvn_ HT_ HW_ hHeld (h := ?_)
               iterate 7 (refine pvn_ HT_ (h := ?_))
               refine pv_ HT_ 24 (some 130) (tb 49 25165823) (h := ?_)
               refine pv_ HT_ 25 (some 131) (tb 49 58720255) (h := ?_)
               refine pv_ HT_ 29 (some 135) (tb 49 595591167) (h := ?_)
               refine pv_ HT_ 31 (some 137) (tb 49 2743074815) (h := ?_)
               refine tv_ HT_ HW_ hHeld 23 (some 129) (tb 49 2751463423) (h := ?_)
               refine pv_ HT_ 26 (some 132) (tb 49 2818572287) (h := ?_)
               refine pv_ HT_ 27 (some 133) (tb 49 2952790015) (h := ?_)
               refine tv_ HT_ HW_ hHeld 28 (some 134) (tb 49 3221225471) (h := ?_)
               refine tv_ HT_ HW_ hHeld 30 (some 136) (tf 32 17) (h := ?_)
               iterate 2 (refine pvn_ HT_ (h := ?_))
               refine tvn_ HT_ HW_ hHeld (h := ?_)
               iterate 4 (refine pvn_ HT_ (h := ?_))
               refine puns_ HT_ 9 [some _, some _, some _, some _, some _, some _, some _, some _, some _] (h := ?_)
               refine pvn_ HT_ (h := ?_)
               refine done_ (done_of HT_.out (by kernel_rfl)) ?_
               try go_wp2
               go_ret
               exact ⟨by first | rfl | (simp [errW_none, errW_some] <;> rfl) | (simp only [← hji52]; first | rfl | (simp [errW_none, errW_some] <;> rfl)) | (simp [*, errW_none, errW_some] <;> rfl), bel⟩
             rw [if_neg c55] at H
             have c55b0 : decide (((rd_T147 l0_6 x3_3).f0) < ((rd_T147 l0_6 (ji52)).f0)) = false := decide_eq_false c55
             clear c55
             obtain ⟨hczv1_0, hczv1_1, hczv1_2, hczv1_3, hczv1_4, hczv1_5, hczv1_6, hczv1_7, hczv1_8, -⟩ := cells_9 BK256.out trivial
             obtain ⟨hfzv2_0, hfzv2_1, hfzv2_2, hfzv2_3, hfzv2_4, hfzv2_5, hfzv2_6, hfzv2_7, hfzv2_8, -⟩ := frz_9 BK256.out
             try go_wp2
             replace BK256 := Aside0.mk (blk_drew BK256.out)
             replace HB := Aside0.mk (below_drew1 HB.out)
             have p263 : 0 ≤ (x3_3 : Int) := od
             have q263 : x3_3 < (l0_6.length : Int) := od
             obtain ⟨ad263, A263_4, c263_4, A263_5, c263_5, e263, hx263_0, hx263_1, hx263_2, hx263_3, hx263_4, hx263_5, hx263_6, hl263_4, hi263_4, hl263_5, hi263_5⟩ := at_T147 HR0_6.out x3_3 p263 q263
             have hw263_6 := hx263_6
             have hw263_5 := hx263_5
             have hw263_4 := hx263_4
             have hw263_3 := hx263_3
             have hw263_2 := hx263_2
             have hw263_1 := hx263_1
             have hw263_0 := hx263_0
             cases e263
             replace hx263_0 := hxb HB hx263_0
             replace hx263_1 := hxb HB hx263_1
             replace hx263_2 := hxb HB hx263_2
             replace hx263_3 := hxb HB hx263_3
             replace hx263_4 := hxb HB hx263_4
             replace hx263_5 := hxb HB hx263_5
             replace hx263_6 := hxb HB hx263_6
             have HR263_4 := Aside0.mk hi263_4
             have HC263_4 := Aside0.mk hl263_4
             clear hi263_4 hl263_4
             have HR263_5 := Aside0.mk hi263_5
             have HC263_5 := Aside0.mk hl263_5
             clear hi263_5 hl263_5
             replace p263 := eq_true p263
             replace q263 := eq_true q263
             have p265 : 0 ≤ (x3_3 : Int) := od
             have q265 : x3_3 < (l0_6.length : Int) := od
             obtain ⟨ad265, A265_4, c265_4, A265_5, c265_5, e265, hx265_0, hx265_1, hx265_2, hx265_3, hx265_4, hx265_5, hx265_6, hl265_4, hi265_4, hl265_5, hi265_5⟩ := at_T147 HR0_6.out x3_3 p265 q265
             have hw265_6 := hx265_6
             have hw265_5 := hx265_5
             have hw265_4 := hx265_4
             have hw265_3 := hx265_3
             have hw265_2 := hx265_2
             have hw265_1 := hx265_1
             have hw265_0 := hx265_0
             obtain rfl : ad263 = ad265 := (by injection e265)
             replace hx265_0 := hxb HB hx265_0
             replace hx265_1 := hxb HB hx265_1
             replace hx265_2 := hxb HB hx265_2
             replace hx265_3 := hxb HB hx265_3
             replace hx265_4 := hxb HB hx265_4
             replace hx265_5 := hxb HB hx265_5
             replace hx265_6 := hxb HB hx265_6
             have HR265_4 := Aside0.mk hi265_4
             have HC265_4 := Aside0.mk hl265_4
             clear hi265_4 hl265_4
             have HR265_5 := Aside0.mk hi265_5
             have HC265_5 := Aside0.mk hl265_5
             clear hi265_5 hl265_5
             replace p265 := eq_true p265
             replace q265 := eq_true q265
             have p267 : 0 ≤ (x3_3 : Int) := od
             have q267 : x3_3 < (l0_6.length : Int) := od
             obtain ⟨ad267, A267_4, c267_4, A267_5, c267_5, e267, hx267_0, hx267_1, hx267_2, hx267_3, hx267_4, hx267_5, hx267_6, hl267_4, hi267_4, hl267_5, hi267_5⟩ := at_T147 HR0_6.out x3_3 p267 q267
             have hw267_6 := hx267_6
             have hw267_5 := hx267_5
             have hw267_4 := hx267_4
             have hw267_3 := hx267_3
             have hw267_2 := hx267_2
             have hw267_1 := hx267_1
             have hw267_0 := hx267_0
             obtain rfl : ad263 = ad267 := (by injection e267)
             replace hx267_0 := hxb HB hx267_0
             replace hx267_1 := hxb HB hx267_1
             replace hx267_2 := hxb HB hx267_2
             replace hx267_3 := hxb HB hx267_3
             replace hx267_4 := hxb HB hx267_4
             replace hx267_5 := hxb HB hx267_5
             replace hx267_6 := hxb HB hx267_6
             have HR267_4 := Aside0.mk hi267_4
             have HC267_4 := Aside0.mk hl267_4
             clear hi267_4 hl267_4
             have HR267_5 := Aside0.mk hi267_5
             have HC267_5 := Aside0.mk hl267_5
             clear hi267_5 hl267_5
             replace p267 := eq_true p267
             replace q267 := eq_true q267
             have ea_ := Option.some.inj (hx265_4.symm.trans hx267_4)
             injection ea_ with ea_ en_ ec_
             subst ea_
             subst ec_
             clear en_
             have ea_ := Option.some.inj (hx265_5.symm.trans hx267_5)
             injection ea_ with ea_ en_ ec_
             subst ea_
             subst ec_
             clear en_
             have p268 : 0 ≤ (x3_3 : Int) := od
             have q268 : x3_3 < (l0_6.length : Int) := od
             obtain ⟨ad268, A268_4, c268_4, A268_5, c268_5, e268, hx268_0, hx268_1, hx268_2, hx268_3, hx268_4, hx268_5, hx268_6, hl268_4, hi268_4, hl268_5, hi268_5⟩ := at_T147 HR0_6.out x3_3 p268 q268
             have hw268_6 := hx268_6
             have hw268_5 := hx268_5
             have hw268_4 := hx268_4
             have hw268_3 := hx268_3
             have hw268_2 := hx268_2
             have hw268_1 := hx268_1
             have hw268_0 := hx268_0
             obtain rfl : ad263 = ad268 := (by injection e268)
             replace hx268_0 := hxb HB hx268_0
             replace hx268_1 := hxb HB hx268_1
             replace hx268_2 := hxb HB hx268_2
             replace hx268_3 := hxb HB hx268_3
             replace hx268_4 := hxb HB hx268_4
             replace hx268_5 := hxb HB hx268_5
             replace hx268_6 := hxb HB hx268_6
             have HR268_4 := Aside0.mk hi268_4
             have HC268_4 := Aside0.mk hl268_4
             clear hi268_4 hl268_4
             have HR268_5 := Aside0.mk hi268_5
             have HC268_5 := Aside0.mk hl268_5
             clear hi268_5 hl268_5
             replace p268 := eq_true p268
             replace q268 := eq_true q268
             have ea_ := Option.some.inj (hx265_4.symm.trans hx268_4)
             injection ea_ with ea_ en_ ec_
             subst ea_
             subst ec_
             clear en_
             have ea_ := Option.some.inj (hx265_5.symm.trans hx268_5)
             injection ea_ with ea_ en_ ec_
             subst ea_
             subst ec_
             clear en_
             have p266 : 0 ≤ ((ji52) : Int) := od
             have q266 : (ji52) < (l0_6.length : Int) := od
             obtain ⟨ad266, A266_4, c266_4, A266_5, c266_5, e266, hx266_0, hx266_1, hx266_2, hx266_3, hx266_4, hx266_5, hx266_6, hl266_4, hi266_4, hl266_5, hi266_5⟩ := at_T147 HR0_6.out (ji52) p266 q266
             have hw266_6 := hx266_6
             have hw266_5 := hx266_5
             have hw266_4 := hx266_4
             have hw266_3 := hx266_3
             have hw266_2 := hx266_2
             have hw266_1 := hx266_1
             have hw266_0 := hx266_0
             obtain rfl : ad263 = ad266 := (by injection e266)
             replace hx266_0 := hxb HB hx266_0
             replace hx266_1 := hxb HB hx266_1
             replace hx266_2 := hxb HB hx266_2
             replace hx266_3 := hxb HB hx266_3
             replace hx266_4 := hxb HB hx266_4
             replace hx266_5 := hxb HB hx266_5
             replace hx266_6 := hxb HB hx266_6
             have HR266_4 := Aside0.mk hi266_4
             have HC266_4 := Aside0.mk hl266_4
             clear hi266_4 hl266_4
             have HR266_5 := Aside0.mk hi266_5
             have HC266_5 := Aside0.mk hl266_5
             clear hi266_5 hl266_5
             replace p266 := eq_true p266
             replace q266 := eq_true q266
             refine start_ (n := 49) (S := fun w' => w'.cell? ⟨gb256, 0, none⟩ = some (.int .i64 a0_0) ∧ w'.cell? ⟨gb256, 1, none⟩ = some (.int .i64 a0_1) ∧ w'.cell? ⟨gb256, 2, none⟩ = some (.int .i64 a0_2) ∧ w'.cell? ⟨gb256, 3, none⟩ = some (.int .i64 a0_3) ∧ w'.cell? ⟨gb256, 4, none⟩ = some (.int .i64 a0_4) ∧ w'.cell? ⟨gb256, 5, none⟩ = some (.int .i64 a0_5) ∧ w'.cell? ⟨gb256, 6, none⟩ = some (.slice (some ad263) l0_6.length c0_6) ∧ w'.cell? ⟨gb256, 7, none⟩ = some (.int .i64 a0_7) ∧ w'.cell? ⟨gb256, 8, none⟩ = some (.bool a0_8) ∧ w'.cell? (ad263.add ((x3_3).toNat * 7)) = some (.int .i64 ((rd_T147 l0_6 x3_3).f0)) ∧ w'.cell? ⟨(ad263.add ((x3_3).toNat * 7)).block, (ad263.add ((x3_3).toNat * 7)).off + 1, none⟩ = some (.int .i64 ((rd_T147 l0_6 x3_3).f1.f0)) ∧ w'.cell? ⟨(ad263.add ((x3_3).toNat * 7)).block, (ad263.add ((x3_3).toNat * 7)).off + 2, none⟩ = some (.int .i64 ((rd_T147 l0_6 x3_3).f1.f1)) ∧ w'.cell? ⟨(ad263.add ((x3_3).toNat * 7)).block, (ad263.add ((x3_3).toNat * 7)).off + 3, none⟩ = some (.int .i64 ((rd_T147 l0_6 x3_3).f1.f2.f0)) ∧ w'.cell? ⟨(ad263.add ((x3_3).toNat * 7)).block, (ad263.add ((x3_3).toNat * 7)).off + 4, none⟩ = some (.slice A263_4 ((rd_T147 l0_6 x3_3).f1.f2.f1).length c263_4) ∧ w'.cell? ⟨(ad263.add ((x3_3).toNat * 7)).block, (ad263.add ((x3_3).toNat * 7)).off + 5, none⟩ = some (.slice A263_5 ((rd_T147 l0_6 x3_3).f1.f2.f2).length c263_5) ∧ w'.cell? ⟨(ad263.add ((x3_3).toNat * 7)).block, (ad263.add ((x3_3).toNat * 7)).off + 6, none⟩ = some (.int .i64 ((rd_T147 l0_6 x3_3).f1.f2.f3)) ∧ w'.cell? (ad263.add ((x3_3).toNat * 7)) = some (.int .i64 ((rd_T147 l0_6 x3_3).f0)) ∧ w'.cell? ⟨(ad263.add ((x3_3).toNat * 7)).block, (ad263.add ((x3_3).toNat * 7)).off + 1, none⟩ = some (.int .i64 ((rd_T147 l0_6 x3_3).f1.f0)) ∧ w'.cell? ⟨(ad263.add ((x3_3).toNat * 7)).block, (ad263.add ((x3_3).toNat * 7)).off + 2, none⟩ = some (.int .i64 ((rd_T147 l0_6 x3_3).f1.f1)) ∧ w'.cell? ⟨(ad263.add ((x3_3).toNat * 7)).block, (ad263.add ((x3_3).toNat * 7)).off + 3, none⟩ = some (.int .i64 ((rd_T147 l0_6 x3_3).f1.f2.f0)) ∧ w'.cell? ⟨(ad263.add ((x3_3).toNat * 7)).block, (ad263.add ((x3_3).toNat * 7)).off + 4, none⟩ = some (.slice A265_4 ((rd_T147 l0_6 x3_3).f1.f2.f1).length c265_4) ∧ w'.cell? ⟨(ad263.add ((x3_3).toNat * 7)).block, (ad263.add ((x3_3).toNat * 7)).off + 5, none⟩ = some (.slice A265_5 ((rd_T147 l0_6 x3_3).f1.f2.f2).length c265_5) ∧ w'.cell? ⟨(ad263.add ((x3_3).toNat * 7)).block, (ad263.add ((x3_3).toNat * 7)).off + 6, none⟩ = some (.int .i64 ((rd_T147 l0_6 x3_3).f1.f2.f3)) ∧ w'.cell? (ad263.add (((ji52)).toNat * 7)) = some (.int .i64 ((rd_T147 l0_6 (ji52)).f0)) ∧ w'.cell? ⟨(ad263.add (((ji52)).toNat * 7)).block, (ad263.add (((ji52)).toNat * 7)).off + 1, none⟩ = some (.int .i64 ((rd_T147 l0_6 (ji52)).f1.f0)) ∧ w'.cell? ⟨(ad263.add (((ji52)).toNat * 7)).block, (ad263.add (((ji52)).toNat * 7)).off + 2, none⟩ = some (.int .i64 ((rd_T147 l0_6 (ji52)).f1.f1)) ∧ w'.cell? ⟨(ad263.add (((ji52)).toNat * 7)).block, (ad263.add (((ji52)).toNat * 7)).off + 3, none⟩ = some (.int .i64 ((rd_T147 l0_6 (ji52)).f1.f2.f0)) ∧ w'.cell? ⟨(ad263.add (((ji52)).toNat * 7)).block, (ad263.add (((ji52)).toNat * 7)).off + 4, none⟩ = some (.slice A266_4 ((rd_T147 l0_6 (ji52)).f1.f2.f1).length c266_4) ∧ w'.cell? ⟨(ad263.add (((ji52)).toNat * 7)).block, (ad263.add (((ji52)).toNat * 7)).off + 5, none⟩ = some (.slice A266_5 ((rd_T147 l0_6 (ji52)).f1.f2.f2).length c266_5) ∧ w'.cell? ⟨(ad263.add (((ji52)).toNat * 7)).block, (ad263.add (((ji52)).toNat * 7)).off + 6, none⟩ = some (.int .i64 ((rd_T147 l0_6 (ji52)).f1.f2.f3)) ∧ w'.cell? (ad263.add ((x3_3).toNat * 7)) = some (.int .i64 ((rd_T147 l0_6 x3_3).f0)) ∧ w'.cell? ⟨(ad263.add ((x3_3).toNat * 7)).block, (ad263.add ((x3_3).toNat * 7)).off + 1, none⟩ = some (.int .i64 ((rd_T147 l0_6 x3_3).f1.f0)) ∧ w'.cell? ⟨(ad263.add ((x3_3).toNat * 7)).block, (ad263.add ((x3_3).toNat * 7)).off + 2, none⟩ = some (.int .i64 ((rd_T147 l0_6 x3_3).f1.f1)) ∧ w'.cell? ⟨(ad263.add ((x3_3).toNat * 7)).block, (ad263.add ((x3_3).toNat * 7)).off + 3, none⟩ = some (.int .i64 ((rd_T147 l0_6 x3_3).f1.f2.f0)) ∧ w'.cell? ⟨(ad263.add ((x3_3).toNat * 7)).block, (ad263.add ((x3_3).toNat * 7)).off + 4, none⟩ = some (.slice A265_4 ((rd_T147 l0_6 x3_3).f1.f2.f1).length c265_4) ∧ w'.cell? ⟨(ad263.add ((x3_3).toNat * 7)).block, (ad263.add ((x3_3).toNat * 7)).off + 5, none⟩ = some (.slice A265_5 ((rd_T147 l0_6 x3_3).f1.f2.f2).length c265_5) ∧ w'.cell? ⟨(ad263.add ((x3_3).toNat * 7)).block, (ad263.add ((x3_3).toNat * 7)).off + 6, none⟩ = some (.int .i64 ((rd_T147 l0_6 x3_3).f1.f2.f3)) ∧ w'.cell? (ad263.add ((x3_3).toNat * 7)) = some (.int .i64 ((rd_T147 l0_6 x3_3).f0)) ∧ w'.cell? ⟨(ad263.add ((x3_3).toNat * 7)).block, (ad263.add ((x3_3).toNat * 7)).off + 1, none⟩ = some (.int .i64 ((rd_T147 l0_6 x3_3).f1.f0)) ∧ w'.cell? ⟨(ad263.add ((x3_3).toNat * 7)).block, (ad263.add ((x3_3).toNat * 7)).off + 2, none⟩ = some (.int .i64 ((rd_T147 l0_6 x3_3).f1.f1)) ∧ w'.cell? ⟨(ad263.add ((x3_3).toNat * 7)).block, (ad263.add ((x3_3).toNat * 7)).off + 3, none⟩ = some (.int .i64 ((rd_T147 l0_6 x3_3).f1.f2.f0)) ∧ w'.cell? ⟨(ad263.add ((x3_3).toNat * 7)).block, (ad263.add ((x3_3).toNat * 7)).off + 4, none⟩ = some (.slice A265_4 ((rd_T147 l0_6 x3_3).f1.f2.f1).length c265_4) ∧ w'.cell? ⟨(ad263.add ((x3_3).toNat * 7)).block, (ad263.add ((x3_3).toNat * 7)).off + 5, none⟩ = some (.slice A265_5 ((rd_T147 l0_6 x3_3).f1.f2.f2).length c265_5) ∧ w'.cell? ⟨(ad263.add ((x3_3).toNat * 7)).block, (ad263.add ((x3_3).toNat * 7)).off + 6, none⟩ = some (.int .i64 ((rd_T147 l0_6 x3_3).f1.f2.f3))) (ds := []) (tf 0 49) (by kernel_rfl) rfl rfl (cells_9 BK256.out ⟨(hxb HB hw263_0 :), (hxb HB hw263_1 :), (hxb HB hw263_2 :), (hxb HB hw263_3 :), (hxb HB hw263_4 :), (hxb HB hw263_5 :), (hxb HB hw263_6 :), (hxb HB hw265_0 :), (hxb HB hw265_1 :), (hxb HB hw265_2 :), (hxb HB hw265_3 :), (hxb HB hw265_4 :), (hxb HB hw265_5 :), (hxb HB hw265_6 :), (hxb HB hw266_0 :), (hxb HB hw266_1 :), (hxb HB hw266_2 :), (hxb HB hw266_3 :), (hxb HB hw266_4 :), (hxb HB hw266_5 :), (hxb HB hw266_6 :), (hxb HB hw267_0 :), (hxb HB hw267_1 :), (hxb HB hw267_2 :), (hxb HB hw267_3 :), (hxb HB hw267_4 :), (hxb HB hw267_5 :), (hxb HB hw267_6 :), (hxb HB hw268_0 :), (hxb HB hw268_1 :), (hxb HB hw268_2 :), (hxb HB hw268_3 :), (hxb HB hw268_4 :), (hxb HB hw268_5 :), (hxb HB hw268_6 :)⟩) (fun hHeld => ?_); refine with_tabW spec_MsgOk.tab8 spec_MsgOk.bits8 (fun HT_ HW_ => ?_)
             generalize wr.drew = wv1 at BK256 HB HR263_4 HR263_5 HR265_4 HR265_5 HR266_4 HR266_5 HR267_4 HR267_5 HR268_4 HR268_5 hx263_0 hx263_1 hx263_2 hx263_3 hx263_4 hx263_5 hx263_6 hx265_0 hx265_1 hx265_2 hx265_3 hx265_4 hx265_5 hx265_6 hx266_0 hx266_1 hx266_2 hx266_3 hx266_4 hx266_5 hx266_6 hx267_0 hx267_1 hx267_2 hx267_3 hx267_4 hx267_5 hx267_6 hx268_0 hx268_1 hx268_2 hx268_3 hx268_4 hx268_5 hx268_6 hHeld ⊢
             refine pvn_ HT_ (h := ?_)
             refine pv_ HT_ 2 (some 108) (tb 49 5) (h := ?_)
             refine tv_ HT_ HW_ hHeld 1 (some 107) (tf 3 46) (h := ?_)
             refine pvn_ HT_ (h := ?_)
             refine tvn_ HT_ HW_ hHeld (h := ?_)
             refine one_ (i := 5) (N := some 111) (tf 6 43) rfl rfl (one_of HT_.out (by kernel_rfl)) (by decide) (fun K hK => ?_)
             refine gs_ Try.func110 #[.agg #[.int .i64 ((rd_T147 l0_6 x3_3).f0), .int .i64 ((rd_T147 l0_6 x3_3).f1.f0), .int .i64 ((rd_T147 l0_6 x3_3).f1.f1), .int .i64 ((rd_T147 l0_6 x3_3).f1.f2.f0), .slice A263_4 ((rd_T147 l0_6 x3_3).f1.f2.f1).length c263_4, .slice A263_5 ((rd_T147 l0_6 x3_3).f1.f2.f2).length c263_5, .int .i64 ((rd_T147 l0_6 x3_3).f1.f2.f3)]] (h := ?_)
             with_reducible refine (spec_ItemOk.calls k3 ((rd_T147 l0_6 x3_3).f0) ((rd_T147 l0_6 x3_3).f1.f0) ((rd_T147 l0_6 x3_3).f1.f1) ((rd_T147 l0_6 x3_3).f1.f2.f0) _ _ ((rd_T147 l0_6 x3_3).f1.f2.f1) _ _ ((rd_T147 l0_6 x3_3).f1.f2.f2) ((rd_T147 l0_6 x3_3).f1.f2.f3) true _ ?side1 ?side2 ?side3 ?side4 A45.out).mono ?_
             (case side1 => exact kcb)
             (case side2 => exact HC263_4.out)
             (case side3 => exact kcb)
             (case side4 => exact HC263_5.out)
             rintro e wv2 ⟨rfl, hb⟩
             refine ⟨_, rfl, ?_⟩
             replace BK256 := Aside0.mk (blb BK256 hb)
             replace HB := Aside0.mk (below_step bel hb)
             (try clear hb)
             (try clear hb2)
             (try clear hk)
             (try clear hi)
             refine hK.out _ _ (cells_9 BK256.out ⟨(hxb HB hw263_0 :), (hxb HB hw263_1 :), (hxb HB hw263_2 :), (hxb HB hw263_3 :), (hxb HB hw263_4 :), (hxb HB hw263_5 :), (hxb HB hw263_6 :), (hxb HB hw265_0 :), (hxb HB hw265_1 :), (hxb HB hw265_2 :), (hxb HB hw265_3 :), (hxb HB hw265_4 :), (hxb HB hw265_5 :), (hxb HB hw265_6 :), (hxb HB hw266_0 :), (hxb HB hw266_1 :), (hxb HB hw266_2 :), (hxb HB hw266_3 :), (hxb HB hw266_4 :), (hxb HB hw266_5 :), (hxb HB hw266_6 :), (hxb HB hw267_0 :), (hxb HB hw267_1 :), (hxb HB hw267_2 :), (hxb HB hw267_3 :), (hxb HB hw267_4 :), (hxb HB hw267_5 :), (hxb HB hw267_6 :), (hxb HB hw268_0 :), (hxb HB hw268_1 :), (hxb HB hw268_2 :), (hxb HB hw268_3 :), (hxb HB hw268_4 :), (hxb HB hw268_5 :), (hxb HB hw268_6 :)⟩) (fun hHeld => ?_)
             clear hK K
             refine nrm_ (some 111) (h := ?_)
             iterate 3 (refine pvn_ HT_ (h := ?_))
             refine pv_ HT_ 10 (some 116) (tb 49 1535) (h := ?_)
             refine pv_ HT_ 14 (some 120) (tb 49 17919) (h := ?_)
             refine tv_ HT_ HW_ hHeld 9 (some 115) (tb 49 18431) (h := ?_)
             refine pv_ HT_ 11 (some 117) (tb 49 20479) (h := ?_)
             refine pv_ HT_ 12 (some 118) (tb 49 24575) (h := ?_)
             refine tv_ HT_ HW_ hHeld 13 (some 119) (tf 15 34) (h := ?_)
             refine tvn_ HT_ HW_ hHeld (h := ?_)
             iterate 7 (refine pvn_ HT_ (h := ?_))
             refine pv_ HT_ 24 (some 130) (tb 49 25165823) (h := ?_)
             refine pv_ HT_ 25 (some 131) (tb 49 58720255) (h := ?_)
             refine pv_ HT_ 29 (some 135) (tb 49 595591167) (h := ?_)
             refine pv_ HT_ 31 (some 137) (tb 49 2743074815) (h := ?_)
             refine tv_ HT_ HW_ hHeld 23 (some 129) (tb 49 2751463423) (h := ?_)
             refine pv_ HT_ 26 (some 132) (tb 49 2818572287) (h := ?_)
             refine pv_ HT_ 27 (some 133) (tb 49 2952790015) (h := ?_)
             refine tv_ HT_ HW_ hHeld 28 (some 134) (tb 49 3221225471) (h := ?_)
             refine tv_ HT_ HW_ hHeld 30 (some 136) (tf 32 17) (h := ?_)
             iterate 2 (refine pvn_ HT_ (h := ?_))
             refine tvn_ HT_ HW_ hHeld (h := ?_)
             iterate 5 (refine pvn_ HT_ (h := ?_))
             refine pv_ HT_ 41 (some 147) (tb 49 3298534883327) (h := ?_)
             refine pv_ HT_ 45 (some 151) (tb 49 38482906972159) (h := ?_)
             refine tv_ HT_ HW_ hHeld 40 (some 146) (tb 49 39582418599935) (h := ?_)
             refine pv_ HT_ 42 (some 148) (tb 49 43980465111039) (h := ?_)
             refine pv_ HT_ 43 (some 149) (tb 49 52776558133247) (h := ?_)
             by_cases c59 : ((rd_T147 l0_6 x3_3).f0) < a0_5
             ·rw [if_pos c59] at H
              have c59b0 : decide (((rd_T147 l0_6 x3_3).f0) < a0_5) = true := decide_eq_true c59
              clear c59
              obtain rfl := Option.some.inj H
              refine tv_ HT_ HW_ hHeld 44 (some 150) (tf 46 3) (h := ?_)
              refine tvn_ HT_ HW_ hHeld (h := ?_)
              iterate 2 (refine pvn_ HT_ (h := ?_))
              refine done_ (done_of HT_.out (by kernel_rfl)) ?_
              try go_wp2
              go_ret
              exact ⟨by first | rfl | (simp [errW_none, errW_some] <;> rfl) | (simp only [← hji52]; first | rfl | (simp [errW_none, errW_some] <;> rfl)) | (simp [*, errW_none, errW_some] <;> rfl), bel⟩
             rw [if_neg c59] at H
             have c59b0 : decide (((rd_T147 l0_6 x3_3).f0) < a0_5) = false := decide_eq_false c59
             clear c59
             have H' := Aside0.mk H
             clear H
             refine tv_ HT_ HW_ hHeld 44 (some 150) (tf 46 3) (h := ?_)
             refine tvn_ HT_ HW_ hHeld (h := ?_)
             iterate 2 (refine pvn_ HT_ (h := ?_))
             refine done_ (done_of HT_.out (by kernel_rfl)) ?_
             try go_wp2
             go_roundg k3
             case measure => have := HJ1.out; have := HJ35.out; have := HK3.out; omega
             case rel => exact ⟨(wrap64 (x3_3 + 1)), rs_, H', ⟨by have := HJ1.out; have := HJ35.out; have := HK3.out; omega⟩, ⟨by (with_reducible repeat (first | refine blk_drewN ?_ _ | refine blk_drew ?_ | refine blk_alloc ?_ _)); exact BK256.out⟩, ⟨bel⟩⟩
            rw [if_neg c54] at H
            exact absurd H (by simp)
           rw [if_neg c53] at H
           exact absurd H (by simp)
          rw [if_neg c51] at H
          have c51b0 : decide (0 < x3_3) = false := decide_eq_false c51
          clear c51
          by_cases c66 : ((rd_T147 l0_6 x3_3).f0) < a0_5
          ·rw [if_pos c66] at H
           have c66b0 : decide (((rd_T147 l0_6 x3_3).f0) < a0_5) = true := decide_eq_true c66
           clear c66
           as_aux_lemma =>
            obtain rfl := Option.some.inj H
            obtain ⟨hcz67_0, hcz67_1, hcz67_2, hcz67_3, hcz67_4, hcz67_5, hcz67_6, hcz67_7, hcz67_8, -⟩ := cells_9 BK256.out trivial
            obtain ⟨hfz67_0, hfz67_1, hfz67_2, hfz67_3, hfz67_4, hfz67_5, hfz67_6, hfz67_7, hfz67_8, -⟩ := frz_9 BK256.out
            try go_wp2
            replace BK256 := Aside0.mk (blk_drew BK256.out)
            replace HB := Aside0.mk (below_drew1 HB.out)
            have p263 : 0 ≤ (x3_3 : Int) := od
            have q263 : x3_3 < (l0_6.length : Int) := od
            obtain ⟨ad263, A263_4, c263_4, A263_5, c263_5, e263, hx263_0, hx263_1, hx263_2, hx263_3, hx263_4, hx263_5, hx263_6, hl263_4, hi263_4, hl263_5, hi263_5⟩ := at_T147 HR0_6.out x3_3 p263 q263
            have hw263_6 := hx263_6
            have hw263_5 := hx263_5
            have hw263_4 := hx263_4
            have hw263_3 := hx263_3
            have hw263_2 := hx263_2
            have hw263_1 := hx263_1
            have hw263_0 := hx263_0
            cases e263
            replace hx263_0 := hxb HB hx263_0
            replace hx263_1 := hxb HB hx263_1
            replace hx263_2 := hxb HB hx263_2
            replace hx263_3 := hxb HB hx263_3
            replace hx263_4 := hxb HB hx263_4
            replace hx263_5 := hxb HB hx263_5
            replace hx263_6 := hxb HB hx263_6
            have HR263_4 := Aside0.mk hi263_4
            have HC263_4 := Aside0.mk hl263_4
            clear hi263_4 hl263_4
            have HR263_5 := Aside0.mk hi263_5
            have HC263_5 := Aside0.mk hl263_5
            clear hi263_5 hl263_5
            replace p263 := eq_true p263
            replace q263 := eq_true q263
            have p265 : 0 ≤ (x3_3 : Int) := od
            have q265 : x3_3 < (l0_6.length : Int) := od
            obtain ⟨ad265, A265_4, c265_4, A265_5, c265_5, e265, hx265_0, hx265_1, hx265_2, hx265_3, hx265_4, hx265_5, hx265_6, hl265_4, hi265_4, hl265_5, hi265_5⟩ := at_T147 HR0_6.out x3_3 p265 q265
            have hw265_6 := hx265_6
            have hw265_5 := hx265_5
            have hw265_4 := hx265_4
            have hw265_3 := hx265_3
            have hw265_2 := hx265_2
            have hw265_1 := hx265_1
            have hw265_0 := hx265_0
            obtain rfl : ad263 = ad265 := (by injection e265)
            replace hx265_0 := hxb HB hx265_0
            replace hx265_1 := hxb HB hx265_1
            replace hx265_2 := hxb HB hx265_2
            replace hx265_3 := hxb HB hx265_3
            replace hx265_4 := hxb HB hx265_4
            replace hx265_5 := hxb HB hx265_5
            replace hx265_6 := hxb HB hx265_6
            have HR265_4 := Aside0.mk hi265_4
            have HC265_4 := Aside0.mk hl265_4
            clear hi265_4 hl265_4
            have HR265_5 := Aside0.mk hi265_5
            have HC265_5 := Aside0.mk hl265_5
            clear hi265_5 hl265_5
            replace p265 := eq_true p265
            replace q265 := eq_true q265
            have p269 : 0 ≤ (x3_3 : Int) := od
            have q269 : x3_3 < (l0_6.length : Int) := od
            obtain ⟨ad269, A269_4, c269_4, A269_5, c269_5, e269, hx269_0, hx269_1, hx269_2, hx269_3, hx269_4, hx269_5, hx269_6, hl269_4, hi269_4, hl269_5, hi269_5⟩ := at_T147 HR0_6.out x3_3 p269 q269
            have hw269_6 := hx269_6
            have hw269_5 := hx269_5
            have hw269_4 := hx269_4
            have hw269_3 := hx269_3
            have hw269_2 := hx269_2
            have hw269_1 := hx269_1
            have hw269_0 := hx269_0
            obtain rfl : ad263 = ad269 := (by injection e269)
            replace hx269_0 := hxb HB hx269_0
            replace hx269_1 := hxb HB hx269_1
            replace hx269_2 := hxb HB hx269_2
            replace hx269_3 := hxb HB hx269_3
            replace hx269_4 := hxb HB hx269_4
            replace hx269_5 := hxb HB hx269_5
            replace hx269_6 := hxb HB hx269_6
            have HR269_4 := Aside0.mk hi269_4
            have HC269_4 := Aside0.mk hl269_4
            clear hi269_4 hl269_4
            have HR269_5 := Aside0.mk hi269_5
            have HC269_5 := Aside0.mk hl269_5
            clear hi269_5 hl269_5
            replace p269 := eq_true p269
            replace q269 := eq_true q269
            have ea_ := Option.some.inj (hx265_4.symm.trans hx269_4)
            injection ea_ with ea_ en_ ec_
            subst ea_
            subst ec_
            clear en_
            have ea_ := Option.some.inj (hx265_5.symm.trans hx269_5)
            injection ea_ with ea_ en_ ec_
            subst ea_
            subst ec_
            clear en_
            refine start_ (n := 49) (S := fun w' => w'.cell? ⟨gb256, 0, none⟩ = some (.int .i64 a0_0) ∧ w'.cell? ⟨gb256, 1, none⟩ = some (.int .i64 a0_1) ∧ w'.cell? ⟨gb256, 2, none⟩ = some (.int .i64 a0_2) ∧ w'.cell? ⟨gb256, 3, none⟩ = some (.int .i64 a0_3) ∧ w'.cell? ⟨gb256, 4, none⟩ = some (.int .i64 a0_4) ∧ w'.cell? ⟨gb256, 5, none⟩ = some (.int .i64 a0_5) ∧ w'.cell? ⟨gb256, 6, none⟩ = some (.slice (some ad263) l0_6.length c0_6) ∧ w'.cell? ⟨gb256, 7, none⟩ = some (.int .i64 a0_7) ∧ w'.cell? ⟨gb256, 8, none⟩ = some (.bool a0_8) ∧ w'.cell? (ad263.add ((x3_3).toNat * 7)) = some (.int .i64 ((rd_T147 l0_6 x3_3).f0)) ∧ w'.cell? ⟨(ad263.add ((x3_3).toNat * 7)).block, (ad263.add ((x3_3).toNat * 7)).off + 1, none⟩ = some (.int .i64 ((rd_T147 l0_6 x3_3).f1.f0)) ∧ w'.cell? ⟨(ad263.add ((x3_3).toNat * 7)).block, (ad263.add ((x3_3).toNat * 7)).off + 2, none⟩ = some (.int .i64 ((rd_T147 l0_6 x3_3).f1.f1)) ∧ w'.cell? ⟨(ad263.add ((x3_3).toNat * 7)).block, (ad263.add ((x3_3).toNat * 7)).off + 3, none⟩ = some (.int .i64 ((rd_T147 l0_6 x3_3).f1.f2.f0)) ∧ w'.cell? ⟨(ad263.add ((x3_3).toNat * 7)).block, (ad263.add ((x3_3).toNat * 7)).off + 4, none⟩ = some (.slice A263_4 ((rd_T147 l0_6 x3_3).f1.f2.f1).length c263_4) ∧ w'.cell? ⟨(ad263.add ((x3_3).toNat * 7)).block, (ad263.add ((x3_3).toNat * 7)).off + 5, none⟩ = some (.slice A263_5 ((rd_T147 l0_6 x3_3).f1.f2.f2).length c263_5) ∧ w'.cell? ⟨(ad263.add ((x3_3).toNat * 7)).block, (ad263.add ((x3_3).toNat * 7)).off + 6, none⟩ = some (.int .i64 ((rd_T147 l0_6 x3_3).f1.f2.f3)) ∧ w'.cell? (ad263.add ((x3_3).toNat * 7)) = some (.int .i64 ((rd_T147 l0_6 x3_3).f0)) ∧ w'.cell? ⟨(ad263.add ((x3_3).toNat * 7)).block, (ad263.add ((x3_3).toNat * 7)).off + 1, none⟩ = some (.int .i64 ((rd_T147 l0_6 x3_3).f1.f0)) ∧ w'.cell? ⟨(ad263.add ((x3_3).toNat * 7)).block, (ad263.add ((x3_3).toNat * 7)).off + 2, none⟩ = some (.int .i64 ((rd_T147 l0_6 x3_3).f1.f1)) ∧ w'.cell? ⟨(ad263.add ((x3_3).toNat * 7)).block, (ad263.add ((x3_3).toNat * 7)).off + 3, none⟩ = some (.int .i64 ((rd_T147 l0_6 x3_3).f1.f2.f0)) ∧ w'.cell? ⟨(ad263.add ((x3_3).toNat * 7)).block, (ad263.add ((x3_3).toNat * 7)).off + 4, none⟩ = some (.slice A265_4 ((rd_T147 l0_6 x3_3).f1.f2.f1).length c265_4) ∧ w'.cell? ⟨(ad263.add ((x3_3).toNat * 7)).block, (ad263.add ((x3_3).toNat * 7)).off + 5, none⟩ = some (.slice A265_5 ((rd_T147 l0_6 x3_3).f1.f2.f2).length c265_5) ∧ w'.cell? ⟨(ad263.add ((x3_3).toNat * 7)).block, (ad263.add ((x3_3).toNat * 7)).off + 6, none⟩ = some (.int .i64 ((rd_T147 l0_6 x3_3).f1.f2.f3)) ∧ w'.cell? (ad263.add ((x3_3).toNat * 7)) = some (.int .i64 ((rd_T147 l0_6 x3_3).f0)) ∧ w'.cell? ⟨(ad263.add ((x3_3).toNat * 7)).block, (ad263.add ((x3_3).toNat * 7)).off + 1, none⟩ = some (.int .i64 ((rd_T147 l0_6 x3_3).f1.f0)) ∧ w'.cell? ⟨(ad263.add ((x3_3).toNat * 7)).block, (ad263.add ((x3_3).toNat * 7)).off + 2, none⟩ = some (.int .i64 ((rd_T147 l0_6 x3_3).f1.f1)) ∧ w'.cell? ⟨(ad263.add ((x3_3).toNat * 7)).block, (ad263.add ((x3_3).toNat * 7)).off + 3, none⟩ = some (.int .i64 ((rd_T147 l0_6 x3_3).f1.f2.f0)) ∧ w'.cell? ⟨(ad263.add ((x3_3).toNat * 7)).block, (ad263.add ((x3_3).toNat * 7)).off + 4, none⟩ = some (.slice A265_4 ((rd_T147 l0_6 x3_3).f1.f2.f1).length c265_4) ∧ w'.cell? ⟨(ad263.add ((x3_3).toNat * 7)).block, (ad263.add ((x3_3).toNat * 7)).off + 5, none⟩ = some (.slice A265_5 ((rd_T147 l0_6 x3_3).f1.f2.f2).length c265_5) ∧ w'.cell? ⟨(ad263.add ((x3_3).toNat * 7)).block, (ad263.add ((x3_3).toNat * 7)).off + 6, none⟩ = some (.int .i64 ((rd_T147 l0_6 x3_3).f1.f2.f3))) (ds := []) (tf 0 49) (by kernel_rfl) rfl rfl (cells_9 BK256.out ⟨(hxb HB hw263_0 :), (hxb HB hw263_1 :), (hxb HB hw263_2 :), (hxb HB hw263_3 :), (hxb HB hw263_4 :), (hxb HB hw263_5 :), (hxb HB hw263_6 :), (hxb HB hw265_0 :), (hxb HB hw265_1 :), (hxb HB hw265_2 :), (hxb HB hw265_3 :), (hxb HB hw265_4 :), (hxb HB hw265_5 :), (hxb HB hw265_6 :), (hxb HB hw269_0 :), (hxb HB hw269_1 :), (hxb HB hw269_2 :), (hxb HB hw269_3 :), (hxb HB hw269_4 :), (hxb HB hw269_5 :), (hxb HB hw269_6 :)⟩) (fun hHeld => ?_); refine with_tabW spec_MsgOk.tab8 spec_MsgOk.bits8 (fun HT_ HW_ => ?_)
            generalize wr.drew = w68 at BK256 HB HR263_4 HR263_5 HR265_4 HR265_5 HR269_4 HR269_5 hx263_0 hx263_1 hx263_2 hx263_3 hx263_4 hx263_5 hx263_6 hx265_0 hx265_1 hx265_2 hx265_3 hx265_4 hx265_5 hx265_6 hx269_0 hx269_1 hx269_2 hx269_3 hx269_4 hx269_5 hx269_6 hHeld ⊢
            refine pvn_ HT_ (h := ?_)
            refine pv_ HT_ 2 (some 108) (tb 49 5) (h := ?_)
            refine tv_ HT_ HW_ hHeld 1 (some 107) (tf 3 46) (h := ?_)
            refine pvn_ HT_ (h := ?_)
            refine tvn_ HT_ HW_ hHeld (h := ?_)
            refine one_ (i := 5) (N := some 111) (tf 6 43) rfl rfl (one_of HT_.out (by kernel_rfl)) (by decide) (fun K hK => ?_)
            refine gs_ Try.func110 #[.agg #[.int .i64 ((rd_T147 l0_6 x3_3).f0), .int .i64 ((rd_T147 l0_6 x3_3).f1.f0), .int .i64 ((rd_T147 l0_6 x3_3).f1.f1), .int .i64 ((rd_T147 l0_6 x3_3).f1.f2.f0), .slice A263_4 ((rd_T147 l0_6 x3_3).f1.f2.f1).length c263_4, .slice A263_5 ((rd_T147 l0_6 x3_3).f1.f2.f2).length c263_5, .int .i64 ((rd_T147 l0_6 x3_3).f1.f2.f3)]] (h := ?_)
            with_reducible refine (spec_ItemOk.calls k3 ((rd_T147 l0_6 x3_3).f0) ((rd_T147 l0_6 x3_3).f1.f0) ((rd_T147 l0_6 x3_3).f1.f1) ((rd_T147 l0_6 x3_3).f1.f2.f0) _ _ ((rd_T147 l0_6 x3_3).f1.f2.f1) _ _ ((rd_T147 l0_6 x3_3).f1.f2.f2) ((rd_T147 l0_6 x3_3).f1.f2.f3) true _ ?side1 ?side2 ?side3 ?side4 A45.out).mono ?_
            (case side1 => exact kcb)
            (case side2 => exact HC263_4.out)
            (case side3 => exact kcb)
            (case side4 => exact HC263_5.out)
            rintro e w69 ⟨rfl, hb⟩
            refine ⟨_, rfl, ?_⟩
            replace BK256 := Aside0.mk (blb BK256 hb)
            replace HB := Aside0.mk (below_step bel hb)
            (try clear hb)
            (try clear hb2)
            (try clear hk)
            (try clear hi)
            refine hK.out _ _ (cells_9 BK256.out ⟨(hxb HB hw263_0 :), (hxb HB hw263_1 :), (hxb HB hw263_2 :), (hxb HB hw263_3 :), (hxb HB hw263_4 :), (hxb HB hw263_5 :), (hxb HB hw263_6 :), (hxb HB hw265_0 :), (hxb HB hw265_1 :), (hxb HB hw265_2 :), (hxb HB hw265_3 :), (hxb HB hw265_4 :), (hxb HB hw265_5 :), (hxb HB hw265_6 :), (hxb HB hw269_0 :), (hxb HB hw269_1 :), (hxb HB hw269_2 :), (hxb HB hw269_3 :), (hxb HB hw269_4 :), (hxb HB hw269_5 :), (hxb HB hw269_6 :)⟩) (fun hHeld => ?_)
            clear hK K
            refine nrm_ (some 111) (h := ?_)
            iterate 3 (refine pvn_ HT_ (h := ?_))
            refine pv_ HT_ 10 (some 116) (tb 49 1535) (h := ?_)
            refine pv_ HT_ 14 (some 120) (tb 49 17919) (h := ?_)
            refine tv_ HT_ HW_ hHeld 9 (some 115) (tb 49 18431) (h := ?_)
            refine pv_ HT_ 11 (some 117) (tb 49 20479) (h := ?_)
            refine pv_ HT_ 12 (some 118) (tb 49 24575) (h := ?_)
            refine tv_ HT_ HW_ hHeld 13 (some 119) (tf 15 34) (h := ?_)
            refine tvn_ HT_ HW_ hHeld (h := ?_)
            iterate 6 (refine pvn_ HT_ (h := ?_))
            refine puns_ HT_ 14 [some _, some _, some _, some _, some _, some _, some _, some _, some _, some _, some _, some _, some _, some _] (h := ?_)
            iterate 4 (refine pvn_ HT_ (h := ?_))
            refine pv_ HT_ 41 (some 147) (tb 49 3298534883327) (h := ?_)
            refine pv_ HT_ 45 (some 151) (tb 49 38482906972159) (h := ?_)
            refine tv_ HT_ HW_ hHeld 40 (some 146) (tb 49 39582418599935) (h := ?_)
            refine pv_ HT_ 42 (some 148) (tb 49 43980465111039) (h := ?_)
            refine pv_ HT_ 43 (some 149) (tb 49 52776558133247) (h := ?_)
            refine tv_ HT_ HW_ hHeld 44 (some 150) (tf 46 3) (h := ?_)
            refine tvn_ HT_ HW_ hHeld (h := ?_)
            iterate 2 (refine pvn_ HT_ (h := ?_))
            refine done_ (done_of HT_.out (by kernel_rfl)) ?_
            try go_wp2
            go_ret
            exact ⟨rz_, bel⟩
          rw [if_neg c66] at H
          have c66b0 : decide (((rd_T147 l0_6 x3_3).f0) < a0_5) = false := decide_eq_false c66
          clear c66
          as_aux_lemma =>
           have H' := Aside0.mk H
           clear H
           obtain ⟨hcz70_0, hcz70_1, hcz70_2, hcz70_3, hcz70_4, hcz70_5, hcz70_6, hcz70_7, hcz70_8, -⟩ := cells_9 BK256.out trivial
           obtain ⟨hfz70_0, hfz70_1, hfz70_2, hfz70_3, hfz70_4, hfz70_5, hfz70_6, hfz70_7, hfz70_8, -⟩ := frz_9 BK256.out
           try go_wp2
           replace BK256 := Aside0.mk (blk_drew BK256.out)
           replace HB := Aside0.mk (below_drew1 HB.out)
           have p263 : 0 ≤ (x3_3 : Int) := od
           have q263 : x3_3 < (l0_6.length : Int) := od
           obtain ⟨ad263, A263_4, c263_4, A263_5, c263_5, e263, hx263_0, hx263_1, hx263_2, hx263_3, hx263_4, hx263_5, hx263_6, hl263_4, hi263_4, hl263_5, hi263_5⟩ := at_T147 HR0_6.out x3_3 p263 q263
           have hw263_6 := hx263_6
           have hw263_5 := hx263_5
           have hw263_4 := hx263_4
           have hw263_3 := hx263_3
           have hw263_2 := hx263_2
           have hw263_1 := hx263_1
           have hw263_0 := hx263_0
           cases e263
           replace hx263_0 := hxb HB hx263_0
           replace hx263_1 := hxb HB hx263_1
           replace hx263_2 := hxb HB hx263_2
           replace hx263_3 := hxb HB hx263_3
           replace hx263_4 := hxb HB hx263_4
           replace hx263_5 := hxb HB hx263_5
           replace hx263_6 := hxb HB hx263_6
           have HR263_4 := Aside0.mk hi263_4
           have HC263_4 := Aside0.mk hl263_4
           clear hi263_4 hl263_4
           have HR263_5 := Aside0.mk hi263_5
           have HC263_5 := Aside0.mk hl263_5
           clear hi263_5 hl263_5
           replace p263 := eq_true p263
           replace q263 := eq_true q263
           have p265 : 0 ≤ (x3_3 : Int) := od
           have q265 : x3_3 < (l0_6.length : Int) := od
           obtain ⟨ad265, A265_4, c265_4, A265_5, c265_5, e265, hx265_0, hx265_1, hx265_2, hx265_3, hx265_4, hx265_5, hx265_6, hl265_4, hi265_4, hl265_5, hi265_5⟩ := at_T147 HR0_6.out x3_3 p265 q265
           have hw265_6 := hx265_6
           have hw265_5 := hx265_5
           have hw265_4 := hx265_4
           have hw265_3 := hx265_3
           have hw265_2 := hx265_2
           have hw265_1 := hx265_1
           have hw265_0 := hx265_0
           obtain rfl : ad263 = ad265 := (by injection e265)
           replace hx265_0 := hxb HB hx265_0
           replace hx265_1 := hxb HB hx265_1
           replace hx265_2 := hxb HB hx265_2
           replace hx265_3 := hxb HB hx265_3
           replace hx265_4 := hxb HB hx265_4
           replace hx265_5 := hxb HB hx265_5
           replace hx265_6 := hxb HB hx265_6
           have HR265_4 := Aside0.mk hi265_4
           have HC265_4 := Aside0.mk hl265_4
           clear hi265_4 hl265_4
           have HR265_5 := Aside0.mk hi265_5
           have HC265_5 := Aside0.mk hl265_5
           clear hi265_5 hl265_5
           replace p265 := eq_true p265
           replace q265 := eq_true q265
           have p269 : 0 ≤ (x3_3 : Int) := od
           have q269 : x3_3 < (l0_6.length : Int) := od
           obtain ⟨ad269, A269_4, c269_4, A269_5, c269_5, e269, hx269_0, hx269_1, hx269_2, hx269_3, hx269_4, hx269_5, hx269_6, hl269_4, hi269_4, hl269_5, hi269_5⟩ := at_T147 HR0_6.out x3_3 p269 q269
           have hw269_6 := hx269_6
           have hw269_5 := hx269_5
           have hw269_4 := hx269_4
           have hw269_3 := hx269_3
           have hw269_2 := hx269_2
           have hw269_1 := hx269_1
           have hw269_0 := hx269_0
           obtain rfl : ad263 = ad269 := (by injection e269)
           replace hx269_0 := hxb HB hx269_0
           replace hx269_1 := hxb HB hx269_1
           replace hx269_2 := hxb HB hx269_2
           replace hx269_3 := hxb HB hx269_3
           replace hx269_4 := hxb HB hx269_4
           replace hx269_5 := hxb HB hx269_5
           replace hx269_6 := hxb HB hx269_6
           have HR269_4 := Aside0.mk hi269_4
           have HC269_4 := Aside0.mk hl269_4
           clear hi269_4 hl269_4
           have HR269_5 := Aside0.mk hi269_5
           have HC269_5 := Aside0.mk hl269_5
           clear hi269_5 hl269_5
           replace p269 := eq_true p269
           replace q269 := eq_true q269
           have ea_ := Option.some.inj (hx265_4.symm.trans hx269_4)
           injection ea_ with ea_ en_ ec_
           subst ea_
           subst ec_
           clear en_
           have ea_ := Option.some.inj (hx265_5.symm.trans hx269_5)
           injection ea_ with ea_ en_ ec_
           subst ea_
           subst ec_
           clear en_
           refine start_ (n := 49) (S := fun w' => w'.cell? ⟨gb256, 0, none⟩ = some (.int .i64 a0_0) ∧ w'.cell? ⟨gb256, 1, none⟩ = some (.int .i64 a0_1) ∧ w'.cell? ⟨gb256, 2, none⟩ = some (.int .i64 a0_2) ∧ w'.cell? ⟨gb256, 3, none⟩ = some (.int .i64 a0_3) ∧ w'.cell? ⟨gb256, 4, none⟩ = some (.int .i64 a0_4) ∧ w'.cell? ⟨gb256, 5, none⟩ = some (.int .i64 a0_5) ∧ w'.cell? ⟨gb256, 6, none⟩ = some (.slice (some ad263) l0_6.length c0_6) ∧ w'.cell? ⟨gb256, 7, none⟩ = some (.int .i64 a0_7) ∧ w'.cell? ⟨gb256, 8, none⟩ = some (.bool a0_8) ∧ w'.cell? (ad263.add ((x3_3).toNat * 7)) = some (.int .i64 ((rd_T147 l0_6 x3_3).f0)) ∧ w'.cell? ⟨(ad263.add ((x3_3).toNat * 7)).block, (ad263.add ((x3_3).toNat * 7)).off + 1, none⟩ = some (.int .i64 ((rd_T147 l0_6 x3_3).f1.f0)) ∧ w'.cell? ⟨(ad263.add ((x3_3).toNat * 7)).block, (ad263.add ((x3_3).toNat * 7)).off + 2, none⟩ = some (.int .i64 ((rd_T147 l0_6 x3_3).f1.f1)) ∧ w'.cell? ⟨(ad263.add ((x3_3).toNat * 7)).block, (ad263.add ((x3_3).toNat * 7)).off + 3, none⟩ = some (.int .i64 ((rd_T147 l0_6 x3_3).f1.f2.f0)) ∧ w'.cell? ⟨(ad263.add ((x3_3).toNat * 7)).block, (ad263.add ((x3_3).toNat * 7)).off + 4, none⟩ = some (.slice A263_4 ((rd_T147 l0_6 x3_3).f1.f2.f1).length c263_4) ∧ w'.cell? ⟨(ad263.add ((x3_3).toNat * 7)).block, (ad263.add ((x3_3).toNat * 7)).off + 5, none⟩ = some (.slice A263_5 ((rd_T147 l0_6 x3_3).f1.f2.f2).length c263_5) ∧ w'.cell? ⟨(ad263.add ((x3_3).toNat * 7)).block, (ad263.add ((x3_3).toNat * 7)).off + 6, none⟩ = some (.int .i64 ((rd_T147 l0_6 x3_3).f1.f2.f3)) ∧ w'.cell? (ad263.add ((x3_3).toNat * 7)) = some (.int .i64 ((rd_T147 l0_6 x3_3).f0)) ∧ w'.cell? ⟨(ad263.add ((x3_3).toNat * 7)).block, (ad263.add ((x3_3).toNat * 7)).off + 1, none⟩ = some (.int .i64 ((rd_T147 l0_6 x3_3).f1.f0)) ∧ w'.cell? ⟨(ad263.add ((x3_3).toNat * 7)).block, (ad263.add ((x3_3).toNat * 7)).off + 2, none⟩ = some (.int .i64 ((rd_T147 l0_6 x3_3).f1.f1)) ∧ w'.cell? ⟨(ad263.add ((x3_3).toNat * 7)).block, (ad263.add ((x3_3).toNat * 7)).off + 3, none⟩ = some (.int .i64 ((rd_T147 l0_6 x3_3).f1.f2.f0)) ∧ w'.cell? ⟨(ad263.add ((x3_3).toNat * 7)).block, (ad263.add ((x3_3).toNat * 7)).off + 4, none⟩ = some (.slice A265_4 ((rd_T147 l0_6 x3_3).f1.f2.f1).length c265_4) ∧ w'.cell? ⟨(ad263.add ((x3_3).toNat * 7)).block, (ad263.add ((x3_3).toNat * 7)).off + 5, none⟩ = some (.slice A265_5 ((rd_T147 l0_6 x3_3).f1.f2.f2).length c265_5) ∧ w'.cell? ⟨(ad263.add ((x3_3).toNat * 7)).block, (ad263.add ((x3_3).toNat * 7)).off + 6, none⟩ = some (.int .i64 ((rd_T147 l0_6 x3_3).f1.f2.f3)) ∧ w'.cell? (ad263.add ((x3_3).toNat * 7)) = some (.int .i64 ((rd_T147 l0_6 x3_3).f0)) ∧ w'.cell? ⟨(ad263.add ((x3_3).toNat * 7)).block, (ad263.add ((x3_3).toNat * 7)).off + 1, none⟩ = some (.int .i64 ((rd_T147 l0_6 x3_3).f1.f0)) ∧ w'.cell? ⟨(ad263.add ((x3_3).toNat * 7)).block, (ad263.add ((x3_3).toNat * 7)).off + 2, none⟩ = some (.int .i64 ((rd_T147 l0_6 x3_3).f1.f1)) ∧ w'.cell? ⟨(ad263.add ((x3_3).toNat * 7)).block, (ad263.add ((x3_3).toNat * 7)).off + 3, none⟩ = some (.int .i64 ((rd_T147 l0_6 x3_3).f1.f2.f0)) ∧ w'.cell? ⟨(ad263.add ((x3_3).toNat * 7)).block, (ad263.add ((x3_3).toNat * 7)).off + 4, none⟩ = some (.slice A265_4 ((rd_T147 l0_6 x3_3).f1.f2.f1).length c265_4) ∧ w'.cell? ⟨(ad263.add ((x3_3).toNat * 7)).block, (ad263.add ((x3_3).toNat * 7)).off + 5, none⟩ = some (.slice A265_5 ((rd_T147 l0_6 x3_3).f1.f2.f2).length c265_5) ∧ w'.cell? ⟨(ad263.add ((x3_3).toNat * 7)).block, (ad263.add ((x3_3).toNat * 7)).off + 6, none⟩ = some (.int .i64 ((rd_T147 l0_6 x3_3).f1.f2.f3))) (ds := []) (tf 0 49) (by kernel_rfl) rfl rfl (cells_9 BK256.out ⟨(hxb HB hw263_0 :), (hxb HB hw263_1 :), (hxb HB hw263_2 :), (hxb HB hw263_3 :), (hxb HB hw263_4 :), (hxb HB hw263_5 :), (hxb HB hw263_6 :), (hxb HB hw265_0 :), (hxb HB hw265_1 :), (hxb HB hw265_2 :), (hxb HB hw265_3 :), (hxb HB hw265_4 :), (hxb HB hw265_5 :), (hxb HB hw265_6 :), (hxb HB hw269_0 :), (hxb HB hw269_1 :), (hxb HB hw269_2 :), (hxb HB hw269_3 :), (hxb HB hw269_4 :), (hxb HB hw269_5 :), (hxb HB hw269_6 :)⟩) (fun hHeld => ?_); refine with_tabW spec_MsgOk.tab8 spec_MsgOk.bits8 (fun HT_ HW_ => ?_)
           generalize wr.drew = w71 at BK256 HB HR263_4 HR263_5 HR265_4 HR265_5 HR269_4 HR269_5 hx263_0 hx263_1 hx263_2 hx263_3 hx263_4 hx263_5 hx263_6 hx265_0 hx265_1 hx265_2 hx265_3 hx265_4 hx265_5 hx265_6 hx269_0 hx269_1 hx269_2 hx269_3 hx269_4 hx269_5 hx269_6 hHeld ⊢
           refine pvn_ HT_ (h := ?_)
           refine pv_ HT_ 2 (some 108) (tb 49 5) (h := ?_)
           refine tv_ HT_ HW_ hHeld 1 (some 107) (tf 3 46) (h := ?_)
           refine pvn_ HT_ (h := ?_)
           refine tvn_ HT_ HW_ hHeld (h := ?_)
           refine one_ (i := 5) (N := some 111) (tf 6 43) rfl rfl (one_of HT_.out (by kernel_rfl)) (by decide) (fun K hK => ?_)
           refine gs_ Try.func110 #[.agg #[.int .i64 ((rd_T147 l0_6 x3_3).f0), .int .i64 ((rd_T147 l0_6 x3_3).f1.f0), .int .i64 ((rd_T147 l0_6 x3_3).f1.f1), .int .i64 ((rd_T147 l0_6 x3_3).f1.f2.f0), .slice A263_4 ((rd_T147 l0_6 x3_3).f1.f2.f1).length c263_4, .slice A263_5 ((rd_T147 l0_6 x3_3).f1.f2.f2).length c263_5, .int .i64 ((rd_T147 l0_6 x3_3).f1.f2.f3)]] (h := ?_)
           with_reducible refine (spec_ItemOk.calls k3 ((rd_T147 l0_6 x3_3).f0) ((rd_T147 l0_6 x3_3).f1.f0) ((rd_T147 l0_6 x3_3).f1.f1) ((rd_T147 l0_6 x3_3).f1.f2.f0) _ _ ((rd_T147 l0_6 x3_3).f1.f2.f1) _ _ ((rd_T147 l0_6 x3_3).f1.f2.f2) ((rd_T147 l0_6 x3_3).f1.f2.f3) true _ ?side1 ?side2 ?side3 ?side4 A45.out).mono ?_
           (case side1 => exact kcb)
           (case side2 => exact HC263_4.out)
           (case side3 => exact kcb)
           (case side4 => exact HC263_5.out)
           rintro e w72 ⟨rfl, hb⟩
           refine ⟨_, rfl, ?_⟩
           replace BK256 := Aside0.mk (blb BK256 hb)
           replace HB := Aside0.mk (below_step bel hb)
           (try clear hb)
           (try clear hb2)
           (try clear hk)
           (try clear hi)
           refine hK.out _ _ (cells_9 BK256.out ⟨(hxb HB hw263_0 :), (hxb HB hw263_1 :), (hxb HB hw263_2 :), (hxb HB hw263_3 :), (hxb HB hw263_4 :), (hxb HB hw263_5 :), (hxb HB hw263_6 :), (hxb HB hw265_0 :), (hxb HB hw265_1 :), (hxb HB hw265_2 :), (hxb HB hw265_3 :), (hxb HB hw265_4 :), (hxb HB hw265_5 :), (hxb HB hw265_6 :), (hxb HB hw269_0 :), (hxb HB hw269_1 :), (hxb HB hw269_2 :), (hxb HB hw269_3 :), (hxb HB hw269_4 :), (hxb HB hw269_5 :), (hxb HB hw269_6 :)⟩) (fun hHeld => ?_)
           clear hK K
           refine nrm_ (some 111) (h := ?_)
           iterate 3 (refine pvn_ HT_ (h := ?_))
           refine pv_ HT_ 10 (some 116) (tb 49 1535) (h := ?_)
           refine pv_ HT_ 14 (some 120) (tb 49 17919) (h := ?_)
           refine tv_ HT_ HW_ hHeld 9 (some 115) (tb 49 18431) (h := ?_)
           refine pv_ HT_ 11 (some 117) (tb 49 20479) (h := ?_)
           refine pv_ HT_ 12 (some 118) (tb 49 24575) (h := ?_)
           refine tv_ HT_ HW_ hHeld 13 (some 119) (tf 15 34) (h := ?_)
           refine tvn_ HT_ HW_ hHeld (h := ?_)
           iterate 6 (refine pvn_ HT_ (h := ?_))
           refine puns_ HT_ 14 [some _, some _, some _, some _, some _, some _, some _, some _, some _, some _, some _, some _, some _, some _] (h := ?_)
           iterate 4 (refine pvn_ HT_ (h := ?_))
           refine pv_ HT_ 41 (some 147) (tb 49 3298534883327) (h := ?_)
           refine pv_ HT_ 45 (some 151) (tb 49 38482906972159) (h := ?_)
           refine tv_ HT_ HW_ hHeld 40 (some 146) (tb 49 39582418599935) (h := ?_)
           refine pv_ HT_ 42 (some 148) (tb 49 43980465111039) (h := ?_)
           refine pv_ HT_ 43 (some 149) (tb 49 52776558133247) (h := ?_)
           refine tv_ HT_ HW_ hHeld 44 (some 150) (tf 46 3) (h := ?_)
           refine tvn_ HT_ HW_ hHeld (h := ?_)
           iterate 2 (refine pvn_ HT_ (h := ?_))
           refine done_ (done_of HT_.out (by kernel_rfl)) ?_
           try go_wp2
           go_roundg k3
           case measure => have := HJ1.out; have := HJ35.out; have := HK3.out; omega
           case rel => exact ⟨(wrap64 (x3_3 + 1)), rs_, H', ⟨by have := HJ1.out; have := HJ35.out; have := HK3.out; omega⟩, ⟨by (with_reducible repeat (first | refine blk_drewN ?_ _ | refine blk_drew ?_ | refine blk_alloc ?_ _)); exact BK256.out⟩, ⟨bel⟩⟩
         replace c46 := Bool.eq_false_iff.mpr c46
         subst c46
         have H1 : (some false) = some r := by rw [if_neg (show ¬ (false = true) by decide)] at H; exact H
         clear H
         have H := H1
         clear H1
         as_aux_lemma =>
          obtain rfl := Option.some.inj H
          obtain ⟨hcz73_0, hcz73_1, hcz73_2, hcz73_3, hcz73_4, hcz73_5, hcz73_6, hcz73_7, hcz73_8, -⟩ := cells_9 BK256.out trivial
          obtain ⟨hfz73_0, hfz73_1, hfz73_2, hfz73_3, hfz73_4, hfz73_5, hfz73_6, hfz73_7, hfz73_8, -⟩ := frz_9 BK256.out
          try go_wp2
          replace BK256 := Aside0.mk (blk_drew BK256.out)
          replace HB := Aside0.mk (below_drew1 HB.out)
          have p263 : 0 ≤ (x3_3 : Int) := od
          have q263 : x3_3 < (l0_6.length : Int) := od
          obtain ⟨ad263, A263_4, c263_4, A263_5, c263_5, e263, hx263_0, hx263_1, hx263_2, hx263_3, hx263_4, hx263_5, hx263_6, hl263_4, hi263_4, hl263_5, hi263_5⟩ := at_T147 HR0_6.out x3_3 p263 q263
          have hw263_6 := hx263_6
          have hw263_5 := hx263_5
          have hw263_4 := hx263_4
          have hw263_3 := hx263_3
          have hw263_2 := hx263_2
          have hw263_1 := hx263_1
          have hw263_0 := hx263_0
          cases e263
          replace hx263_0 := hxb HB hx263_0
          replace hx263_1 := hxb HB hx263_1
          replace hx263_2 := hxb HB hx263_2
          replace hx263_3 := hxb HB hx263_3
          replace hx263_4 := hxb HB hx263_4
          replace hx263_5 := hxb HB hx263_5
          replace hx263_6 := hxb HB hx263_6
          have HR263_4 := Aside0.mk hi263_4
          have HC263_4 := Aside0.mk hl263_4
          clear hi263_4 hl263_4
          have HR263_5 := Aside0.mk hi263_5
          have HC263_5 := Aside0.mk hl263_5
          clear hi263_5 hl263_5
          replace p263 := eq_true p263
          replace q263 := eq_true q263
          refine start_ (n := 49) (S := fun w' => w'.cell? ⟨gb256, 0, none⟩ = some (.int .i64 a0_0) ∧ w'.cell? ⟨gb256, 1, none⟩ = some (.int .i64 a0_1) ∧ w'.cell? ⟨gb256, 2, none⟩ = some (.int .i64 a0_2) ∧ w'.cell? ⟨gb256, 3, none⟩ = some (.int .i64 a0_3) ∧ w'.cell? ⟨gb256, 4, none⟩ = some (.int .i64 a0_4) ∧ w'.cell? ⟨gb256, 5, none⟩ = some (.int .i64 a0_5) ∧ w'.cell? ⟨gb256, 6, none⟩ = some (.slice (some ad263) l0_6.length c0_6) ∧ w'.cell? ⟨gb256, 7, none⟩ = some (.int .i64 a0_7) ∧ w'.cell? ⟨gb256, 8, none⟩ = some (.bool a0_8) ∧ w'.cell? (ad263.add ((x3_3).toNat * 7)) = some (.int .i64 ((rd_T147 l0_6 x3_3).f0)) ∧ w'.cell? ⟨(ad263.add ((x3_3).toNat * 7)).block, (ad263.add ((x3_3).toNat * 7)).off + 1, none⟩ = some (.int .i64 ((rd_T147 l0_6 x3_3).f1.f0)) ∧ w'.cell? ⟨(ad263.add ((x3_3).toNat * 7)).block, (ad263.add ((x3_3).toNat * 7)).off + 2, none⟩ = some (.int .i64 ((rd_T147 l0_6 x3_3).f1.f1)) ∧ w'.cell? ⟨(ad263.add ((x3_3).toNat * 7)).block, (ad263.add ((x3_3).toNat * 7)).off + 3, none⟩ = some (.int .i64 ((rd_T147 l0_6 x3_3).f1.f2.f0)) ∧ w'.cell? ⟨(ad263.add ((x3_3).toNat * 7)).block, (ad263.add ((x3_3).toNat * 7)).off + 4, none⟩ = some (.slice A263_4 ((rd_T147 l0_6 x3_3).f1.f2.f1).length c263_4) ∧ w'.cell? ⟨(ad263.add ((x3_3).toNat * 7)).block, (ad263.add ((x3_3).toNat * 7)).off + 5, none⟩ = some (.slice A263_5 ((rd_T147 l0_6 x3_3).f1.f2.f2).length c263_5) ∧ w'.cell? ⟨(ad263.add ((x3_3).toNat * 7)).block, (ad263.add ((x3_3).toNat * 7)).off + 6, none⟩ = some (.int .i64 ((rd_T147 l0_6 x3_3).f1.f2.f3))) (ds := []) (tf 0 49) (by kernel_rfl) rfl rfl (cells_9 BK256.out ⟨(hxb HB hw263_0 :), (hxb HB hw263_1 :), (hxb HB hw263_2 :), (hxb HB hw263_3 :), (hxb HB hw263_4 :), (hxb HB hw263_5 :), (hxb HB hw263_6 :)⟩) (fun hHeld => ?_); refine with_tabW spec_MsgOk.tab8 spec_MsgOk.bits8 (fun HT_ HW_ => ?_)
          generalize wr.drew = w74 at BK256 HB HR263_4 HR263_5 hx263_0 hx263_1 hx263_2 hx263_3 hx263_4 hx263_5 hx263_6 hHeld ⊢
          refine pvn_ HT_ (h := ?_)
          refine pv_ HT_ 2 (some 108) (tb 49 5) (h := ?_)
          refine tv_ HT_ HW_ hHeld 1 (some 107) (tf 3 46) (h := ?_)
          refine pvn_ HT_ (h := ?_)
          refine tvn_ HT_ HW_ hHeld (h := ?_)
          refine one_ (i := 5) (N := some 111) (tf 6 43) rfl rfl (one_of HT_.out (by kernel_rfl)) (by decide) (fun K hK => ?_)
          refine gs_ Try.func110 #[.agg #[.int .i64 ((rd_T147 l0_6 x3_3).f0), .int .i64 ((rd_T147 l0_6 x3_3).f1.f0), .int .i64 ((rd_T147 l0_6 x3_3).f1.f1), .int .i64 ((rd_T147 l0_6 x3_3).f1.f2.f0), .slice A263_4 ((rd_T147 l0_6 x3_3).f1.f2.f1).length c263_4, .slice A263_5 ((rd_T147 l0_6 x3_3).f1.f2.f2).length c263_5, .int .i64 ((rd_T147 l0_6 x3_3).f1.f2.f3)]] (h := ?_)
          with_reducible refine (spec_ItemOk.calls k3 ((rd_T147 l0_6 x3_3).f0) ((rd_T147 l0_6 x3_3).f1.f0) ((rd_T147 l0_6 x3_3).f1.f1) ((rd_T147 l0_6 x3_3).f1.f2.f0) _ _ ((rd_T147 l0_6 x3_3).f1.f2.f1) _ _ ((rd_T147 l0_6 x3_3).f1.f2.f2) ((rd_T147 l0_6 x3_3).f1.f2.f3) false _ ?side1 ?side2 ?side3 ?side4 A45.out).mono ?_
          (case side1 => exact kcb)
          (case side2 => exact HC263_4.out)
          (case side3 => exact kcb)
          (case side4 => exact HC263_5.out)
          rintro e w75 ⟨rfl, hb⟩
          refine ⟨_, rfl, ?_⟩
          replace BK256 := Aside0.mk (blb BK256 hb)
          replace HB := Aside0.mk (below_step bel hb)
          (try clear hb)
          (try clear hb2)
          (try clear hk)
          (try clear hi)
          refine hK.out _ _ (cells_9 BK256.out ⟨(hxb HB hw263_0 :), (hxb HB hw263_1 :), (hxb HB hw263_2 :), (hxb HB hw263_3 :), (hxb HB hw263_4 :), (hxb HB hw263_5 :), (hxb HB hw263_6 :)⟩) (fun hHeld => ?_)
          clear hK K
          refine nrm_ (some 111) (h := ?_)
          iterate 2 (refine pvn_ HT_ (h := ?_))
          refine puns_ HT_ 9 [some _, some _, some _, some _, some _, some _, some _, some _, some _] (h := ?_)
          iterate 2 (refine pvn_ HT_ (h := ?_))
          refine puns_ HT_ 18 [some _, some _, some _, some _, some _, some _, some _, some _, some _, some _, some _, some _, some _, some _, some _, some _, some _, some _] (h := ?_)
          iterate 2 (refine pvn_ HT_ (h := ?_))
          refine puns_ HT_ 9 [some _, some _, some _, some _, some _, some _, some _, some _, some _] (h := ?_)
          refine pvn_ HT_ (h := ?_)
          refine done_ (done_of HT_.out (by kernel_rfl)) ?_
          try go_wp2
          go_ret
          exact ⟨rz_, bel⟩
        rw [if_neg c44] at H
        exact absurd H (by simp)
       rw [if_neg c43] at H
       have c43b0 : decide (x3_3 < (l0_6.length : Int)) = false := decide_eq_false c43
       clear c43
       by_cases c76 : a0_0 = 0
       ·rw [if_pos c76] at H
        have c76b0 : (a0_0 == 0) = true := beq_iff_eq.mpr c76
        have c76b1 : (a0_0 != 0) = false := bne_eq_false_iff_eq.mpr c76
        clear c76
        by_cases c77 : (l0_6.length : Int) = 0
        ·rw [if_pos c77] at H
         have c77b0 : ((l0_6.length : Int) == 0) = true := beq_iff_eq.mpr c77
         have c77b1 : ((l0_6.length : Int) != 0) = false := bne_eq_false_iff_eq.mpr c77
         clear c77
         by_cases c78 : a0_7 = 0
         ·rw [if_pos c78] at H
          have c78b0 : (a0_7 == 0) = true := beq_iff_eq.mpr c78
          have c78b1 : (a0_7 != 0) = false := bne_eq_false_iff_eq.mpr c78
          clear c78
          as_aux_lemma =>
           obtain rfl := Option.some.inj H
           obtain ⟨hcz79_0, hcz79_1, hcz79_2, hcz79_3, hcz79_4, hcz79_5, hcz79_6, hcz79_7, hcz79_8, -⟩ := cells_9 BK256.out trivial
           obtain ⟨hfz79_0, hfz79_1, hfz79_2, hfz79_3, hfz79_4, hfz79_5, hfz79_6, hfz79_7, hfz79_8, -⟩ := frz_9 BK256.out
           go_wp2
           go_ret
           exact ⟨rz_, bel⟩
         rw [if_neg c78] at H
         have c78b0 : (a0_7 == 0) = false := beq_eq_false_iff_ne.mpr c78
         have c78b1 : (a0_7 != 0) = true := bne_iff_ne.mpr c78
         as_aux_lemma =>
          obtain rfl := Option.some.inj H
          obtain ⟨hcz80_0, hcz80_1, hcz80_2, hcz80_3, hcz80_4, hcz80_5, hcz80_6, hcz80_7, hcz80_8, -⟩ := cells_9 BK256.out trivial
          obtain ⟨hfz80_0, hfz80_1, hfz80_2, hfz80_3, hfz80_4, hfz80_5, hfz80_6, hfz80_7, hfz80_8, -⟩ := frz_9 BK256.out
          go_wp2
          go_ret
          exact ⟨rz_, bel⟩
        rw [if_neg c77] at H
        have c77b0 : ((l0_6.length : Int) == 0) = false := beq_eq_false_iff_ne.mpr c77
        have c77b1 : ((l0_6.length : Int) != 0) = true := bne_iff_ne.mpr c77
        have c77b2 : ¬ (l0_6 = []) := fun h_ => c77 (by rw [h_]; rfl)
        as_aux_lemma =>
         obtain rfl := Option.some.inj H
         obtain ⟨hcz81_0, hcz81_1, hcz81_2, hcz81_3, hcz81_4, hcz81_5, hcz81_6, hcz81_7, hcz81_8, -⟩ := cells_9 BK256.out trivial
         obtain ⟨hfz81_0, hfz81_1, hfz81_2, hfz81_3, hfz81_4, hfz81_5, hfz81_6, hfz81_7, hfz81_8, -⟩ := frz_9 BK256.out
         go_wp2
         go_ret
         exact ⟨rz_, bel⟩
       rw [if_neg c76] at H
       have c76b0 : (a0_0 == 0) = false := beq_eq_false_iff_ne.mpr c76
       have c76b1 : (a0_0 != 0) = true := bne_iff_ne.mpr c76
       by_cases c82 : a0_0 = 1
       ·rw [if_pos c82] at H
        have c82b0 : (a0_0 == 1) = true := beq_iff_eq.mpr c82
        have c82b1 : (a0_0 != 1) = false := bne_eq_false_iff_eq.mpr c82
        clear c82
        by_cases c83 : a0_4 = 0
        ·rw [if_pos c83] at H
         have c83b0 : (a0_4 == 0) = true := beq_iff_eq.mpr c83
         have c83b1 : (a0_4 != 0) = false := bne_eq_false_iff_eq.mpr c83
         clear c83
         by_cases c84 : a0_5 = 0
         ·rw [if_pos c84] at H
          have c84b0 : (a0_5 == 0) = true := beq_iff_eq.mpr c84
          have c84b1 : (a0_5 != 0) = false := bne_eq_false_iff_eq.mpr c84
          clear c84
          by_cases c85 : (l0_6.length : Int) = 0
          ·rw [if_pos c85] at H
           have c85b0 : ((l0_6.length : Int) == 0) = true := beq_iff_eq.mpr c85
           have c85b1 : ((l0_6.length : Int) != 0) = false := bne_eq_false_iff_eq.mpr c85
           clear c85
           as_aux_lemma =>
            obtain rfl := Option.some.inj H
            obtain ⟨hcz86_0, hcz86_1, hcz86_2, hcz86_3, hcz86_4, hcz86_5, hcz86_6, hcz86_7, hcz86_8, -⟩ := cells_9 BK256.out trivial
            obtain ⟨hfz86_0, hfz86_1, hfz86_2, hfz86_3, hfz86_4, hfz86_5, hfz86_6, hfz86_7, hfz86_8, -⟩ := frz_9 BK256.out
            go_wp2
            go_ret
            exact ⟨rz_, bel⟩
          rw [if_neg c85] at H
          have c85b0 : ((l0_6.length : Int) == 0) = false := beq_eq_false_iff_ne.mpr c85
          have c85b1 : ((l0_6.length : Int) != 0) = true := bne_iff_ne.mpr c85
          have c85b2 : ¬ (l0_6 = []) := fun h_ => c85 (by rw [h_]; rfl)
          as_aux_lemma =>
           obtain rfl := Option.some.inj H
           obtain ⟨hcz87_0, hcz87_1, hcz87_2, hcz87_3, hcz87_4, hcz87_5, hcz87_6, hcz87_7, hcz87_8, -⟩ := cells_9 BK256.out trivial
           obtain ⟨hfz87_0, hfz87_1, hfz87_2, hfz87_3, hfz87_4, hfz87_5, hfz87_6, hfz87_7, hfz87_8, -⟩ := frz_9 BK256.out
           go_wp2
           go_ret
           exact ⟨rz_, bel⟩
         rw [if_neg c84] at H
         have c84b0 : (a0_5 == 0) = false := beq_eq_false_iff_ne.mpr c84
         have c84b1 : (a0_5 != 0) = true := bne_iff_ne.mpr c84
         as_aux_lemma =>
          obtain rfl := Option.some.inj H
          obtain ⟨hcz88_0, hcz88_1, hcz88_2, hcz88_3, hcz88_4, hcz88_5, hcz88_6, hcz88_7, hcz88_8, -⟩ := cells_9 BK256.out trivial
          obtain ⟨hfz88_0, hfz88_1, hfz88_2, hfz88_3, hfz88_4, hfz88_5, hfz88_6, hfz88_7, hfz88_8, -⟩ := frz_9 BK256.out
          go_wp2
          go_ret
          exact ⟨rz_, bel⟩
        rw [if_neg c83] at H
        have c83b0 : (a0_4 == 0) = false := beq_eq_false_iff_ne.mpr c83
        have c83b1 : (a0_4 != 0) = true := bne_iff_ne.mpr c83
        as_aux_lemma =>
         obtain rfl := Option.some.inj H
         obtain ⟨hcz89_0, hcz89_1, hcz89_2, hcz89_3, hcz89_4, hcz89_5, hcz89_6, hcz89_7, hcz89_8, -⟩ := cells_9 BK256.out trivial
         obtain ⟨hfz89_0, hfz89_1, hfz89_2, hfz89_3, hfz89_4, hfz89_5, hfz89_6, hfz89_7, hfz89_8, -⟩ := frz_9 BK256.out
         go_wp2
         go_ret
         exact ⟨rz_, bel⟩
       rw [if_neg c82] at H
       have c82b0 : (a0_0 == 1) = false := beq_eq_false_iff_ne.mpr c82
       have c82b1 : (a0_0 != 1) = true := bne_iff_ne.mpr c82
       by_cases c90 : a0_0 = 2
       ·rw [if_pos c90] at H
        have c90b0 : (a0_0 == 2) = true := beq_iff_eq.mpr c90
        have c90b1 : (a0_0 != 2) = false := bne_eq_false_iff_eq.mpr c90
        clear c90
        as_aux_lemma =>
         obtain rfl := Option.some.inj H
         obtain ⟨hcz91_0, hcz91_1, hcz91_2, hcz91_3, hcz91_4, hcz91_5, hcz91_6, hcz91_7, hcz91_8, -⟩ := cells_9 BK256.out trivial
         obtain ⟨hfz91_0, hfz91_1, hfz91_2, hfz91_3, hfz91_4, hfz91_5, hfz91_6, hfz91_7, hfz91_8, -⟩ := frz_9 BK256.out
         go_wp2
         go_ret
         exact ⟨rz_, bel⟩
       rw [if_neg c90] at H
       have c90b0 : (a0_0 == 2) = false := beq_eq_false_iff_ne.mpr c90
       have c90b1 : (a0_0 != 2) = true := bne_iff_ne.mpr c90
       by_cases c92 : a0_5 = 0
       ·rw [if_pos c92] at H
        have c92b0 : (a0_5 == 0) = true := beq_iff_eq.mpr c92
        have c92b1 : (a0_5 != 0) = false := bne_eq_false_iff_eq.mpr c92
        clear c92
        by_cases c93 : (l0_6.length : Int) = 0
        ·rw [if_pos c93] at H
         have c93b0 : ((l0_6.length : Int) == 0) = true := beq_iff_eq.mpr c93
         have c93b1 : ((l0_6.length : Int) != 0) = false := bne_eq_false_iff_eq.mpr c93
         clear c93
         as_aux_lemma =>
          obtain rfl := Option.some.inj H
          obtain ⟨hcz94_0, hcz94_1, hcz94_2, hcz94_3, hcz94_4, hcz94_5, hcz94_6, hcz94_7, hcz94_8, -⟩ := cells_9 BK256.out trivial
          obtain ⟨hfz94_0, hfz94_1, hfz94_2, hfz94_3, hfz94_4, hfz94_5, hfz94_6, hfz94_7, hfz94_8, -⟩ := frz_9 BK256.out
          go_wp2
          go_ret
          exact ⟨rz_, bel⟩
        rw [if_neg c93] at H
        have c93b0 : ((l0_6.length : Int) == 0) = false := beq_eq_false_iff_ne.mpr c93
        have c93b1 : ((l0_6.length : Int) != 0) = true := bne_iff_ne.mpr c93
        have c93b2 : ¬ (l0_6 = []) := fun h_ => c93 (by rw [h_]; rfl)
        as_aux_lemma =>
         obtain rfl := Option.some.inj H
         obtain ⟨hcz95_0, hcz95_1, hcz95_2, hcz95_3, hcz95_4, hcz95_5, hcz95_6, hcz95_7, hcz95_8, -⟩ := cells_9 BK256.out trivial
         obtain ⟨hfz95_0, hfz95_1, hfz95_2, hfz95_3, hfz95_4, hfz95_5, hfz95_6, hfz95_7, hfz95_8, -⟩ := frz_9 BK256.out
         go_wp2
         go_ret
         exact ⟨rz_, bel⟩
       rw [if_neg c92] at H
       have c92b0 : (a0_5 == 0) = false := beq_eq_false_iff_ne.mpr c92
       have c92b1 : (a0_5 != 0) = true := bne_iff_ne.mpr c92
       as_aux_lemma =>
        obtain rfl := Option.some.inj H
        obtain ⟨hcz96_0, hcz96_1, hcz96_2, hcz96_3, hcz96_4, hcz96_5, hcz96_6, hcz96_7, hcz96_8, -⟩ := cells_9 BK256.out trivial
        obtain ⟨hfz96_0, hfz96_1, hfz96_2, hfz96_3, hfz96_4, hfz96_5, hfz96_6, hfz96_7, hfz96_8, -⟩ := frz_9 BK256.out
        go_wp2
        go_ret
        exact ⟨rz_, bel⟩

end Go.Proofs.Ytdgegnakiljfjaa.PM
