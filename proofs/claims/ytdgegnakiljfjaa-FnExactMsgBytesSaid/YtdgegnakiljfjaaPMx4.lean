-- Written for this claim by the session's program pp.py, out of the kit's print and the seat's translation.
import Derived.Test.YtdgegnakiljfjaaPMx0
import Derived.Test.YtdgegnakiljfjaaPMx1
import Derived.Test.YtdgegnakiljfjaaPMx3
namespace Go.Proofs.Ytdgegnakiljfjaa.PM
open Go.RowKit Go.Proofs.YtdgegnakiljfjaaW.PrintWords Go.Proofs.YtdgegnakiljfjaaW.PrintLast Go.Proofs.YtdgegnakiljfjaaW.PrintMore
attribute [local go_sem] max2_int min2_int max_two min_two max_three min_three max_four min_four   -- for this text's walks alone
set_option linter.unusedVariables false
set_option linter.unusedSimpArgs false

/-! ### impl_MsgOk: function 28 -/
mutual
def impl_MsgOk.j0 : Nat → Bool → Int → Int → Int → Int → Int → Int → List (S147) → Int → Bool → Option (Bool)
 | 0, _, _, _, _, _, _, _, _, _, _ => none
 | k + 1, x34, x148000, x148001, x148002, x148003, x148004, x148005, x148006, x148007, x148008 => if x34 = true then (some false) else (if x148000 = 2 then (if x148000 = 1 then (impl_MsgOk.j1 k (x148004 != 0) x148000 x148001 x148002 x148003 x148004 x148005 x148006 x148007 x148008) else (impl_MsgOk.j1 k false x148000 x148001 x148002 x148003 x148004 x148005 x148006 x148007 x148008)) else (if (x148006.length : Int) > 0 then (impl_MsgOk.j1 k true x148000 x148001 x148002 x148003 x148004 x148005 x148006 x148007 x148008) else (if x148007 = 0 then (if x148000 = 1 then (impl_MsgOk.j1 k (x148004 != 0) x148000 x148001 x148002 x148003 x148004 x148005 x148006 x148007 x148008) else (impl_MsgOk.j1 k false x148000 x148001 x148002 x148003 x148004 x148005 x148006 x148007 x148008)) else (impl_MsgOk.j1 k true x148000 x148001 x148002 x148003 x148004 x148005 x148006 x148007 x148008))))
def impl_MsgOk.j1 : Nat → Bool → Int → Int → Int → Int → Int → Int → List (S147) → Int → Bool → Option (Bool)
 | 0, _, _, _, _, _, _, _, _, _, _ => none
 | k + 1, x58, x148000, x148001, x148002, x148003, x148004, x148005, x148006, x148007, x148008 => if x58 = true then (some false) else (if x148000 = 1 then (impl_MsgOk.j2 k true x148000 x148001 x148002 x148003 x148004 x148005 x148006 x148007 x148008) else (impl_MsgOk.j2 k (x148000 == 3) x148000 x148001 x148002 x148003 x148004 x148005 x148006 x148007 x148008))
def impl_MsgOk.j2 : Nat → Bool → Int → Int → Int → Int → Int → Int → List (S147) → Int → Bool → Option (Bool)
 | 0, _, _, _, _, _, _, _, _, _, _ => none
 | k + 1, x66, x148000, x148001, x148002, x148003, x148004, x148005, x148006, x148007, x148008 => if x66 = true then (if x148005 = 0 then ((impl_within.f x148004 0 400).bind fun t152 => (some t152)) else (some false)) else (if x148008 = true then (impl_MsgOk.j3 k true x148000 x148001 x148002 x148003 x148004 x148005 x148006 x148007 x148008) else ((impl_within.f x148004 0 400).bind fun t153 => (if t153 = true then (if x148004 = 0 then (if x148005 = 0 then (if x148004 > 0 then ((impl_within.f x148005 1 x148003).bind fun t154 => (impl_MsgOk.j3 k (!t154) x148000 x148001 x148002 x148003 x148004 x148005 x148006 x148007 x148008)) else (impl_MsgOk.j3 k false x148000 x148001 x148002 x148003 x148004 x148005 x148006 x148007 x148008)) else (impl_MsgOk.j3 k true x148000 x148001 x148002 x148003 x148004 x148005 x148006 x148007 x148008)) else (if x148004 > 0 then ((impl_within.f x148005 1 x148003).bind fun t155 => (impl_MsgOk.j3 k (!t155) x148000 x148001 x148002 x148003 x148004 x148005 x148006 x148007 x148008)) else (impl_MsgOk.j3 k false x148000 x148001 x148002 x148003 x148004 x148005 x148006 x148007 x148008))) else (impl_MsgOk.j3 k true x148000 x148001 x148002 x148003 x148004 x148005 x148006 x148007 x148008))))
def impl_MsgOk.j3 : Nat → Bool → Int → Int → Int → Int → Int → Int → List (S147) → Int → Bool → Option (Bool)
 | 0, _, _, _, _, _, _, _, _, _, _ => none
 | k + 1, x105, x148000, x148001, x148002, x148003, x148004, x148005, x148006, x148007, x148008 => if x105 = true then (some false) else (impl_MsgOk.l0 k x148005 x148006 (x148006.length : Int) 0 x148000 x148001 x148002 x148003 x148004 x148005 x148006 x148007 x148008)
def impl_MsgOk.l0 : Nat → Int → List (S147) → Int → Int → Int → Int → Int → Int → Int → Int → List (S147) → Int → Bool → Option (Bool)
 | 0, _, _, _, _, _, _, _, _, _, _, _, _, _ => none
 | k + 1, x3, x109, x110, x111, x148000, x148001, x148002, x148003, x148004, x148005, x148006, x148007, x148008 => if x111 < x110 then (if 0 ≤ x111 then (if x111 < (x109.length : Int) then ((impl_ItemOk.f k ((rd_T147 x109 x111).f0) ((rd_T147 x109 x111).f1.f0) ((rd_T147 x109 x111).f1.f1) ((rd_T147 x109 x111).f1.f2.f0) ((rd_T147 x109 x111).f1.f2.f1) ((rd_T147 x109 x111).f1.f2.f2) ((rd_T147 x109 x111).f1.f2.f3)).bind fun t159 => (if t159 = true then ((impl_within.f ((rd_T147 x109 x111).f0) x3 x148003).bind fun t160 => (if t160 = true then (impl_MsgOk.l0 k ((rd_T147 x109 x111).f0) x109 x110 (wrap64 (x111 + 1)) x148000 x148001 x148002 x148003 x148004 x148005 x148006 x148007 x148008) else (some false))) else (some false))) else (none)) else (none)) else (if (x148006.length : Int) ≤ 4 then (if (x148006.length : Int) ≤ (wrap64 (400 - x148004)) then ((impl_within.f x148007 0 400).bind fun t156 => (some t156)) else (some false)) else (some false))
end
def impl_MsgOk.f (k : Nat) (a0_0 : Int) (a0_1 : Int) (a0_2 : Int) (a0_3 : Int) (a0_4 : Int) (a0_5 : Int) (l0_6 : List (S147)) (a0_7 : Int) (a0_8 : Bool) : Option (Bool) := (impl_within.f a0_0 0 3).bind fun t148 => (if t148 = true then ((impl_within.f a0_1 0 4).bind fun t149 => (if t149 = true then ((impl_within.f a0_2 0 4).bind fun t150 => (if t150 = true then (if a0_1 = a0_2 then (impl_MsgOk.j0 k true a0_0 a0_1 a0_2 a0_3 a0_4 a0_5 l0_6 a0_7 a0_8) else ((impl_isTerm.f a0_3).bind fun t151 => (impl_MsgOk.j0 k (!t151) a0_0 a0_1 a0_2 a0_3 a0_4 a0_5 l0_6 a0_7 a0_8))) else (impl_MsgOk.j0 k true a0_0 a0_1 a0_2 a0_3 a0_4 a0_5 l0_6 a0_7 a0_8))) else (impl_MsgOk.j0 k true a0_0 a0_1 a0_2 a0_3 a0_4 a0_5 l0_6 a0_7 a0_8))) else (impl_MsgOk.j0 k true a0_0 a0_1 a0_2 a0_3 a0_4 a0_5 l0_6 a0_7 a0_8))
set_option maxHeartbeats 8000000 in
set_option maxRecDepth 100000 in
theorem impl_MsgOk.calls (k : Nat) (a0_0 : Int) (a0_1 : Int) (a0_2 : Int) (a0_3 : Int) (a0_4 : Int) (a0_5 : Int) (A0_6 : Option Addr) (c0_6 : Nat) (l0_6 : List (S147)) (a0_7 : Int) (a0_8 : Bool) (r : Bool) (w : World) (hr0_6 : Kd.C k147 w A0_6 l0_6.length l0_6) (hc0_6 : l0_6.length ≤ c0_6) (h : impl_MsgOk.f k a0_0 a0_1 a0_2 a0_3 a0_4 a0_5 l0_6 a0_7 a0_8 = some r) :
  Calls Try.prog 28 #[.agg #[.int .i64 a0_0, .int .i64 a0_1, .int .i64 a0_2, .int .i64 a0_3, .int .i64 a0_4, .int .i64 a0_5, .slice A0_6 l0_6.length c0_6, .int .i64 a0_7, .bool a0_8]] w fun e w' => e = .returned (.bool r) ∧ Below w.heap.size w w' := by
 have hu54 := Try.underlying54
 have hu147 := Try.underlying147
 have HR0_6 := Aside0.mk hr0_6
 have HC0_6 := Aside0.mk hc0_6
 clear hr0_6 hc0_6
 have HB := Aside0.mk (Below.refl w.heap.size w)
 have H : ((impl_within.f a0_0 0 3).bind fun t148 => (if t148 = true then ((impl_within.f a0_1 0 4).bind fun t149 => (if t149 = true then ((impl_within.f a0_2 0 4).bind fun t150 => (if t150 = true then (if a0_1 = a0_2 then (impl_MsgOk.j0 k true a0_0 a0_1 a0_2 a0_3 a0_4 a0_5 l0_6 a0_7 a0_8) else ((impl_isTerm.f a0_3).bind fun t151 => (impl_MsgOk.j0 k (!t151) a0_0 a0_1 a0_2 a0_3 a0_4 a0_5 l0_6 a0_7 a0_8))) else (impl_MsgOk.j0 k true a0_0 a0_1 a0_2 a0_3 a0_4 a0_5 l0_6 a0_7 a0_8))) else (impl_MsgOk.j0 k true a0_0 a0_1 a0_2 a0_3 a0_4 a0_5 l0_6 a0_7 a0_8))) else (impl_MsgOk.j0 k true a0_0 a0_1 a0_2 a0_3 a0_4 a0_5 l0_6 a0_7 a0_8))) = some r := h
 clear h
 have HC2 := Aside0.mk H
 clear H
 go_enter Try.func28, Try.ntmps28
 go_upto_region 1 with (first | ((with_reducible refine gate_dst (N := 1) rfl ?_); (try (refine gate_guard (by rfl) ?_; dsimp only)); refine bx_ 1 #[.int .i64 a0_0, .int .i64 a0_1, .int .i64 a0_2, .int .i64 a0_3, .int .i64 a0_4, .int .i64 a0_5, .slice A0_6 l0_6.length c0_6, .int .i64 a0_7, .bool a0_8] 54 (h := ?_); intro gb147 hg w3 hbox hb; have BK147 := Aside0.mk (hbox); have GW147 := Aside0.mk ((by rw [hg]; exact (below_size bel) : w.heap.size ≤ gb147)); have GE147 := GW147; replace HB := Aside0.mk (below_step bel hb); clear hb hbox hg))
 (try simp only [Act.put, List.setIfInBounds_toArray, List.set_cons_zero, List.set_cons_succ])
 go_cut [34] (fun v34 wc => ∃ (kq : Nat) (x34_1 : Bool), v34 = .bool x34_1 ∧ Aside0 (impl_MsgOk.j0 kq x34_1 a0_0 a0_1 a0_2 a0_3 a0_4 a0_5 l0_6 a0_7 a0_8 = some r) ∧ Aside0 (kq ≤ k) ∧ Aside0 (wc.heap[gb147]? = some (.cells #[.int .i64 a0_0, .int .i64 a0_1, .int .i64 a0_2, .int .i64 a0_3, .int .i64 a0_4, .int .i64 a0_5, (.slice A0_6 l0_6.length c0_6), .int .i64 a0_7, .bool a0_8] 54 (0, 0))) ∧ Aside0 (Below w.heap.size w wc))
 case first =>
  have H := HC2.out
  clear HC2
  replace H := Option.bind_eq_some_iff.mp H
  obtain ⟨t148, A40, H⟩ := H
  replace H : (if t148 = true then ((impl_within.f a0_1 0 4).bind fun t149 => (if t149 = true then ((impl_within.f a0_2 0 4).bind fun t150 => (if t150 = true then (if a0_1 = a0_2 then (impl_MsgOk.j0 k true a0_0 a0_1 a0_2 a0_3 a0_4 a0_5 l0_6 a0_7 a0_8) else ((impl_isTerm.f a0_3).bind fun t151 => (impl_MsgOk.j0 k (!t151) a0_0 a0_1 a0_2 a0_3 a0_4 a0_5 l0_6 a0_7 a0_8))) else (impl_MsgOk.j0 k true a0_0 a0_1 a0_2 a0_3 a0_4 a0_5 l0_6 a0_7 a0_8))) else (impl_MsgOk.j0 k true a0_0 a0_1 a0_2 a0_3 a0_4 a0_5 l0_6 a0_7 a0_8))) else (impl_MsgOk.j0 k true a0_0 a0_1 a0_2 a0_3 a0_4 a0_5 l0_6 a0_7 a0_8)) = some r := H
  have A4 := Aside0.mk A40
  clear A40
  by_cases c5 : t148 = true
  ·subst c5
   have H1 : ((impl_within.f a0_1 0 4).bind fun t149 => (if t149 = true then ((impl_within.f a0_2 0 4).bind fun t150 => (if t150 = true then (if a0_1 = a0_2 then (impl_MsgOk.j0 k true a0_0 a0_1 a0_2 a0_3 a0_4 a0_5 l0_6 a0_7 a0_8) else ((impl_isTerm.f a0_3).bind fun t151 => (impl_MsgOk.j0 k (!t151) a0_0 a0_1 a0_2 a0_3 a0_4 a0_5 l0_6 a0_7 a0_8))) else (impl_MsgOk.j0 k true a0_0 a0_1 a0_2 a0_3 a0_4 a0_5 l0_6 a0_7 a0_8))) else (impl_MsgOk.j0 k true a0_0 a0_1 a0_2 a0_3 a0_4 a0_5 l0_6 a0_7 a0_8))) = some r := by rw [if_pos rfl] at H; exact H
   clear H
   have H := H1
   clear H1
   replace H := Option.bind_eq_some_iff.mp H
   obtain ⟨t149, A60, H⟩ := H
   replace H : (if t149 = true then ((impl_within.f a0_2 0 4).bind fun t150 => (if t150 = true then (if a0_1 = a0_2 then (impl_MsgOk.j0 k true a0_0 a0_1 a0_2 a0_3 a0_4 a0_5 l0_6 a0_7 a0_8) else ((impl_isTerm.f a0_3).bind fun t151 => (impl_MsgOk.j0 k (!t151) a0_0 a0_1 a0_2 a0_3 a0_4 a0_5 l0_6 a0_7 a0_8))) else (impl_MsgOk.j0 k true a0_0 a0_1 a0_2 a0_3 a0_4 a0_5 l0_6 a0_7 a0_8))) else (impl_MsgOk.j0 k true a0_0 a0_1 a0_2 a0_3 a0_4 a0_5 l0_6 a0_7 a0_8)) = some r := H
   have A6 := Aside0.mk A60
   clear A60
   by_cases c7 : t149 = true
   ·subst c7
    have H1 : ((impl_within.f a0_2 0 4).bind fun t150 => (if t150 = true then (if a0_1 = a0_2 then (impl_MsgOk.j0 k true a0_0 a0_1 a0_2 a0_3 a0_4 a0_5 l0_6 a0_7 a0_8) else ((impl_isTerm.f a0_3).bind fun t151 => (impl_MsgOk.j0 k (!t151) a0_0 a0_1 a0_2 a0_3 a0_4 a0_5 l0_6 a0_7 a0_8))) else (impl_MsgOk.j0 k true a0_0 a0_1 a0_2 a0_3 a0_4 a0_5 l0_6 a0_7 a0_8))) = some r := by rw [if_pos rfl] at H; exact H
    clear H
    have H := H1
    clear H1
    replace H := Option.bind_eq_some_iff.mp H
    obtain ⟨t150, A80, H⟩ := H
    replace H : (if t150 = true then (if a0_1 = a0_2 then (impl_MsgOk.j0 k true a0_0 a0_1 a0_2 a0_3 a0_4 a0_5 l0_6 a0_7 a0_8) else ((impl_isTerm.f a0_3).bind fun t151 => (impl_MsgOk.j0 k (!t151) a0_0 a0_1 a0_2 a0_3 a0_4 a0_5 l0_6 a0_7 a0_8))) else (impl_MsgOk.j0 k true a0_0 a0_1 a0_2 a0_3 a0_4 a0_5 l0_6 a0_7 a0_8)) = some r := H
    have A8 := Aside0.mk A80
    clear A80
    by_cases c9 : t150 = true
    ·subst c9
     have H1 : (if a0_1 = a0_2 then (impl_MsgOk.j0 k true a0_0 a0_1 a0_2 a0_3 a0_4 a0_5 l0_6 a0_7 a0_8) else ((impl_isTerm.f a0_3).bind fun t151 => (impl_MsgOk.j0 k (!t151) a0_0 a0_1 a0_2 a0_3 a0_4 a0_5 l0_6 a0_7 a0_8))) = some r := by rw [if_pos rfl] at H; exact H
     clear H
     have H := H1
     clear H1
     by_cases c10 : a0_1 = a0_2
     ·rw [if_pos c10] at H
      have c10b0 : (a0_1 == a0_2) = true := beq_iff_eq.mpr c10
      have c10b1 : (a0_1 != a0_2) = false := bne_eq_false_iff_eq.mpr c10
      clear c10
      (first | rw [c10b0] | (simp only [i64_w, i32_w]; rw [c10b0]) | skip)
      have H' := Aside0.mk H
      clear H
      obtain ⟨hcz11_0, hcz11_1, hcz11_2, hcz11_3, hcz11_4, hcz11_5, hcz11_6, hcz11_7, hcz11_8, -⟩ := cells_9 BK147.out trivial
      obtain ⟨hfz11_0, hfz11_1, hfz11_2, hfz11_3, hfz11_4, hfz11_5, hfz11_6, hfz11_7, hfz11_8, -⟩ := frz_9 BK147.out
      go_wp2_with (first | ((with_reducible refine gate_callee (f := 81) rfl ?_); refine gl_ (some 8) Try.func81 #[.int .i64 a0_0, .int .i64 0, .int .i64 3] (h := ?_); (with_reducible refine (impl_within.calls a0_0 0 3 true _ A4.out).mono ?_); rintro e w' ⟨rfl, ⟨nd, rfl⟩⟩; refine ⟨_, rfl, ?_⟩) | (go_at_call 81; (with_reducible refine (impl_within.calls a0_1 0 4 true _ A6.out).mono ?_); rintro e w' ⟨rfl, ⟨nd, rfl⟩⟩) | (go_at_call 81; (with_reducible refine (impl_within.calls a0_2 0 4 true _ A8.out).mono ?_); rintro e w' ⟨rfl, ⟨nd, rfl⟩⟩))
      go_meet
      case rel => exact ⟨_, (true), rs_, H', ⟨by first | omega | exact Nat.le_refl _⟩, ⟨by (with_reducible repeat (first | refine blk_drewN ?_ _ | refine blk_drew ?_ | refine blk_alloc ?_ _)); exact BK147.out⟩, ⟨bel⟩⟩
     rw [if_neg c10] at H
     have c10b0 : (a0_1 == a0_2) = false := beq_eq_false_iff_ne.mpr c10
     have c10b1 : (a0_1 != a0_2) = true := bne_iff_ne.mpr c10
     (first | rw [c10b0] | (simp only [i64_w, i32_w]; rw [c10b0]) | skip)
     replace H := Option.bind_eq_some_iff.mp H
     obtain ⟨t151, A120, H⟩ := H
     replace H : (impl_MsgOk.j0 k (!t151) a0_0 a0_1 a0_2 a0_3 a0_4 a0_5 l0_6 a0_7 a0_8) = some r := H
     have A12 := Aside0.mk A120
     clear A120
     have H' := Aside0.mk H
     clear H
     obtain ⟨hcz13_0, hcz13_1, hcz13_2, hcz13_3, hcz13_4, hcz13_5, hcz13_6, hcz13_7, hcz13_8, -⟩ := cells_9 BK147.out trivial
     obtain ⟨hfz13_0, hfz13_1, hfz13_2, hfz13_3, hfz13_4, hfz13_5, hfz13_6, hfz13_7, hfz13_8, -⟩ := frz_9 BK147.out
     go_wp2_with (first | ((with_reducible refine gate_callee (f := 81) rfl ?_); refine gl_ (some 8) Try.func81 #[.int .i64 a0_0, .int .i64 0, .int .i64 3] (h := ?_); (with_reducible refine (impl_within.calls a0_0 0 3 true _ A4.out).mono ?_); rintro e w' ⟨rfl, ⟨nd, rfl⟩⟩; refine ⟨_, rfl, ?_⟩) | (go_at_call 81; (with_reducible refine (impl_within.calls a0_1 0 4 true _ A6.out).mono ?_); rintro e w' ⟨rfl, ⟨nd, rfl⟩⟩) | (go_at_call 81; (with_reducible refine (impl_within.calls a0_2 0 4 true _ A8.out).mono ?_); rintro e w' ⟨rfl, ⟨nd, rfl⟩⟩) | (go_at_call 111; (with_reducible refine (impl_isTerm.calls a0_3 t151 _ A12.out).mono ?_); rintro e w' ⟨rfl, ⟨nd, rfl⟩⟩))
     go_meet
     case rel => exact ⟨_, (!t151), rs_, H', ⟨by first | omega | exact Nat.le_refl _⟩, ⟨by (with_reducible repeat (first | refine blk_drewN ?_ _ | refine blk_drew ?_ | refine blk_alloc ?_ _)); exact BK147.out⟩, ⟨bel⟩⟩
    replace c9 := Bool.eq_false_iff.mpr c9
    subst c9
    have H1 : (impl_MsgOk.j0 k true a0_0 a0_1 a0_2 a0_3 a0_4 a0_5 l0_6 a0_7 a0_8) = some r := by rw [if_neg (show ¬ (false = true) by decide)] at H; exact H
    clear H
    have H := H1
    clear H1
    have H' := Aside0.mk H
    clear H
    obtain ⟨hcz14_0, hcz14_1, hcz14_2, hcz14_3, hcz14_4, hcz14_5, hcz14_6, hcz14_7, hcz14_8, -⟩ := cells_9 BK147.out trivial
    obtain ⟨hfz14_0, hfz14_1, hfz14_2, hfz14_3, hfz14_4, hfz14_5, hfz14_6, hfz14_7, hfz14_8, -⟩ := frz_9 BK147.out
    go_wp2_with (first | ((with_reducible refine gate_callee (f := 81) rfl ?_); refine gl_ (some 8) Try.func81 #[.int .i64 a0_0, .int .i64 0, .int .i64 3] (h := ?_); (with_reducible refine (impl_within.calls a0_0 0 3 true _ A4.out).mono ?_); rintro e w' ⟨rfl, ⟨nd, rfl⟩⟩; refine ⟨_, rfl, ?_⟩) | (go_at_call 81; (with_reducible refine (impl_within.calls a0_1 0 4 true _ A6.out).mono ?_); rintro e w' ⟨rfl, ⟨nd, rfl⟩⟩) | (go_at_call 81; (with_reducible refine (impl_within.calls a0_2 0 4 false _ A8.out).mono ?_); rintro e w' ⟨rfl, ⟨nd, rfl⟩⟩))
    go_meet
    case rel => exact ⟨_, (true), rs_, H', ⟨by first | omega | exact Nat.le_refl _⟩, ⟨by (with_reducible repeat (first | refine blk_drewN ?_ _ | refine blk_drew ?_ | refine blk_alloc ?_ _)); exact BK147.out⟩, ⟨bel⟩⟩
   replace c7 := Bool.eq_false_iff.mpr c7
   subst c7
   have H1 : (impl_MsgOk.j0 k true a0_0 a0_1 a0_2 a0_3 a0_4 a0_5 l0_6 a0_7 a0_8) = some r := by rw [if_neg (show ¬ (false = true) by decide)] at H; exact H
   clear H
   have H := H1
   clear H1
   have H' := Aside0.mk H
   clear H
   obtain ⟨hcz15_0, hcz15_1, hcz15_2, hcz15_3, hcz15_4, hcz15_5, hcz15_6, hcz15_7, hcz15_8, -⟩ := cells_9 BK147.out trivial
   obtain ⟨hfz15_0, hfz15_1, hfz15_2, hfz15_3, hfz15_4, hfz15_5, hfz15_6, hfz15_7, hfz15_8, -⟩ := frz_9 BK147.out
   go_wp2_with (first | ((with_reducible refine gate_callee (f := 81) rfl ?_); refine gl_ (some 8) Try.func81 #[.int .i64 a0_0, .int .i64 0, .int .i64 3] (h := ?_); (with_reducible refine (impl_within.calls a0_0 0 3 true _ A4.out).mono ?_); rintro e w' ⟨rfl, ⟨nd, rfl⟩⟩; refine ⟨_, rfl, ?_⟩) | (go_at_call 81; (with_reducible refine (impl_within.calls a0_1 0 4 false _ A6.out).mono ?_); rintro e w' ⟨rfl, ⟨nd, rfl⟩⟩))
   go_meet
   case rel => exact ⟨_, (true), rs_, H', ⟨by first | omega | exact Nat.le_refl _⟩, ⟨by (with_reducible repeat (first | refine blk_drewN ?_ _ | refine blk_drew ?_ | refine blk_alloc ?_ _)); exact BK147.out⟩, ⟨bel⟩⟩
  replace c5 := Bool.eq_false_iff.mpr c5
  subst c5
  have H1 : (impl_MsgOk.j0 k true a0_0 a0_1 a0_2 a0_3 a0_4 a0_5 l0_6 a0_7 a0_8) = some r := by rw [if_neg (show ¬ (false = true) by decide)] at H; exact H
  clear H
  have H := H1
  clear H1
  have H' := Aside0.mk H
  clear H
  obtain ⟨hcz16_0, hcz16_1, hcz16_2, hcz16_3, hcz16_4, hcz16_5, hcz16_6, hcz16_7, hcz16_8, -⟩ := cells_9 BK147.out trivial
  obtain ⟨hfz16_0, hfz16_1, hfz16_2, hfz16_3, hfz16_4, hfz16_5, hfz16_6, hfz16_7, hfz16_8, -⟩ := frz_9 BK147.out
  go_wp2_with (first | ((with_reducible refine gate_callee (f := 81) rfl ?_); refine gl_ (some 8) Try.func81 #[.int .i64 a0_0, .int .i64 0, .int .i64 3] (h := ?_); (with_reducible refine (impl_within.calls a0_0 0 3 false _ A4.out).mono ?_); rintro e w' ⟨rfl, ⟨nd, rfl⟩⟩; refine ⟨_, rfl, ?_⟩))
  go_meet
  case rel => exact ⟨_, (true), rs_, H', ⟨by first | omega | exact Nat.le_refl _⟩, ⟨by (with_reducible repeat (first | refine blk_drewN ?_ _ | refine blk_drew ?_ | refine blk_alloc ?_ _)); exact BK147.out⟩, ⟨bel⟩⟩
 case rest =>
  clear HC2
  try clear c1; try clear c2; try clear p2; try clear c5; try clear c7; try clear c8; try clear c9; try clear c10; try clear c10b0; try clear c10b1; try clear hcz11_0; try clear hcz11_1; try clear hcz11_2; try clear hcz11_3; try clear hcz11_4; try clear hcz11_5; try clear hcz11_6; try clear hcz11_7; try clear hcz11_8; try clear hcz13_0; try clear hcz13_1; try clear hcz13_2; try clear hcz13_3; try clear hcz13_4; try clear hcz13_5; try clear hcz13_6; try clear hcz13_7; try clear hcz13_8; try clear hcz14_0; try clear hcz14_1; try clear hcz14_2; try clear hcz14_3; try clear hcz14_4; try clear hcz14_5; try clear hcz14_6; try clear hcz14_7; try clear hcz14_8; try clear hcz15_0; try clear hcz15_1; try clear hcz15_2; try clear hcz15_3; try clear hcz15_4; try clear hcz15_5; try clear hcz15_6; try clear hcz15_7; try clear hcz15_8; try clear hcz16_0; try clear hcz16_1; try clear hcz16_2; try clear hcz16_3; try clear hcz16_4; try clear hcz16_5; try clear hcz16_6; try clear hcz16_7; try clear hcz16_8; try clear hfz11_0; try clear hfz11_1; try clear hfz11_2; try clear hfz11_3; try clear hfz11_4; try clear hfz11_5; try clear hfz11_6; try clear hfz11_7; try clear hfz11_8; try clear hfz13_0; try clear hfz13_1; try clear hfz13_2; try clear hfz13_3; try clear hfz13_4; try clear hfz13_5; try clear hfz13_6; try clear hfz13_7; try clear hfz13_8; try clear hfz14_0; try clear hfz14_1; try clear hfz14_2; try clear hfz14_3; try clear hfz14_4; try clear hfz14_5; try clear hfz14_6; try clear hfz14_7; try clear hfz14_8; try clear hfz15_0; try clear hfz15_1; try clear hfz15_2; try clear hfz15_3; try clear hfz15_4; try clear hfz15_5; try clear hfz15_6; try clear hfz15_7; try clear hfz15_8; try clear hfz16_0; try clear hfz16_1; try clear hfz16_2; try clear hfz16_3; try clear hfz16_4; try clear hfz16_5; try clear hfz16_6; try clear hfz16_7; try clear hfz16_8
  obtain ⟨kq, x34_1, rfl, HA, HJ1, BK147, HB⟩ := hcut
  cases kq with
  | zero => exact absurd HA.out (by simp [impl_MsgOk.j0])
  | succ kj1 =>
   have H := HA.out
   clear HA
   simp only [impl_MsgOk.j0] at H
   by_cases c17 : x34_1 = true
   ·subst c17
    have H1 : (some false) = some r := by rw [if_pos rfl] at H; exact H
    clear H
    have H := H1
    clear H1
    obtain rfl := Option.some.inj H
    go_wp2
    go_ret
    exact ⟨rz_, bel⟩
   replace c17 := Bool.eq_false_iff.mpr c17
   subst c17
   have H1 : (if a0_0 = 2 then (if a0_0 = 1 then (impl_MsgOk.j1 kj1 (a0_4 != 0) a0_0 a0_1 a0_2 a0_3 a0_4 a0_5 l0_6 a0_7 a0_8) else (impl_MsgOk.j1 kj1 false a0_0 a0_1 a0_2 a0_3 a0_4 a0_5 l0_6 a0_7 a0_8)) else (if (l0_6.length : Int) > 0 then (impl_MsgOk.j1 kj1 true a0_0 a0_1 a0_2 a0_3 a0_4 a0_5 l0_6 a0_7 a0_8) else (if a0_7 = 0 then (if a0_0 = 1 then (impl_MsgOk.j1 kj1 (a0_4 != 0) a0_0 a0_1 a0_2 a0_3 a0_4 a0_5 l0_6 a0_7 a0_8) else (impl_MsgOk.j1 kj1 false a0_0 a0_1 a0_2 a0_3 a0_4 a0_5 l0_6 a0_7 a0_8)) else (impl_MsgOk.j1 kj1 true a0_0 a0_1 a0_2 a0_3 a0_4 a0_5 l0_6 a0_7 a0_8)))) = some r := by rw [if_neg (show ¬ (false = true) by decide)] at H; exact H
   clear H
   have H := H1
   clear H1
   have HC18 := Aside0.mk H
   clear H
   go_upto_region 3 with (fail)
   go_cut [58] (fun v58 wc => ∃ (kq : Nat) (x58_17 : Bool), v58 = .bool x58_17 ∧ Aside0 (impl_MsgOk.j1 kq x58_17 a0_0 a0_1 a0_2 a0_3 a0_4 a0_5 l0_6 a0_7 a0_8 = some r) ∧ Aside0 (kq ≤ kj1) ∧ Aside0 (wc.heap[gb147]? = some (.cells #[.int .i64 a0_0, .int .i64 a0_1, .int .i64 a0_2, .int .i64 a0_3, .int .i64 a0_4, .int .i64 a0_5, (.slice A0_6 l0_6.length c0_6), .int .i64 a0_7, .bool a0_8] 54 (0, 0))) ∧ Aside0 (Below w.heap.size w wc))
   case first =>
    have H := HC18.out
    clear HC18
    by_cases c19 : a0_0 = 2
    ·rw [if_pos c19] at H
     have c19b0 : (a0_0 == 2) = true := beq_iff_eq.mpr c19
     have c19b1 : (a0_0 != 2) = false := bne_eq_false_iff_eq.mpr c19
     clear c19
     (first | rw [c19b0] | (simp only [i64_w, i32_w]; rw [c19b0]) | skip)
     by_cases c20 : a0_0 = 1
     ·rw [if_pos c20] at H
      have c20b0 : (a0_0 == 1) = true := beq_iff_eq.mpr c20
      have c20b1 : (a0_0 != 1) = false := bne_eq_false_iff_eq.mpr c20
      clear c20
      have H' := Aside0.mk H
      clear H
      obtain ⟨hcz21_0, hcz21_1, hcz21_2, hcz21_3, hcz21_4, hcz21_5, hcz21_6, hcz21_7, hcz21_8, -⟩ := cells_9 BK147.out trivial
      obtain ⟨hfz21_0, hfz21_1, hfz21_2, hfz21_3, hfz21_4, hfz21_5, hfz21_6, hfz21_7, hfz21_8, -⟩ := frz_9 BK147.out
      go_wp2
      go_meet
      case rel => exact ⟨_, ((a0_4 != 0)), rs_, H', ⟨by have := HJ1.out; first | omega | exact Nat.le_refl _⟩, ⟨by (with_reducible repeat (first | refine blk_drewN ?_ _ | refine blk_drew ?_ | refine blk_alloc ?_ _)); exact BK147.out⟩, ⟨bel⟩⟩
     rw [if_neg c20] at H
     have c20b0 : (a0_0 == 1) = false := beq_eq_false_iff_ne.mpr c20
     have c20b1 : (a0_0 != 1) = true := bne_iff_ne.mpr c20
     have H' := Aside0.mk H
     clear H
     obtain ⟨hcz22_0, hcz22_1, hcz22_2, hcz22_3, hcz22_4, hcz22_5, hcz22_6, hcz22_7, hcz22_8, -⟩ := cells_9 BK147.out trivial
     obtain ⟨hfz22_0, hfz22_1, hfz22_2, hfz22_3, hfz22_4, hfz22_5, hfz22_6, hfz22_7, hfz22_8, -⟩ := frz_9 BK147.out
     go_wp2
     go_meet
     case rel => exact ⟨_, (false), rs_, H', ⟨by have := HJ1.out; first | omega | exact Nat.le_refl _⟩, ⟨by (with_reducible repeat (first | refine blk_drewN ?_ _ | refine blk_drew ?_ | refine blk_alloc ?_ _)); exact BK147.out⟩, ⟨bel⟩⟩
    rw [if_neg c19] at H
    have c19b0 : (a0_0 == 2) = false := beq_eq_false_iff_ne.mpr c19
    have c19b1 : (a0_0 != 2) = true := bne_iff_ne.mpr c19
    (first | rw [c19b0] | (simp only [i64_w, i32_w]; rw [c19b0]) | skip)
    by_cases c23 : (l0_6.length : Int) > 0
    ·rw [if_pos c23] at H
     have c23b0 : decide (0 < (l0_6.length : Int)) = true := decide_eq_true c23
     have c23b1 : decide (0 < l0_6.length) = true := decide_eq_true (by omega)
     clear c23
     have H' := Aside0.mk H
     clear H
     obtain ⟨hcz24_0, hcz24_1, hcz24_2, hcz24_3, hcz24_4, hcz24_5, hcz24_6, hcz24_7, hcz24_8, -⟩ := cells_9 BK147.out trivial
     obtain ⟨hfz24_0, hfz24_1, hfz24_2, hfz24_3, hfz24_4, hfz24_5, hfz24_6, hfz24_7, hfz24_8, -⟩ := frz_9 BK147.out
     go_wp2
     go_meet
     case rel => exact ⟨_, (true), rs_, H', ⟨by have := HJ1.out; first | omega | exact Nat.le_refl _⟩, ⟨by (with_reducible repeat (first | refine blk_drewN ?_ _ | refine blk_drew ?_ | refine blk_alloc ?_ _)); exact BK147.out⟩, ⟨bel⟩⟩
    rw [if_neg c23] at H
    have c23b0 : decide (0 < (l0_6.length : Int)) = false := decide_eq_false c23
    have c23b1 : decide (0 < l0_6.length) = false := decide_eq_false (by omega)
    clear c23
    by_cases c25 : a0_7 = 0
    ·rw [if_pos c25] at H
     have c25b0 : (a0_7 == 0) = true := beq_iff_eq.mpr c25
     have c25b1 : (a0_7 != 0) = false := bne_eq_false_iff_eq.mpr c25
     clear c25
     by_cases c26 : a0_0 = 1
     ·rw [if_pos c26] at H
      have c26b0 : (a0_0 == 1) = true := beq_iff_eq.mpr c26
      have c26b1 : (a0_0 != 1) = false := bne_eq_false_iff_eq.mpr c26
      clear c26
      have H' := Aside0.mk H
      clear H
      obtain ⟨hcz27_0, hcz27_1, hcz27_2, hcz27_3, hcz27_4, hcz27_5, hcz27_6, hcz27_7, hcz27_8, -⟩ := cells_9 BK147.out trivial
      obtain ⟨hfz27_0, hfz27_1, hfz27_2, hfz27_3, hfz27_4, hfz27_5, hfz27_6, hfz27_7, hfz27_8, -⟩ := frz_9 BK147.out
      go_wp2
      go_meet
      case rel => exact ⟨_, ((a0_4 != 0)), rs_, H', ⟨by have := HJ1.out; first | omega | exact Nat.le_refl _⟩, ⟨by (with_reducible repeat (first | refine blk_drewN ?_ _ | refine blk_drew ?_ | refine blk_alloc ?_ _)); exact BK147.out⟩, ⟨bel⟩⟩
     rw [if_neg c26] at H
     have c26b0 : (a0_0 == 1) = false := beq_eq_false_iff_ne.mpr c26
     have c26b1 : (a0_0 != 1) = true := bne_iff_ne.mpr c26
     have H' := Aside0.mk H
     clear H
     obtain ⟨hcz28_0, hcz28_1, hcz28_2, hcz28_3, hcz28_4, hcz28_5, hcz28_6, hcz28_7, hcz28_8, -⟩ := cells_9 BK147.out trivial
     obtain ⟨hfz28_0, hfz28_1, hfz28_2, hfz28_3, hfz28_4, hfz28_5, hfz28_6, hfz28_7, hfz28_8, -⟩ := frz_9 BK147.out
     go_wp2
     go_meet
     case rel => exact ⟨_, (false), rs_, H', ⟨by have := HJ1.out; first | omega | exact Nat.le_refl _⟩, ⟨by (with_reducible repeat (first | refine blk_drewN ?_ _ | refine blk_drew ?_ | refine blk_alloc ?_ _)); exact BK147.out⟩, ⟨bel⟩⟩
    rw [if_neg c25] at H
    have c25b0 : (a0_7 == 0) = false := beq_eq_false_iff_ne.mpr c25
    have c25b1 : (a0_7 != 0) = true := bne_iff_ne.mpr c25
    have H' := Aside0.mk H
    clear H
    obtain ⟨hcz29_0, hcz29_1, hcz29_2, hcz29_3, hcz29_4, hcz29_5, hcz29_6, hcz29_7, hcz29_8, -⟩ := cells_9 BK147.out trivial
    obtain ⟨hfz29_0, hfz29_1, hfz29_2, hfz29_3, hfz29_4, hfz29_5, hfz29_6, hfz29_7, hfz29_8, -⟩ := frz_9 BK147.out
    go_wp2
    go_meet
    case rel => exact ⟨_, (true), rs_, H', ⟨by have := HJ1.out; first | omega | exact Nat.le_refl _⟩, ⟨by (with_reducible repeat (first | refine blk_drewN ?_ _ | refine blk_drew ?_ | refine blk_alloc ?_ _)); exact BK147.out⟩, ⟨bel⟩⟩
   case rest =>
    clear HC18
    try clear c1; try clear c2; try clear p2; try clear c5; try clear c7; try clear c8; try clear c9; try clear c10; try clear c10b0; try clear c10b1; try clear c17; try clear c19; try clear c19b0; try clear c19b1; try clear c20; try clear c20b0; try clear c20b1; try clear c23; try clear c23b0; try clear c23b1; try clear c25; try clear c25b0; try clear c25b1; try clear c26; try clear c26b0; try clear c26b1; try clear c28; try clear hcz11_0; try clear hcz11_1; try clear hcz11_2; try clear hcz11_3; try clear hcz11_4; try clear hcz11_5; try clear hcz11_6; try clear hcz11_7; try clear hcz11_8; try clear hcz13_0; try clear hcz13_1; try clear hcz13_2; try clear hcz13_3; try clear hcz13_4; try clear hcz13_5; try clear hcz13_6; try clear hcz13_7; try clear hcz13_8; try clear hcz14_0; try clear hcz14_1; try clear hcz14_2; try clear hcz14_3; try clear hcz14_4; try clear hcz14_5; try clear hcz14_6; try clear hcz14_7; try clear hcz14_8; try clear hcz15_0; try clear hcz15_1; try clear hcz15_2; try clear hcz15_3; try clear hcz15_4; try clear hcz15_5; try clear hcz15_6; try clear hcz15_7; try clear hcz15_8; try clear hcz16_0; try clear hcz16_1; try clear hcz16_2; try clear hcz16_3; try clear hcz16_4; try clear hcz16_5; try clear hcz16_6; try clear hcz16_7; try clear hcz16_8; try clear hcz21_0; try clear hcz21_1; try clear hcz21_2; try clear hcz21_3; try clear hcz21_4; try clear hcz21_5; try clear hcz21_6; try clear hcz21_7; try clear hcz21_8; try clear hcz22_0; try clear hcz22_1; try clear hcz22_2; try clear hcz22_3; try clear hcz22_4; try clear hcz22_5; try clear hcz22_6; try clear hcz22_7; try clear hcz22_8; try clear hcz24_0; try clear hcz24_1; try clear hcz24_2; try clear hcz24_3; try clear hcz24_4; try clear hcz24_5; try clear hcz24_6; try clear hcz24_7; try clear hcz24_8; try clear hcz27_0; try clear hcz27_1; try clear hcz27_2; try clear hcz27_3; try clear hcz27_4; try clear hcz27_5; try clear hcz27_6; try clear hcz27_7; try clear hcz27_8; try clear hcz28_0; try clear hcz28_1; try clear hcz28_2; try clear hcz28_3; try clear hcz28_4; try clear hcz28_5; try clear hcz28_6; try clear hcz28_7; try clear hcz28_8; try clear hcz29_0; try clear hcz29_1; try clear hcz29_2; try clear hcz29_3; try clear hcz29_4; try clear hcz29_5; try clear hcz29_6; try clear hcz29_7; try clear hcz29_8; try clear hfz11_0; try clear hfz11_1; try clear hfz11_2; try clear hfz11_3; try clear hfz11_4; try clear hfz11_5; try clear hfz11_6; try clear hfz11_7; try clear hfz11_8; try clear hfz13_0; try clear hfz13_1; try clear hfz13_2; try clear hfz13_3; try clear hfz13_4; try clear hfz13_5; try clear hfz13_6; try clear hfz13_7; try clear hfz13_8; try clear hfz14_0; try clear hfz14_1; try clear hfz14_2; try clear hfz14_3; try clear hfz14_4; try clear hfz14_5; try clear hfz14_6; try clear hfz14_7; try clear hfz14_8; try clear hfz15_0; try clear hfz15_1; try clear hfz15_2; try clear hfz15_3; try clear hfz15_4; try clear hfz15_5; try clear hfz15_6; try clear hfz15_7; try clear hfz15_8; try clear hfz16_0; try clear hfz16_1; try clear hfz16_2; try clear hfz16_3; try clear hfz16_4; try clear hfz16_5; try clear hfz16_6; try clear hfz16_7; try clear hfz16_8; try clear hfz21_0; try clear hfz21_1; try clear hfz21_2; try clear hfz21_3; try clear hfz21_4; try clear hfz21_5; try clear hfz21_6; try clear hfz21_7; try clear hfz21_8; try clear hfz22_0; try clear hfz22_1; try clear hfz22_2; try clear hfz22_3; try clear hfz22_4; try clear hfz22_5; try clear hfz22_6; try clear hfz22_7; try clear hfz22_8; try clear hfz24_0; try clear hfz24_1; try clear hfz24_2; try clear hfz24_3; try clear hfz24_4; try clear hfz24_5; try clear hfz24_6; try clear hfz24_7; try clear hfz24_8; try clear hfz27_0; try clear hfz27_1; try clear hfz27_2; try clear hfz27_3; try clear hfz27_4; try clear hfz27_5; try clear hfz27_6; try clear hfz27_7; try clear hfz27_8; try clear hfz28_0; try clear hfz28_1; try clear hfz28_2; try clear hfz28_3; try clear hfz28_4; try clear hfz28_5; try clear hfz28_6; try clear hfz28_7; try clear hfz28_8; try clear hfz29_0; try clear hfz29_1; try clear hfz29_2; try clear hfz29_3; try clear hfz29_4; try clear hfz29_5; try clear hfz29_6; try clear hfz29_7; try clear hfz29_8; try clear p2
    obtain ⟨kq, x58_17, rfl, HA, HJ17, BK147, HB⟩ := hcut
    cases kq with
    | zero => exact absurd HA.out (by simp [impl_MsgOk.j1])
    | succ kj17 =>
     have H := HA.out
     clear HA
     simp only [impl_MsgOk.j1] at H
     by_cases c30 : x58_17 = true
     ·subst c30
      have H1 : (some false) = some r := by rw [if_pos rfl] at H; exact H
      clear H
      have H := H1
      clear H1
      obtain rfl := Option.some.inj H
      go_wp2
      go_ret
      exact ⟨rz_, bel⟩
     replace c30 := Bool.eq_false_iff.mpr c30
     subst c30
     have H1 : (if a0_0 = 1 then (impl_MsgOk.j2 kj17 true a0_0 a0_1 a0_2 a0_3 a0_4 a0_5 l0_6 a0_7 a0_8) else (impl_MsgOk.j2 kj17 (a0_0 == 3) a0_0 a0_1 a0_2 a0_3 a0_4 a0_5 l0_6 a0_7 a0_8)) = some r := by rw [if_neg (show ¬ (false = true) by decide)] at H; exact H
     clear H
     have H := H1
     clear H1
     have HC31 := Aside0.mk H
     clear H
     go_upto_region 5 with (fail)
     go_cut [66] (fun v66 wc => ∃ (kq : Nat) (x66_30 : Bool), v66 = .bool x66_30 ∧ Aside0 (impl_MsgOk.j2 kq x66_30 a0_0 a0_1 a0_2 a0_3 a0_4 a0_5 l0_6 a0_7 a0_8 = some r) ∧ Aside0 (kq ≤ kj17) ∧ Aside0 (wc.heap[gb147]? = some (.cells #[.int .i64 a0_0, .int .i64 a0_1, .int .i64 a0_2, .int .i64 a0_3, .int .i64 a0_4, .int .i64 a0_5, (.slice A0_6 l0_6.length c0_6), .int .i64 a0_7, .bool a0_8] 54 (0, 0))) ∧ Aside0 (Below w.heap.size w wc))
     case first =>
      have H := HC31.out
      clear HC31
      by_cases c32 : a0_0 = 1
      ·rw [if_pos c32] at H
       have c32b0 : (a0_0 == 1) = true := beq_iff_eq.mpr c32
       have c32b1 : (a0_0 != 1) = false := bne_eq_false_iff_eq.mpr c32
       clear c32
       (first | rw [c32b0] | (simp only [i64_w, i32_w]; rw [c32b0]) | skip)
       have H' := Aside0.mk H
       clear H
       obtain ⟨hcz33_0, hcz33_1, hcz33_2, hcz33_3, hcz33_4, hcz33_5, hcz33_6, hcz33_7, hcz33_8, -⟩ := cells_9 BK147.out trivial
       obtain ⟨hfz33_0, hfz33_1, hfz33_2, hfz33_3, hfz33_4, hfz33_5, hfz33_6, hfz33_7, hfz33_8, -⟩ := frz_9 BK147.out
       go_wp2
       go_meet
       case rel => exact ⟨_, (true), rs_, H', ⟨by have := HJ1.out; have := HJ17.out; first | omega | exact Nat.le_refl _⟩, ⟨by (with_reducible repeat (first | refine blk_drewN ?_ _ | refine blk_drew ?_ | refine blk_alloc ?_ _)); exact BK147.out⟩, ⟨bel⟩⟩
      rw [if_neg c32] at H
      have c32b0 : (a0_0 == 1) = false := beq_eq_false_iff_ne.mpr c32
      have c32b1 : (a0_0 != 1) = true := bne_iff_ne.mpr c32
      (first | rw [c32b0] | (simp only [i64_w, i32_w]; rw [c32b0]) | skip)
      have H' := Aside0.mk H
      clear H
      obtain ⟨hcz34_0, hcz34_1, hcz34_2, hcz34_3, hcz34_4, hcz34_5, hcz34_6, hcz34_7, hcz34_8, -⟩ := cells_9 BK147.out trivial
      obtain ⟨hfz34_0, hfz34_1, hfz34_2, hfz34_3, hfz34_4, hfz34_5, hfz34_6, hfz34_7, hfz34_8, -⟩ := frz_9 BK147.out
      go_wp2
      go_meet
      case rel => exact ⟨_, ((a0_0 == 3)), rs_, H', ⟨by have := HJ1.out; have := HJ17.out; first | omega | exact Nat.le_refl _⟩, ⟨by (with_reducible repeat (first | refine blk_drewN ?_ _ | refine blk_drew ?_ | refine blk_alloc ?_ _)); exact BK147.out⟩, ⟨bel⟩⟩
     case rest =>
      clear HC31
      try clear c1; try clear c2; try clear p2; try clear c3; try clear c5; try clear c7; try clear c8; try clear c9; try clear c10; try clear c10b0; try clear c10b1; try clear c17; try clear c19; try clear c19b0; try clear c19b1; try clear c20; try clear c20b0; try clear c20b1; try clear c23; try clear c23b0; try clear c23b1; try clear c25; try clear c25b0; try clear c25b1; try clear c26; try clear c26b0; try clear c26b1; try clear c28; try clear c30; try clear c32; try clear c32b0; try clear c32b1; try clear hcz11_0; try clear hcz11_1; try clear hcz11_2; try clear hcz11_3; try clear hcz11_4; try clear hcz11_5; try clear hcz11_6; try clear hcz11_7; try clear hcz11_8; try clear hcz13_0; try clear hcz13_1; try clear hcz13_2; try clear hcz13_3; try clear hcz13_4; try clear hcz13_5; try clear hcz13_6; try clear hcz13_7; try clear hcz13_8; try clear hcz14_0; try clear hcz14_1; try clear hcz14_2; try clear hcz14_3; try clear hcz14_4; try clear hcz14_5; try clear hcz14_6; try clear hcz14_7; try clear hcz14_8; try clear hcz15_0; try clear hcz15_1; try clear hcz15_2; try clear hcz15_3; try clear hcz15_4; try clear hcz15_5; try clear hcz15_6; try clear hcz15_7; try clear hcz15_8; try clear hcz16_0; try clear hcz16_1; try clear hcz16_2; try clear hcz16_3; try clear hcz16_4; try clear hcz16_5; try clear hcz16_6; try clear hcz16_7; try clear hcz16_8; try clear hcz21_0; try clear hcz21_1; try clear hcz21_2; try clear hcz21_3; try clear hcz21_4; try clear hcz21_5; try clear hcz21_6; try clear hcz21_7; try clear hcz21_8; try clear hcz22_0; try clear hcz22_1; try clear hcz22_2; try clear hcz22_3; try clear hcz22_4; try clear hcz22_5; try clear hcz22_6; try clear hcz22_7; try clear hcz22_8; try clear hcz24_0; try clear hcz24_1; try clear hcz24_2; try clear hcz24_3; try clear hcz24_4; try clear hcz24_5; try clear hcz24_6; try clear hcz24_7; try clear hcz24_8; try clear hcz27_0; try clear hcz27_1; try clear hcz27_2; try clear hcz27_3; try clear hcz27_4; try clear hcz27_5; try clear hcz27_6; try clear hcz27_7; try clear hcz27_8; try clear hcz28_0; try clear hcz28_1; try clear hcz28_2; try clear hcz28_3; try clear hcz28_4; try clear hcz28_5; try clear hcz28_6; try clear hcz28_7; try clear hcz28_8; try clear hcz29_0; try clear hcz29_1; try clear hcz29_2; try clear hcz29_3; try clear hcz29_4; try clear hcz29_5; try clear hcz29_6; try clear hcz29_7; try clear hcz29_8; try clear hcz33_0; try clear hcz33_1; try clear hcz33_2; try clear hcz33_3; try clear hcz33_4; try clear hcz33_5; try clear hcz33_6; try clear hcz33_7; try clear hcz33_8; try clear hcz34_0; try clear hcz34_1; try clear hcz34_2; try clear hcz34_3; try clear hcz34_4; try clear hcz34_5; try clear hcz34_6; try clear hcz34_7; try clear hcz34_8; try clear hfz11_0; try clear hfz11_1; try clear hfz11_2; try clear hfz11_3; try clear hfz11_4; try clear hfz11_5; try clear hfz11_6; try clear hfz11_7; try clear hfz11_8; try clear hfz13_0; try clear hfz13_1; try clear hfz13_2; try clear hfz13_3; try clear hfz13_4; try clear hfz13_5; try clear hfz13_6; try clear hfz13_7; try clear hfz13_8; try clear hfz14_0; try clear hfz14_1; try clear hfz14_2; try clear hfz14_3; try clear hfz14_4; try clear hfz14_5; try clear hfz14_6; try clear hfz14_7; try clear hfz14_8; try clear hfz15_0; try clear hfz15_1; try clear hfz15_2; try clear hfz15_3; try clear hfz15_4; try clear hfz15_5; try clear hfz15_6; try clear hfz15_7; try clear hfz15_8; try clear hfz16_0; try clear hfz16_1; try clear hfz16_2; try clear hfz16_3; try clear hfz16_4; try clear hfz16_5; try clear hfz16_6; try clear hfz16_7; try clear hfz16_8; try clear hfz21_0; try clear hfz21_1; try clear hfz21_2; try clear hfz21_3; try clear hfz21_4; try clear hfz21_5; try clear hfz21_6; try clear hfz21_7; try clear hfz21_8; try clear hfz22_0; try clear hfz22_1; try clear hfz22_2; try clear hfz22_3; try clear hfz22_4; try clear hfz22_5; try clear hfz22_6; try clear hfz22_7; try clear hfz22_8; try clear hfz24_0; try clear hfz24_1; try clear hfz24_2; try clear hfz24_3; try clear hfz24_4; try clear hfz24_5; try clear hfz24_6; try clear hfz24_7; try clear hfz24_8; try clear hfz27_0; try clear hfz27_1; try clear hfz27_2; try clear hfz27_3; try clear hfz27_4; try clear hfz27_5; try clear hfz27_6; try clear hfz27_7; try clear hfz27_8; try clear hfz28_0; try clear hfz28_1; try clear hfz28_2; try clear hfz28_3; try clear hfz28_4; try clear hfz28_5; try clear hfz28_6; try clear hfz28_7; try clear hfz28_8; try clear hfz29_0; try clear hfz29_1; try clear hfz29_2; try clear hfz29_3; try clear hfz29_4; try clear hfz29_5; try clear hfz29_6; try clear hfz29_7; try clear hfz29_8; try clear hfz33_0; try clear hfz33_1; try clear hfz33_2; try clear hfz33_3; try clear hfz33_4; try clear hfz33_5; try clear hfz33_6; try clear hfz33_7; try clear hfz33_8; try clear hfz34_0; try clear hfz34_1; try clear hfz34_2; try clear hfz34_3; try clear hfz34_4; try clear hfz34_5; try clear hfz34_6; try clear hfz34_7; try clear hfz34_8; try clear p2
      obtain ⟨kq, x66_30, rfl, HA, HJ30, BK147, HB⟩ := hcut
      cases kq with
      | zero => exact absurd HA.out (by simp [impl_MsgOk.j2])
      | succ kj30 =>
       have H := HA.out
       clear HA
       simp only [impl_MsgOk.j2] at H
       by_cases c35 : x66_30 = true
       ·subst c35
        have H1 : (if a0_5 = 0 then ((impl_within.f a0_4 0 400).bind fun t152 => (some t152)) else (some false)) = some r := by rw [if_pos rfl] at H; exact H
        clear H
        have H := H1
        clear H1
        by_cases c36 : a0_5 = 0
        ·rw [if_pos c36] at H
         have c36b0 : (a0_5 == 0) = true := beq_iff_eq.mpr c36
         have c36b1 : (a0_5 != 0) = false := bne_eq_false_iff_eq.mpr c36
         clear c36
         replace H := Option.bind_eq_some_iff.mp H
         obtain ⟨t152, A370, H⟩ := H
         replace H : (some t152) = some r := H
         have A37 := Aside0.mk A370
         clear A370
         obtain rfl := Option.some.inj H
         obtain ⟨hcz38_0, hcz38_1, hcz38_2, hcz38_3, hcz38_4, hcz38_5, hcz38_6, hcz38_7, hcz38_8, -⟩ := cells_9 BK147.out trivial
         obtain ⟨hfz38_0, hfz38_1, hfz38_2, hfz38_3, hfz38_4, hfz38_5, hfz38_6, hfz38_7, hfz38_8, -⟩ := frz_9 BK147.out
         go_wp2_with (first | (go_at_call 81; (with_reducible refine (impl_within.calls a0_4 0 400 t152 _ A37.out).mono ?_); rintro e w' ⟨rfl, ⟨nd, rfl⟩⟩))
         go_ret
         exact ⟨rz_, bel⟩
        rw [if_neg c36] at H
        have c36b0 : (a0_5 == 0) = false := beq_eq_false_iff_ne.mpr c36
        have c36b1 : (a0_5 != 0) = true := bne_iff_ne.mpr c36
        obtain rfl := Option.some.inj H
        obtain ⟨hcz39_0, hcz39_1, hcz39_2, hcz39_3, hcz39_4, hcz39_5, hcz39_6, hcz39_7, hcz39_8, -⟩ := cells_9 BK147.out trivial
        obtain ⟨hfz39_0, hfz39_1, hfz39_2, hfz39_3, hfz39_4, hfz39_5, hfz39_6, hfz39_7, hfz39_8, -⟩ := frz_9 BK147.out
        go_wp2
        go_ret
        exact ⟨rz_, bel⟩
       replace c35 := Bool.eq_false_iff.mpr c35
       subst c35
       have H1 : (if a0_8 = true then (impl_MsgOk.j3 kj30 true a0_0 a0_1 a0_2 a0_3 a0_4 a0_5 l0_6 a0_7 a0_8) else ((impl_within.f a0_4 0 400).bind fun t153 => (if t153 = true then (if a0_4 = 0 then (if a0_5 = 0 then (if a0_4 > 0 then ((impl_within.f a0_5 1 a0_3).bind fun t154 => (impl_MsgOk.j3 kj30 (!t154) a0_0 a0_1 a0_2 a0_3 a0_4 a0_5 l0_6 a0_7 a0_8)) else (impl_MsgOk.j3 kj30 false a0_0 a0_1 a0_2 a0_3 a0_4 a0_5 l0_6 a0_7 a0_8)) else (impl_MsgOk.j3 kj30 true a0_0 a0_1 a0_2 a0_3 a0_4 a0_5 l0_6 a0_7 a0_8)) else (if a0_4 > 0 then ((impl_within.f a0_5 1 a0_3).bind fun t155 => (impl_MsgOk.j3 kj30 (!t155) a0_0 a0_1 a0_2 a0_3 a0_4 a0_5 l0_6 a0_7 a0_8)) else (impl_MsgOk.j3 kj30 false a0_0 a0_1 a0_2 a0_3 a0_4 a0_5 l0_6 a0_7 a0_8))) else (impl_MsgOk.j3 kj30 true a0_0 a0_1 a0_2 a0_3 a0_4 a0_5 l0_6 a0_7 a0_8)))) = some r := by rw [if_neg (show ¬ (false = true) by decide)] at H; exact H
       clear H
       have H := H1
       clear H1
       have HC40 := Aside0.mk H
       clear H
       go_upto_region 7 with (fail)
       go_cut [105] (fun v105 wc => ∃ (kq : Nat) (x105_39 : Bool), v105 = .bool x105_39 ∧ Aside0 (impl_MsgOk.j3 kq x105_39 a0_0 a0_1 a0_2 a0_3 a0_4 a0_5 l0_6 a0_7 a0_8 = some r) ∧ Aside0 (kq ≤ kj30) ∧ Aside0 (wc.heap[gb147]? = some (.cells #[.int .i64 a0_0, .int .i64 a0_1, .int .i64 a0_2, .int .i64 a0_3, .int .i64 a0_4, .int .i64 a0_5, (.slice A0_6 l0_6.length c0_6), .int .i64 a0_7, .bool a0_8] 54 (0, 0))) ∧ Aside0 (Below w.heap.size w wc))
       case first =>
        have H := HC40.out
        clear HC40
        by_cases c41 : a0_8 = true
        ·subst c41
         have H1 : (impl_MsgOk.j3 kj30 true a0_0 a0_1 a0_2 a0_3 a0_4 a0_5 l0_6 a0_7 true) = some r := by rw [if_pos rfl] at H; exact H
         clear H
         have H := H1
         clear H1
         have H' := Aside0.mk H
         clear H
         obtain ⟨hcz42_0, hcz42_1, hcz42_2, hcz42_3, hcz42_4, hcz42_5, hcz42_6, hcz42_7, hcz42_8, -⟩ := cells_9 BK147.out trivial
         obtain ⟨hfz42_0, hfz42_1, hfz42_2, hfz42_3, hfz42_4, hfz42_5, hfz42_6, hfz42_7, hfz42_8, -⟩ := frz_9 BK147.out
         go_wp2
         go_meet
         case rel => exact ⟨_, (true), rs_, H', ⟨by have := HJ1.out; have := HJ17.out; have := HJ30.out; first | omega | exact Nat.le_refl _⟩, ⟨by (with_reducible repeat (first | refine blk_drewN ?_ _ | refine blk_drew ?_ | refine blk_alloc ?_ _)); exact BK147.out⟩, ⟨bel⟩⟩
        replace c41 := Bool.eq_false_iff.mpr c41
        subst c41
        have H1 : ((impl_within.f a0_4 0 400).bind fun t153 => (if t153 = true then (if a0_4 = 0 then (if a0_5 = 0 then (if a0_4 > 0 then ((impl_within.f a0_5 1 a0_3).bind fun t154 => (impl_MsgOk.j3 kj30 (!t154) a0_0 a0_1 a0_2 a0_3 a0_4 a0_5 l0_6 a0_7 false)) else (impl_MsgOk.j3 kj30 false a0_0 a0_1 a0_2 a0_3 a0_4 a0_5 l0_6 a0_7 false)) else (impl_MsgOk.j3 kj30 true a0_0 a0_1 a0_2 a0_3 a0_4 a0_5 l0_6 a0_7 false)) else (if a0_4 > 0 then ((impl_within.f a0_5 1 a0_3).bind fun t155 => (impl_MsgOk.j3 kj30 (!t155) a0_0 a0_1 a0_2 a0_3 a0_4 a0_5 l0_6 a0_7 false)) else (impl_MsgOk.j3 kj30 false a0_0 a0_1 a0_2 a0_3 a0_4 a0_5 l0_6 a0_7 false))) else (impl_MsgOk.j3 kj30 true a0_0 a0_1 a0_2 a0_3 a0_4 a0_5 l0_6 a0_7 false))) = some r := by rw [if_neg (show ¬ (false = true) by decide)] at H; exact H
        clear H
        have H := H1
        clear H1
        replace H := Option.bind_eq_some_iff.mp H
        obtain ⟨t153, A430, H⟩ := H
        replace H : (if t153 = true then (if a0_4 = 0 then (if a0_5 = 0 then (if a0_4 > 0 then ((impl_within.f a0_5 1 a0_3).bind fun t154 => (impl_MsgOk.j3 kj30 (!t154) a0_0 a0_1 a0_2 a0_3 a0_4 a0_5 l0_6 a0_7 false)) else (impl_MsgOk.j3 kj30 false a0_0 a0_1 a0_2 a0_3 a0_4 a0_5 l0_6 a0_7 false)) else (impl_MsgOk.j3 kj30 true a0_0 a0_1 a0_2 a0_3 a0_4 a0_5 l0_6 a0_7 false)) else (if a0_4 > 0 then ((impl_within.f a0_5 1 a0_3).bind fun t155 => (impl_MsgOk.j3 kj30 (!t155) a0_0 a0_1 a0_2 a0_3 a0_4 a0_5 l0_6 a0_7 false)) else (impl_MsgOk.j3 kj30 false a0_0 a0_1 a0_2 a0_3 a0_4 a0_5 l0_6 a0_7 false))) else (impl_MsgOk.j3 kj30 true a0_0 a0_1 a0_2 a0_3 a0_4 a0_5 l0_6 a0_7 false)) = some r := H
        have A43 := Aside0.mk A430
        clear A430
        by_cases c44 : t153 = true
        ·subst c44
         have H1 : (if a0_4 = 0 then (if a0_5 = 0 then (if a0_4 > 0 then ((impl_within.f a0_5 1 a0_3).bind fun t154 => (impl_MsgOk.j3 kj30 (!t154) a0_0 a0_1 a0_2 a0_3 a0_4 a0_5 l0_6 a0_7 false)) else (impl_MsgOk.j3 kj30 false a0_0 a0_1 a0_2 a0_3 a0_4 a0_5 l0_6 a0_7 false)) else (impl_MsgOk.j3 kj30 true a0_0 a0_1 a0_2 a0_3 a0_4 a0_5 l0_6 a0_7 false)) else (if a0_4 > 0 then ((impl_within.f a0_5 1 a0_3).bind fun t155 => (impl_MsgOk.j3 kj30 (!t155) a0_0 a0_1 a0_2 a0_3 a0_4 a0_5 l0_6 a0_7 false)) else (impl_MsgOk.j3 kj30 false a0_0 a0_1 a0_2 a0_3 a0_4 a0_5 l0_6 a0_7 false))) = some r := by rw [if_pos rfl] at H; exact H
         clear H
         have H := H1
         clear H1
         by_cases c45 : a0_4 = 0
         ·rw [if_pos c45] at H
          have c45b0 : (a0_4 == 0) = true := beq_iff_eq.mpr c45
          have c45b1 : (a0_4 != 0) = false := bne_eq_false_iff_eq.mpr c45
          clear c45
          (first | rw [c45b0] | (simp only [i64_w, i32_w]; rw [c45b0]) | skip)
          by_cases c46 : a0_5 = 0
          ·rw [if_pos c46] at H
           have c46b0 : (a0_5 == 0) = true := beq_iff_eq.mpr c46
           have c46b1 : (a0_5 != 0) = false := bne_eq_false_iff_eq.mpr c46
           clear c46
           by_cases c47 : a0_4 > 0
           ·rw [if_pos c47] at H
            have c47b0 : decide (0 < a0_4) = true := decide_eq_true c47
            clear c47
            replace H := Option.bind_eq_some_iff.mp H
            obtain ⟨t154, A480, H⟩ := H
            replace H : (impl_MsgOk.j3 kj30 (!t154) a0_0 a0_1 a0_2 a0_3 a0_4 a0_5 l0_6 a0_7 false) = some r := H
            have A48 := Aside0.mk A480
            clear A480
            have H' := Aside0.mk H
            clear H
            obtain ⟨hcz49_0, hcz49_1, hcz49_2, hcz49_3, hcz49_4, hcz49_5, hcz49_6, hcz49_7, hcz49_8, -⟩ := cells_9 BK147.out trivial
            obtain ⟨hfz49_0, hfz49_1, hfz49_2, hfz49_3, hfz49_4, hfz49_5, hfz49_6, hfz49_7, hfz49_8, -⟩ := frz_9 BK147.out
            go_wp2_with (first | (go_at_call 81; (with_reducible refine (impl_within.calls a0_4 0 400 true _ A43.out).mono ?_); rintro e w' ⟨rfl, ⟨nd, rfl⟩⟩) | (go_at_call 81; (with_reducible refine (impl_within.calls a0_5 1 a0_3 t154 _ A48.out).mono ?_); rintro e w' ⟨rfl, ⟨nd, rfl⟩⟩))
            go_meet
            case rel => exact ⟨_, (!t154), rs_, H', ⟨by have := HJ1.out; have := HJ17.out; have := HJ30.out; first | omega | exact Nat.le_refl _⟩, ⟨by (with_reducible repeat (first | refine blk_drewN ?_ _ | refine blk_drew ?_ | refine blk_alloc ?_ _)); exact BK147.out⟩, ⟨bel⟩⟩
           rw [if_neg c47] at H
           have c47b0 : decide (0 < a0_4) = false := decide_eq_false c47
           clear c47
           have H' := Aside0.mk H
           clear H
           obtain ⟨hcz50_0, hcz50_1, hcz50_2, hcz50_3, hcz50_4, hcz50_5, hcz50_6, hcz50_7, hcz50_8, -⟩ := cells_9 BK147.out trivial
           obtain ⟨hfz50_0, hfz50_1, hfz50_2, hfz50_3, hfz50_4, hfz50_5, hfz50_6, hfz50_7, hfz50_8, -⟩ := frz_9 BK147.out
           go_wp2_with (first | (go_at_call 81; (with_reducible refine (impl_within.calls a0_4 0 400 true _ A43.out).mono ?_); rintro e w' ⟨rfl, ⟨nd, rfl⟩⟩))
           go_meet
           case rel => exact ⟨_, (false), rs_, H', ⟨by have := HJ1.out; have := HJ17.out; have := HJ30.out; first | omega | exact Nat.le_refl _⟩, ⟨by (with_reducible repeat (first | refine blk_drewN ?_ _ | refine blk_drew ?_ | refine blk_alloc ?_ _)); exact BK147.out⟩, ⟨bel⟩⟩
          rw [if_neg c46] at H
          have c46b0 : (a0_5 == 0) = false := beq_eq_false_iff_ne.mpr c46
          have c46b1 : (a0_5 != 0) = true := bne_iff_ne.mpr c46
          have H' := Aside0.mk H
          clear H
          obtain ⟨hcz51_0, hcz51_1, hcz51_2, hcz51_3, hcz51_4, hcz51_5, hcz51_6, hcz51_7, hcz51_8, -⟩ := cells_9 BK147.out trivial
          obtain ⟨hfz51_0, hfz51_1, hfz51_2, hfz51_3, hfz51_4, hfz51_5, hfz51_6, hfz51_7, hfz51_8, -⟩ := frz_9 BK147.out
          go_wp2_with (first | (go_at_call 81; (with_reducible refine (impl_within.calls a0_4 0 400 true _ A43.out).mono ?_); rintro e w' ⟨rfl, ⟨nd, rfl⟩⟩))
          go_meet
          case rel => exact ⟨_, (true), rs_, H', ⟨by have := HJ1.out; have := HJ17.out; have := HJ30.out; first | omega | exact Nat.le_refl _⟩, ⟨by (with_reducible repeat (first | refine blk_drewN ?_ _ | refine blk_drew ?_ | refine blk_alloc ?_ _)); exact BK147.out⟩, ⟨bel⟩⟩
         rw [if_neg c45] at H
         have c45b0 : (a0_4 == 0) = false := beq_eq_false_iff_ne.mpr c45
         have c45b1 : (a0_4 != 0) = true := bne_iff_ne.mpr c45
         (first | rw [c45b0] | (simp only [i64_w, i32_w]; rw [c45b0]) | skip)
         by_cases c52 : a0_4 > 0
         ·rw [if_pos c52] at H
          have c52b0 : decide (0 < a0_4) = true := decide_eq_true c52
          clear c52
          replace H := Option.bind_eq_some_iff.mp H
          obtain ⟨t155, A530, H⟩ := H
          replace H : (impl_MsgOk.j3 kj30 (!t155) a0_0 a0_1 a0_2 a0_3 a0_4 a0_5 l0_6 a0_7 false) = some r := H
          have A53 := Aside0.mk A530
          clear A530
          have H' := Aside0.mk H
          clear H
          obtain ⟨hcz54_0, hcz54_1, hcz54_2, hcz54_3, hcz54_4, hcz54_5, hcz54_6, hcz54_7, hcz54_8, -⟩ := cells_9 BK147.out trivial
          obtain ⟨hfz54_0, hfz54_1, hfz54_2, hfz54_3, hfz54_4, hfz54_5, hfz54_6, hfz54_7, hfz54_8, -⟩ := frz_9 BK147.out
          go_wp2_with (first | (go_at_call 81; (with_reducible refine (impl_within.calls a0_4 0 400 true _ A43.out).mono ?_); rintro e w' ⟨rfl, ⟨nd, rfl⟩⟩) | (go_at_call 81; (with_reducible refine (impl_within.calls a0_5 1 a0_3 t155 _ A53.out).mono ?_); rintro e w' ⟨rfl, ⟨nd, rfl⟩⟩))
          go_meet
          case rel => exact ⟨_, (!t155), rs_, H', ⟨by have := HJ1.out; have := HJ17.out; have := HJ30.out; first | omega | exact Nat.le_refl _⟩, ⟨by (with_reducible repeat (first | refine blk_drewN ?_ _ | refine blk_drew ?_ | refine blk_alloc ?_ _)); exact BK147.out⟩, ⟨bel⟩⟩
         rw [if_neg c52] at H
         have c52b0 : decide (0 < a0_4) = false := decide_eq_false c52
         clear c52
         have H' := Aside0.mk H
         clear H
         obtain ⟨hcz55_0, hcz55_1, hcz55_2, hcz55_3, hcz55_4, hcz55_5, hcz55_6, hcz55_7, hcz55_8, -⟩ := cells_9 BK147.out trivial
         obtain ⟨hfz55_0, hfz55_1, hfz55_2, hfz55_3, hfz55_4, hfz55_5, hfz55_6, hfz55_7, hfz55_8, -⟩ := frz_9 BK147.out
         go_wp2_with (first | (go_at_call 81; (with_reducible refine (impl_within.calls a0_4 0 400 true _ A43.out).mono ?_); rintro e w' ⟨rfl, ⟨nd, rfl⟩⟩))
         go_meet
         case rel => exact ⟨_, (false), rs_, H', ⟨by have := HJ1.out; have := HJ17.out; have := HJ30.out; first | omega | exact Nat.le_refl _⟩, ⟨by (with_reducible repeat (first | refine blk_drewN ?_ _ | refine blk_drew ?_ | refine blk_alloc ?_ _)); exact BK147.out⟩, ⟨bel⟩⟩
        replace c44 := Bool.eq_false_iff.mpr c44
        subst c44
        have H1 : (impl_MsgOk.j3 kj30 true a0_0 a0_1 a0_2 a0_3 a0_4 a0_5 l0_6 a0_7 false) = some r := by rw [if_neg (show ¬ (false = true) by decide)] at H; exact H
        clear H
        have H := H1
        clear H1
        have H' := Aside0.mk H
        clear H
        obtain ⟨hcz56_0, hcz56_1, hcz56_2, hcz56_3, hcz56_4, hcz56_5, hcz56_6, hcz56_7, hcz56_8, -⟩ := cells_9 BK147.out trivial
        obtain ⟨hfz56_0, hfz56_1, hfz56_2, hfz56_3, hfz56_4, hfz56_5, hfz56_6, hfz56_7, hfz56_8, -⟩ := frz_9 BK147.out
        go_wp2_with (first | (go_at_call 81; (with_reducible refine (impl_within.calls a0_4 0 400 false _ A43.out).mono ?_); rintro e w' ⟨rfl, ⟨nd, rfl⟩⟩))
        go_meet
        case rel => exact ⟨_, (true), rs_, H', ⟨by have := HJ1.out; have := HJ17.out; have := HJ30.out; first | omega | exact Nat.le_refl _⟩, ⟨by (with_reducible repeat (first | refine blk_drewN ?_ _ | refine blk_drew ?_ | refine blk_alloc ?_ _)); exact BK147.out⟩, ⟨bel⟩⟩
       case rest =>
        clear HC40
        try clear c1; try clear c2; try clear p2; try clear c3; try clear c4; try clear c5; try clear c7; try clear c8; try clear c9; try clear c10; try clear c10b0; try clear c10b1; try clear c17; try clear c19; try clear c19b0; try clear c19b1; try clear c20; try clear c20b0; try clear c20b1; try clear c23; try clear c23b0; try clear c23b1; try clear c25; try clear c25b0; try clear c25b1; try clear c26; try clear c26b0; try clear c26b1; try clear c28; try clear c30; try clear c32; try clear c32b0; try clear c32b1; try clear c35; try clear c36; try clear c36b0; try clear c36b1; try clear c41; try clear c44; try clear c45; try clear c45b0; try clear c45b1; try clear c46; try clear c46b0; try clear c46b1; try clear c47; try clear c47b0; try clear c52; try clear c52b0; try clear hcz11_0; try clear hcz11_1; try clear hcz11_2; try clear hcz11_3; try clear hcz11_4; try clear hcz11_5; try clear hcz11_6; try clear hcz11_7; try clear hcz11_8; try clear hcz13_0; try clear hcz13_1; try clear hcz13_2; try clear hcz13_3; try clear hcz13_4; try clear hcz13_5; try clear hcz13_6; try clear hcz13_7; try clear hcz13_8; try clear hcz14_0; try clear hcz14_1; try clear hcz14_2; try clear hcz14_3; try clear hcz14_4; try clear hcz14_5; try clear hcz14_6; try clear hcz14_7; try clear hcz14_8; try clear hcz15_0; try clear hcz15_1; try clear hcz15_2; try clear hcz15_3; try clear hcz15_4; try clear hcz15_5; try clear hcz15_6; try clear hcz15_7; try clear hcz15_8; try clear hcz16_0; try clear hcz16_1; try clear hcz16_2; try clear hcz16_3; try clear hcz16_4; try clear hcz16_5; try clear hcz16_6; try clear hcz16_7; try clear hcz16_8; try clear hcz21_0; try clear hcz21_1; try clear hcz21_2; try clear hcz21_3; try clear hcz21_4; try clear hcz21_5; try clear hcz21_6; try clear hcz21_7; try clear hcz21_8; try clear hcz22_0; try clear hcz22_1; try clear hcz22_2; try clear hcz22_3; try clear hcz22_4; try clear hcz22_5; try clear hcz22_6; try clear hcz22_7; try clear hcz22_8; try clear hcz24_0; try clear hcz24_1; try clear hcz24_2; try clear hcz24_3; try clear hcz24_4; try clear hcz24_5; try clear hcz24_6; try clear hcz24_7; try clear hcz24_8; try clear hcz27_0; try clear hcz27_1; try clear hcz27_2; try clear hcz27_3; try clear hcz27_4; try clear hcz27_5; try clear hcz27_6; try clear hcz27_7; try clear hcz27_8; try clear hcz28_0; try clear hcz28_1; try clear hcz28_2; try clear hcz28_3; try clear hcz28_4; try clear hcz28_5; try clear hcz28_6; try clear hcz28_7; try clear hcz28_8; try clear hcz29_0; try clear hcz29_1; try clear hcz29_2; try clear hcz29_3; try clear hcz29_4; try clear hcz29_5; try clear hcz29_6; try clear hcz29_7; try clear hcz29_8; try clear hcz33_0; try clear hcz33_1; try clear hcz33_2; try clear hcz33_3; try clear hcz33_4; try clear hcz33_5; try clear hcz33_6; try clear hcz33_7; try clear hcz33_8; try clear hcz34_0; try clear hcz34_1; try clear hcz34_2; try clear hcz34_3; try clear hcz34_4; try clear hcz34_5; try clear hcz34_6; try clear hcz34_7; try clear hcz34_8; try clear hcz38_0; try clear hcz38_1; try clear hcz38_2; try clear hcz38_3; try clear hcz38_4; try clear hcz38_5; try clear hcz38_6; try clear hcz38_7; try clear hcz38_8; try clear hcz39_0; try clear hcz39_1; try clear hcz39_2; try clear hcz39_3; try clear hcz39_4; try clear hcz39_5; try clear hcz39_6; try clear hcz39_7; try clear hcz39_8; try clear hcz42_0; try clear hcz42_1; try clear hcz42_2; try clear hcz42_3; try clear hcz42_4; try clear hcz42_5; try clear hcz42_6; try clear hcz42_7; try clear hcz42_8; try clear hcz49_0; try clear hcz49_1; try clear hcz49_2; try clear hcz49_3; try clear hcz49_4; try clear hcz49_5; try clear hcz49_6; try clear hcz49_7; try clear hcz49_8; try clear hcz50_0; try clear hcz50_1; try clear hcz50_2; try clear hcz50_3; try clear hcz50_4; try clear hcz50_5; try clear hcz50_6; try clear hcz50_7; try clear hcz50_8; try clear hcz51_0; try clear hcz51_1; try clear hcz51_2; try clear hcz51_3; try clear hcz51_4; try clear hcz51_5; try clear hcz51_6; try clear hcz51_7; try clear hcz51_8; try clear hcz54_0; try clear hcz54_1; try clear hcz54_2; try clear hcz54_3; try clear hcz54_4; try clear hcz54_5; try clear hcz54_6; try clear hcz54_7; try clear hcz54_8; try clear hcz55_0; try clear hcz55_1; try clear hcz55_2; try clear hcz55_3; try clear hcz55_4; try clear hcz55_5; try clear hcz55_6; try clear hcz55_7; try clear hcz55_8; try clear hcz56_0; try clear hcz56_1; try clear hcz56_2; try clear hcz56_3; try clear hcz56_4; try clear hcz56_5; try clear hcz56_6; try clear hcz56_7; try clear hcz56_8; try clear hfz11_0; try clear hfz11_1; try clear hfz11_2; try clear hfz11_3; try clear hfz11_4; try clear hfz11_5; try clear hfz11_6; try clear hfz11_7; try clear hfz11_8; try clear hfz13_0; try clear hfz13_1; try clear hfz13_2; try clear hfz13_3; try clear hfz13_4; try clear hfz13_5; try clear hfz13_6; try clear hfz13_7; try clear hfz13_8; try clear hfz14_0; try clear hfz14_1; try clear hfz14_2; try clear hfz14_3; try clear hfz14_4; try clear hfz14_5; try clear hfz14_6; try clear hfz14_7; try clear hfz14_8; try clear hfz15_0; try clear hfz15_1; try clear hfz15_2; try clear hfz15_3; try clear hfz15_4; try clear hfz15_5; try clear hfz15_6; try clear hfz15_7; try clear hfz15_8; try clear hfz16_0; try clear hfz16_1; try clear hfz16_2; try clear hfz16_3; try clear hfz16_4; try clear hfz16_5; try clear hfz16_6; try clear hfz16_7; try clear hfz16_8; try clear hfz21_0; try clear hfz21_1; try clear hfz21_2; try clear hfz21_3; try clear hfz21_4; try clear hfz21_5; try clear hfz21_6; try clear hfz21_7; try clear hfz21_8; try clear hfz22_0; try clear hfz22_1; try clear hfz22_2; try clear hfz22_3; try clear hfz22_4; try clear hfz22_5; try clear hfz22_6; try clear hfz22_7; try clear hfz22_8; try clear hfz24_0; try clear hfz24_1; try clear hfz24_2; try clear hfz24_3; try clear hfz24_4; try clear hfz24_5; try clear hfz24_6; try clear hfz24_7; try clear hfz24_8; try clear hfz27_0; try clear hfz27_1; try clear hfz27_2; try clear hfz27_3; try clear hfz27_4; try clear hfz27_5; try clear hfz27_6; try clear hfz27_7; try clear hfz27_8; try clear hfz28_0; try clear hfz28_1; try clear hfz28_2; try clear hfz28_3; try clear hfz28_4; try clear hfz28_5; try clear hfz28_6; try clear hfz28_7; try clear hfz28_8; try clear hfz29_0; try clear hfz29_1; try clear hfz29_2; try clear hfz29_3; try clear hfz29_4; try clear hfz29_5; try clear hfz29_6; try clear hfz29_7; try clear hfz29_8; try clear hfz33_0; try clear hfz33_1; try clear hfz33_2; try clear hfz33_3; try clear hfz33_4; try clear hfz33_5; try clear hfz33_6; try clear hfz33_7; try clear hfz33_8; try clear hfz34_0; try clear hfz34_1; try clear hfz34_2; try clear hfz34_3; try clear hfz34_4; try clear hfz34_5; try clear hfz34_6; try clear hfz34_7; try clear hfz34_8; try clear hfz38_0; try clear hfz38_1; try clear hfz38_2; try clear hfz38_3; try clear hfz38_4; try clear hfz38_5; try clear hfz38_6; try clear hfz38_7; try clear hfz38_8; try clear hfz39_0; try clear hfz39_1; try clear hfz39_2; try clear hfz39_3; try clear hfz39_4; try clear hfz39_5; try clear hfz39_6; try clear hfz39_7; try clear hfz39_8; try clear hfz42_0; try clear hfz42_1; try clear hfz42_2; try clear hfz42_3; try clear hfz42_4; try clear hfz42_5; try clear hfz42_6; try clear hfz42_7; try clear hfz42_8; try clear hfz49_0; try clear hfz49_1; try clear hfz49_2; try clear hfz49_3; try clear hfz49_4; try clear hfz49_5; try clear hfz49_6; try clear hfz49_7; try clear hfz49_8; try clear hfz50_0; try clear hfz50_1; try clear hfz50_2; try clear hfz50_3; try clear hfz50_4; try clear hfz50_5; try clear hfz50_6; try clear hfz50_7; try clear hfz50_8; try clear hfz51_0; try clear hfz51_1; try clear hfz51_2; try clear hfz51_3; try clear hfz51_4; try clear hfz51_5; try clear hfz51_6; try clear hfz51_7; try clear hfz51_8; try clear hfz54_0; try clear hfz54_1; try clear hfz54_2; try clear hfz54_3; try clear hfz54_4; try clear hfz54_5; try clear hfz54_6; try clear hfz54_7; try clear hfz54_8; try clear hfz55_0; try clear hfz55_1; try clear hfz55_2; try clear hfz55_3; try clear hfz55_4; try clear hfz55_5; try clear hfz55_6; try clear hfz55_7; try clear hfz55_8; try clear hfz56_0; try clear hfz56_1; try clear hfz56_2; try clear hfz56_3; try clear hfz56_4; try clear hfz56_5; try clear hfz56_6; try clear hfz56_7; try clear hfz56_8; try clear p2
        obtain ⟨kq, x105_39, rfl, HA, HJ39, BK147, HB⟩ := hcut
        cases kq with
        | zero => exact absurd HA.out (by simp [impl_MsgOk.j3])
        | succ kj39 =>
         have H := HA.out
         clear HA
         simp only [impl_MsgOk.j3] at H
         by_cases c57 : x105_39 = true
         ·subst c57
          have H1 : (some false) = some r := by rw [if_pos rfl] at H; exact H
          clear H
          have H := H1
          clear H1
          obtain rfl := Option.some.inj H
          go_wp2
          go_ret
          exact ⟨rz_, bel⟩
         replace c57 := Bool.eq_false_iff.mpr c57
         subst c57
         have H1 : (impl_MsgOk.l0 kj39 a0_5 l0_6 (l0_6.length : Int) 0 a0_0 a0_1 a0_2 a0_3 a0_4 a0_5 l0_6 a0_7 a0_8) = some r := by rw [if_neg (show ¬ (false = true) by decide)] at H; exact H
         clear H
         have H := H1
         clear H1
         have H' := Aside0.mk H
         clear H
         obtain ⟨hcz58_0, hcz58_1, hcz58_2, hcz58_3, hcz58_4, hcz58_5, hcz58_6, hcz58_7, hcz58_8, -⟩ := cells_9 BK147.out trivial
         obtain ⟨hfz58_0, hfz58_1, hfz58_2, hfz58_3, hfz58_4, hfz58_5, hfz58_6, hfz58_7, hfz58_8, -⟩ := frz_9 BK147.out
         go_wp2
         go_loopg [3, 111] kj39 (fun kq v3 v111 w' => ∃ (x3_5 : Int) (x111_5 : Int), v3 = .int .i64 x3_5 ∧ v111 = .int .i64 x111_5 ∧ Aside0 (impl_MsgOk.l0 kq x3_5 l0_6 (l0_6.length : Int) x111_5 a0_0 a0_1 a0_2 a0_3 a0_4 a0_5 l0_6 a0_7 a0_8 = some r) ∧ Aside0 (kq ≤ kj39) ∧ Aside0 (w'.heap[gb147]? = some (.cells #[.int .i64 a0_0, .int .i64 a0_1, .int .i64 a0_2, .int .i64 a0_3, .int .i64 a0_4, .int .i64 a0_5, (.slice A0_6 l0_6.length c0_6), .int .i64 a0_7, .bool a0_8] 54 (0, 0))) ∧ Aside0 (Below w.heap.size w w'))
         case atStart => exact ⟨(a0_5), (0), rs_, rs_, H', ⟨Nat.le_refl _⟩, ⟨by (with_reducible repeat (first | refine blk_drewN ?_ _ | refine blk_drew ?_ | refine blk_alloc ?_ _)); exact BK147.out⟩, ⟨bel⟩⟩
         case round =>
          clear H'
          try clear c1; try clear c2; try clear p2; try clear c3; try clear c4; try clear c5; try clear c7; try clear c8; try clear c9; try clear c10; try clear c10b0; try clear c10b1; try clear c17; try clear c19; try clear c19b0; try clear c19b1; try clear c20; try clear c20b0; try clear c20b1; try clear c23; try clear c23b0; try clear c23b1; try clear c25; try clear c25b0; try clear c25b1; try clear c26; try clear c26b0; try clear c26b1; try clear c28; try clear c30; try clear c32; try clear c32b0; try clear c32b1; try clear c35; try clear c36; try clear c36b0; try clear c36b1; try clear c41; try clear c44; try clear c45; try clear c45b0; try clear c45b1; try clear c46; try clear c46b0; try clear c46b1; try clear c47; try clear c47b0; try clear c52; try clear c52b0; try clear c57; try clear hcz11_0; try clear hcz11_1; try clear hcz11_2; try clear hcz11_3; try clear hcz11_4; try clear hcz11_5; try clear hcz11_6; try clear hcz11_7; try clear hcz11_8; try clear hcz13_0; try clear hcz13_1; try clear hcz13_2; try clear hcz13_3; try clear hcz13_4; try clear hcz13_5; try clear hcz13_6; try clear hcz13_7; try clear hcz13_8; try clear hcz14_0; try clear hcz14_1; try clear hcz14_2; try clear hcz14_3; try clear hcz14_4; try clear hcz14_5; try clear hcz14_6; try clear hcz14_7; try clear hcz14_8; try clear hcz15_0; try clear hcz15_1; try clear hcz15_2; try clear hcz15_3; try clear hcz15_4; try clear hcz15_5; try clear hcz15_6; try clear hcz15_7; try clear hcz15_8; try clear hcz16_0; try clear hcz16_1; try clear hcz16_2; try clear hcz16_3; try clear hcz16_4; try clear hcz16_5; try clear hcz16_6; try clear hcz16_7; try clear hcz16_8; try clear hcz21_0; try clear hcz21_1; try clear hcz21_2; try clear hcz21_3; try clear hcz21_4; try clear hcz21_5; try clear hcz21_6; try clear hcz21_7; try clear hcz21_8; try clear hcz22_0; try clear hcz22_1; try clear hcz22_2; try clear hcz22_3; try clear hcz22_4; try clear hcz22_5; try clear hcz22_6; try clear hcz22_7; try clear hcz22_8; try clear hcz24_0; try clear hcz24_1; try clear hcz24_2; try clear hcz24_3; try clear hcz24_4; try clear hcz24_5; try clear hcz24_6; try clear hcz24_7; try clear hcz24_8; try clear hcz27_0; try clear hcz27_1; try clear hcz27_2; try clear hcz27_3; try clear hcz27_4; try clear hcz27_5; try clear hcz27_6; try clear hcz27_7; try clear hcz27_8; try clear hcz28_0; try clear hcz28_1; try clear hcz28_2; try clear hcz28_3; try clear hcz28_4; try clear hcz28_5; try clear hcz28_6; try clear hcz28_7; try clear hcz28_8; try clear hcz29_0; try clear hcz29_1; try clear hcz29_2; try clear hcz29_3; try clear hcz29_4; try clear hcz29_5; try clear hcz29_6; try clear hcz29_7; try clear hcz29_8; try clear hcz33_0; try clear hcz33_1; try clear hcz33_2; try clear hcz33_3; try clear hcz33_4; try clear hcz33_5; try clear hcz33_6; try clear hcz33_7; try clear hcz33_8; try clear hcz34_0; try clear hcz34_1; try clear hcz34_2; try clear hcz34_3; try clear hcz34_4; try clear hcz34_5; try clear hcz34_6; try clear hcz34_7; try clear hcz34_8; try clear hcz38_0; try clear hcz38_1; try clear hcz38_2; try clear hcz38_3; try clear hcz38_4; try clear hcz38_5; try clear hcz38_6; try clear hcz38_7; try clear hcz38_8; try clear hcz39_0; try clear hcz39_1; try clear hcz39_2; try clear hcz39_3; try clear hcz39_4; try clear hcz39_5; try clear hcz39_6; try clear hcz39_7; try clear hcz39_8; try clear hcz42_0; try clear hcz42_1; try clear hcz42_2; try clear hcz42_3; try clear hcz42_4; try clear hcz42_5; try clear hcz42_6; try clear hcz42_7; try clear hcz42_8; try clear hcz49_0; try clear hcz49_1; try clear hcz49_2; try clear hcz49_3; try clear hcz49_4; try clear hcz49_5; try clear hcz49_6; try clear hcz49_7; try clear hcz49_8; try clear hcz50_0; try clear hcz50_1; try clear hcz50_2; try clear hcz50_3; try clear hcz50_4; try clear hcz50_5; try clear hcz50_6; try clear hcz50_7; try clear hcz50_8; try clear hcz51_0; try clear hcz51_1; try clear hcz51_2; try clear hcz51_3; try clear hcz51_4; try clear hcz51_5; try clear hcz51_6; try clear hcz51_7; try clear hcz51_8; try clear hcz54_0; try clear hcz54_1; try clear hcz54_2; try clear hcz54_3; try clear hcz54_4; try clear hcz54_5; try clear hcz54_6; try clear hcz54_7; try clear hcz54_8; try clear hcz55_0; try clear hcz55_1; try clear hcz55_2; try clear hcz55_3; try clear hcz55_4; try clear hcz55_5; try clear hcz55_6; try clear hcz55_7; try clear hcz55_8; try clear hcz56_0; try clear hcz56_1; try clear hcz56_2; try clear hcz56_3; try clear hcz56_4; try clear hcz56_5; try clear hcz56_6; try clear hcz56_7; try clear hcz56_8; try clear hcz58_0; try clear hcz58_1; try clear hcz58_2; try clear hcz58_3; try clear hcz58_4; try clear hcz58_5; try clear hcz58_6; try clear hcz58_7; try clear hcz58_8; try clear hfz11_0; try clear hfz11_1; try clear hfz11_2; try clear hfz11_3; try clear hfz11_4; try clear hfz11_5; try clear hfz11_6; try clear hfz11_7; try clear hfz11_8; try clear hfz13_0; try clear hfz13_1; try clear hfz13_2; try clear hfz13_3; try clear hfz13_4; try clear hfz13_5; try clear hfz13_6; try clear hfz13_7; try clear hfz13_8; try clear hfz14_0; try clear hfz14_1; try clear hfz14_2; try clear hfz14_3; try clear hfz14_4; try clear hfz14_5; try clear hfz14_6; try clear hfz14_7; try clear hfz14_8; try clear hfz15_0; try clear hfz15_1; try clear hfz15_2; try clear hfz15_3; try clear hfz15_4; try clear hfz15_5; try clear hfz15_6; try clear hfz15_7; try clear hfz15_8; try clear hfz16_0; try clear hfz16_1; try clear hfz16_2; try clear hfz16_3; try clear hfz16_4; try clear hfz16_5; try clear hfz16_6; try clear hfz16_7; try clear hfz16_8; try clear hfz21_0; try clear hfz21_1; try clear hfz21_2; try clear hfz21_3; try clear hfz21_4; try clear hfz21_5; try clear hfz21_6; try clear hfz21_7; try clear hfz21_8; try clear hfz22_0; try clear hfz22_1; try clear hfz22_2; try clear hfz22_3; try clear hfz22_4; try clear hfz22_5; try clear hfz22_6; try clear hfz22_7; try clear hfz22_8; try clear hfz24_0; try clear hfz24_1; try clear hfz24_2; try clear hfz24_3; try clear hfz24_4; try clear hfz24_5; try clear hfz24_6; try clear hfz24_7; try clear hfz24_8; try clear hfz27_0; try clear hfz27_1; try clear hfz27_2; try clear hfz27_3; try clear hfz27_4; try clear hfz27_5; try clear hfz27_6; try clear hfz27_7; try clear hfz27_8; try clear hfz28_0; try clear hfz28_1; try clear hfz28_2; try clear hfz28_3; try clear hfz28_4; try clear hfz28_5; try clear hfz28_6; try clear hfz28_7; try clear hfz28_8; try clear hfz29_0; try clear hfz29_1; try clear hfz29_2; try clear hfz29_3; try clear hfz29_4; try clear hfz29_5; try clear hfz29_6; try clear hfz29_7; try clear hfz29_8; try clear hfz33_0; try clear hfz33_1; try clear hfz33_2; try clear hfz33_3; try clear hfz33_4; try clear hfz33_5; try clear hfz33_6; try clear hfz33_7; try clear hfz33_8; try clear hfz34_0; try clear hfz34_1; try clear hfz34_2; try clear hfz34_3; try clear hfz34_4; try clear hfz34_5; try clear hfz34_6; try clear hfz34_7; try clear hfz34_8; try clear hfz38_0; try clear hfz38_1; try clear hfz38_2; try clear hfz38_3; try clear hfz38_4; try clear hfz38_5; try clear hfz38_6; try clear hfz38_7; try clear hfz38_8; try clear hfz39_0; try clear hfz39_1; try clear hfz39_2; try clear hfz39_3; try clear hfz39_4; try clear hfz39_5; try clear hfz39_6; try clear hfz39_7; try clear hfz39_8; try clear hfz42_0; try clear hfz42_1; try clear hfz42_2; try clear hfz42_3; try clear hfz42_4; try clear hfz42_5; try clear hfz42_6; try clear hfz42_7; try clear hfz42_8; try clear hfz49_0; try clear hfz49_1; try clear hfz49_2; try clear hfz49_3; try clear hfz49_4; try clear hfz49_5; try clear hfz49_6; try clear hfz49_7; try clear hfz49_8; try clear hfz50_0; try clear hfz50_1; try clear hfz50_2; try clear hfz50_3; try clear hfz50_4; try clear hfz50_5; try clear hfz50_6; try clear hfz50_7; try clear hfz50_8; try clear hfz51_0; try clear hfz51_1; try clear hfz51_2; try clear hfz51_3; try clear hfz51_4; try clear hfz51_5; try clear hfz51_6; try clear hfz51_7; try clear hfz51_8; try clear hfz54_0; try clear hfz54_1; try clear hfz54_2; try clear hfz54_3; try clear hfz54_4; try clear hfz54_5; try clear hfz54_6; try clear hfz54_7; try clear hfz54_8; try clear hfz55_0; try clear hfz55_1; try clear hfz55_2; try clear hfz55_3; try clear hfz55_4; try clear hfz55_5; try clear hfz55_6; try clear hfz55_7; try clear hfz55_8; try clear hfz56_0; try clear hfz56_1; try clear hfz56_2; try clear hfz56_3; try clear hfz56_4; try clear hfz56_5; try clear hfz56_6; try clear hfz56_7; try clear hfz56_8; try clear hfz58_0; try clear hfz58_1; try clear hfz58_2; try clear hfz58_3; try clear hfz58_4; try clear hfz58_5; try clear hfz58_6; try clear hfz58_7; try clear hfz58_8; try clear p2
          obtain ⟨x3_5, x111_5, rfl, rfl, HA, HK5, BK147, HB⟩ := hrel
          cases gk with
          | zero => exact absurd HA.out (by simp [impl_MsgOk.l0])
          | succ k5 =>
           have H := HA.out
           clear HA
           simp only [impl_MsgOk.l0] at H
           by_cases c59 : x111_5 < (l0_6.length : Int)
           ·rw [if_pos c59] at H
            have c59b0 : decide (x111_5 < (l0_6.length : Int)) = true := decide_eq_true c59
            clear c59
            by_cases c60 : 0 ≤ x111_5
            ·rw [if_pos c60] at H
             have c60b0 : decide (0 ≤ x111_5) = true := decide_eq_true c60
             clear c60
             by_cases c61 : x111_5 < (l0_6.length : Int)
             ·rw [if_pos c61] at H
              have c61b0 : decide (x111_5 < (l0_6.length : Int)) = true := decide_eq_true c61
              clear c61
              replace H := Option.bind_eq_some_iff.mp H
              obtain ⟨t159, A620, H⟩ := H
              replace H : (if t159 = true then ((impl_within.f ((rd_T147 l0_6 x111_5).f0) x3_5 a0_3).bind fun t160 => (if t160 = true then (impl_MsgOk.l0 k5 ((rd_T147 l0_6 x111_5).f0) l0_6 (l0_6.length : Int) (wrap64 (x111_5 + 1)) a0_0 a0_1 a0_2 a0_3 a0_4 a0_5 l0_6 a0_7 a0_8) else (some false))) else (some false)) = some r := H
              have A62 := Aside0.mk A620
              clear A620
              by_cases c63 : t159 = true
              ·subst c63
               have H1 : ((impl_within.f ((rd_T147 l0_6 x111_5).f0) x3_5 a0_3).bind fun t160 => (if t160 = true then (impl_MsgOk.l0 k5 ((rd_T147 l0_6 x111_5).f0) l0_6 (l0_6.length : Int) (wrap64 (x111_5 + 1)) a0_0 a0_1 a0_2 a0_3 a0_4 a0_5 l0_6 a0_7 a0_8) else (some false))) = some r := by rw [if_pos rfl] at H; exact H
               clear H
               have H := H1
               clear H1
               replace H := Option.bind_eq_some_iff.mp H
               obtain ⟨t160, A640, H⟩ := H
               replace H : (if t160 = true then (impl_MsgOk.l0 k5 ((rd_T147 l0_6 x111_5).f0) l0_6 (l0_6.length : Int) (wrap64 (x111_5 + 1)) a0_0 a0_1 a0_2 a0_3 a0_4 a0_5 l0_6 a0_7 a0_8) else (some false)) = some r := H
               have A64 := Aside0.mk A640
               clear A640
               by_cases c65 : t160 = true
               ·subst c65
                have H1 : (impl_MsgOk.l0 k5 ((rd_T147 l0_6 x111_5).f0) l0_6 (l0_6.length : Int) (wrap64 (x111_5 + 1)) a0_0 a0_1 a0_2 a0_3 a0_4 a0_5 l0_6 a0_7 a0_8) = some r := by rw [if_pos rfl] at H; exact H
                clear H
                have H := H1
                clear H1
                have H' := Aside0.mk H
                clear H
                have p157 : 0 ≤ (x111_5 : Int) := od
                have q157 : x111_5 < (l0_6.length : Int) := od
                obtain ⟨ad157, A157_4, c157_4, A157_5, c157_5, e157, hx157_0, hx157_1, hx157_2, hx157_3, hx157_4, hx157_5, hx157_6, hl157_4, hi157_4, hl157_5, hi157_5⟩ := at_T147 HR0_6.out x111_5 p157 q157
                cases e157
                replace hx157_0 := hxb HB hx157_0
                replace hx157_1 := hxb HB hx157_1
                replace hx157_2 := hxb HB hx157_2
                replace hx157_3 := hxb HB hx157_3
                replace hx157_4 := hxb HB hx157_4
                replace hx157_5 := hxb HB hx157_5
                replace hx157_6 := hxb HB hx157_6
                have HR157_4 := Aside0.mk hi157_4
                have HC157_4 := Aside0.mk hl157_4
                clear hi157_4 hl157_4
                have HR157_5 := Aside0.mk hi157_5
                have HC157_5 := Aside0.mk hl157_5
                clear hi157_5 hl157_5
                replace p157 := eq_true p157
                replace q157 := eq_true q157
                go_wp2_with (first | ((with_reducible refine gate_dst (N := 5) rfl ?_); (try (refine gate_guard (by rfl) ?_; dsimp only)); refine bx_ 5 #[.int .i64 0, .int .i64 0, .int .i64 0, .int .i64 0, .slice none 0 0, .slice none 0 0, .int .i64 0] 147 (h := ?_); intro gb158 hg w66 hbox hb; have BK158 := Aside0.mk (hbox); have GW158 := Aside0.mk ((by rw [hg]; exact (below_size bel) : w.heap.size ≤ gb158)); have GE158 := GW158; have NB147_158 := Aside0.mk ((by rw [hg]; exact Nat.ne_of_lt (blt BK147) : gb147 ≠ gb158)); have NB158_147 := Aside0.mk NB147_158.out.symm; replace BK147 := Aside0.mk (blb BK147 hb); replace HB := Aside0.mk (below_step bel hb); clear hb hbox hg; have hnb67 := NB158_147.out; have hnc67 := NB147_158.out; obtain ⟨hcz68_0, hcz68_1, hcz68_2, hcz68_3, hcz68_4, hcz68_5, hcz68_6, -⟩ := cells_7 BK158.out trivial; obtain ⟨hfz68_0, hfz68_1, hfz68_2, hfz68_3, hfz68_4, hfz68_5, hfz68_6, -⟩ := frz_7 BK158.out) | ((with_reducible refine gate_callee (f := 112) rfl ?_); refine gl_ (some 116) Try.func112 #[.agg #[.int .i64 ((rd_T147 l0_6 x111_5).f0), .int .i64 ((rd_T147 l0_6 x111_5).f1.f0), .int .i64 ((rd_T147 l0_6 x111_5).f1.f1), .int .i64 ((rd_T147 l0_6 x111_5).f1.f2.f0), .slice A157_4 ((rd_T147 l0_6 x111_5).f1.f2.f1).length c157_4, .slice A157_5 ((rd_T147 l0_6 x111_5).f1.f2.f2).length c157_5, .int .i64 ((rd_T147 l0_6 x111_5).f1.f2.f3)]] (h := ?_); (with_reducible refine (impl_ItemOk.calls k5 ((rd_T147 l0_6 x111_5).f0) ((rd_T147 l0_6 x111_5).f1.f0) ((rd_T147 l0_6 x111_5).f1.f1) ((rd_T147 l0_6 x111_5).f1.f2.f0) _ _ ((rd_T147 l0_6 x111_5).f1.f2.f1) _ _ ((rd_T147 l0_6 x111_5).f1.f2.f2) ((rd_T147 l0_6 x111_5).f1.f2.f3) true _ ?side1 ?side2 ?side3 ?side4 A62.out).mono ?_); (case side1 => exact Kd.C_below HR157_4.out bel); (case side2 => exact HC157_4.out); (case side3 => exact Kd.C_below HR157_5.out bel); (case side4 => exact HC157_5.out); rintro e w69 ⟨rfl, hb⟩; refine ⟨_, rfl, ?_⟩; replace BK147 := Aside0.mk (blk_below (g := gb147) (o := .cells #[.int .i64 a0_0, .int .i64 a0_1, .int .i64 a0_2, .int .i64 a0_3, .int .i64 a0_4, .int .i64 a0_5, .slice (some ad157) l0_6.length c0_6, .int .i64 a0_7, .bool a0_8] 54 (0, 0)) (by (with_reducible repeat (first | refine blk_drewN ?_ _ | refine blk_drew ?_ | refine blk_alloc ?_ _)); refine blk_far ?_ NB147_158.out _; (with_reducible repeat (first | refine blk_drewN ?_ _ | refine blk_drew ?_ | refine blk_alloc ?_ _)); refine blk_far ?_ NB147_158.out _; (with_reducible repeat (first | refine blk_drewN ?_ _ | refine blk_drew ?_ | refine blk_alloc ?_ _)); refine blk_far ?_ NB147_158.out _; (with_reducible repeat (first | refine blk_drewN ?_ _ | refine blk_drew ?_ | refine blk_alloc ?_ _)); refine blk_far ?_ NB147_158.out _; (with_reducible repeat (first | refine blk_drewN ?_ _ | refine blk_drew ?_ | refine blk_alloc ?_ _)); refine blk_far ?_ NB147_158.out _; (with_reducible repeat (first | refine blk_drewN ?_ _ | refine blk_drew ?_ | refine blk_alloc ?_ _)); refine blk_far ?_ NB147_158.out _; (with_reducible repeat (first | refine blk_drewN ?_ _ | refine blk_drew ?_ | refine blk_alloc ?_ _)); refine blk_far ?_ NB147_158.out _; (with_reducible repeat (first | refine blk_drewN ?_ _ | refine blk_drew ?_ | refine blk_alloc ?_ _)); exact BK147.out) hb); replace BK158 := Aside0.mk (blk_below (g := gb158) (o := .cells #[.int .i64 ((rd_T147 l0_6 x111_5).f0), .int .i64 ((rd_T147 l0_6 x111_5).f1.f0), .int .i64 ((rd_T147 l0_6 x111_5).f1.f1), .int .i64 ((rd_T147 l0_6 x111_5).f1.f2.f0), .slice A157_4 ((rd_T147 l0_6 x111_5).f1.f2.f1).length c157_4, .slice A157_5 ((rd_T147 l0_6 x111_5).f1.f2.f2).length c157_5, .int .i64 ((rd_T147 l0_6 x111_5).f1.f2.f3)] 147 (0, 0)) (by (with_reducible repeat (first | refine blk_drewN ?_ _ | refine blk_drew ?_ | refine blk_alloc ?_ _)); refine blk_put (cs := #[.int .i64 ((rd_T147 l0_6 x111_5).f0), .int .i64 ((rd_T147 l0_6 x111_5).f1.f0), .int .i64 ((rd_T147 l0_6 x111_5).f1.f1), .int .i64 ((rd_T147 l0_6 x111_5).f1.f2.f0), .slice A157_4 ((rd_T147 l0_6 x111_5).f1.f2.f1).length c157_4, .slice A157_5 ((rd_T147 l0_6 x111_5).f1.f2.f2).length c157_5, .int .i64 0]) ?_ 6 _ rfl; (with_reducible repeat (first | refine blk_drewN ?_ _ | refine blk_drew ?_ | refine blk_alloc ?_ _)); refine blk_put (cs := #[.int .i64 ((rd_T147 l0_6 x111_5).f0), .int .i64 ((rd_T147 l0_6 x111_5).f1.f0), .int .i64 ((rd_T147 l0_6 x111_5).f1.f1), .int .i64 ((rd_T147 l0_6 x111_5).f1.f2.f0), .slice A157_4 ((rd_T147 l0_6 x111_5).f1.f2.f1).length c157_4, .slice none 0 0, .int .i64 0]) ?_ 5 _ rfl; (with_reducible repeat (first | refine blk_drewN ?_ _ | refine blk_drew ?_ | refine blk_alloc ?_ _)); refine blk_put (cs := #[.int .i64 ((rd_T147 l0_6 x111_5).f0), .int .i64 ((rd_T147 l0_6 x111_5).f1.f0), .int .i64 ((rd_T147 l0_6 x111_5).f1.f1), .int .i64 ((rd_T147 l0_6 x111_5).f1.f2.f0), .slice none 0 0, .slice none 0 0, .int .i64 0]) ?_ 4 _ rfl; (with_reducible repeat (first | refine blk_drewN ?_ _ | refine blk_drew ?_ | refine blk_alloc ?_ _)); refine blk_put (cs := #[.int .i64 ((rd_T147 l0_6 x111_5).f0), .int .i64 ((rd_T147 l0_6 x111_5).f1.f0), .int .i64 ((rd_T147 l0_6 x111_5).f1.f1), .int .i64 0, .slice none 0 0, .slice none 0 0, .int .i64 0]) ?_ 3 _ rfl; (with_reducible repeat (first | refine blk_drewN ?_ _ | refine blk_drew ?_ | refine blk_alloc ?_ _)); refine blk_put (cs := #[.int .i64 ((rd_T147 l0_6 x111_5).f0), .int .i64 ((rd_T147 l0_6 x111_5).f1.f0), .int .i64 0, .int .i64 0, .slice none 0 0, .slice none 0 0, .int .i64 0]) ?_ 2 _ rfl; (with_reducible repeat (first | refine blk_drewN ?_ _ | refine blk_drew ?_ | refine blk_alloc ?_ _)); refine blk_put (cs := #[.int .i64 ((rd_T147 l0_6 x111_5).f0), .int .i64 0, .int .i64 0, .int .i64 0, .slice none 0 0, .slice none 0 0, .int .i64 0]) ?_ 1 _ rfl; (with_reducible repeat (first | refine blk_drewN ?_ _ | refine blk_drew ?_ | refine blk_alloc ?_ _)); refine blk_put (cs := #[.int .i64 0, .int .i64 0, .int .i64 0, .int .i64 0, .slice none 0 0, .slice none 0 0, .int .i64 0]) ?_ 0 _ rfl; (with_reducible repeat (first | refine blk_drewN ?_ _ | refine blk_drew ?_ | refine blk_alloc ?_ _)); exact BK158.out) hb); replace HB := Aside0.mk (below_step bel hb); (try clear hb); (try clear hb2); (try clear hk); (try clear hi); have hcz70_0 : w69.cell? ⟨gb158, 0, none⟩ = some (.int .i64 ((rd_T147 l0_6 x111_5).f0)) := (blk_cell BK158.out 0).trans rfl; have hcz70_1 : w69.cell? ⟨gb158, 1, none⟩ = some (.int .i64 ((rd_T147 l0_6 x111_5).f1.f0)) := (blk_cell BK158.out 1).trans rfl; have hcz70_2 : w69.cell? ⟨gb158, 2, none⟩ = some (.int .i64 ((rd_T147 l0_6 x111_5).f1.f1)) := (blk_cell BK158.out 2).trans rfl; have hcz70_3 : w69.cell? ⟨gb158, 3, none⟩ = some (.int .i64 ((rd_T147 l0_6 x111_5).f1.f2.f0)) := (blk_cell BK158.out 3).trans rfl; have hcz70_4 : w69.cell? ⟨gb158, 4, none⟩ = some (.slice A157_4 ((rd_T147 l0_6 x111_5).f1.f2.f1).length c157_4) := (blk_cell BK158.out 4).trans rfl; have hcz70_5 : w69.cell? ⟨gb158, 5, none⟩ = some (.slice A157_5 ((rd_T147 l0_6 x111_5).f1.f2.f2).length c157_5) := (blk_cell BK158.out 5).trans rfl; have hcz70_6 : w69.cell? ⟨gb158, 6, none⟩ = some (.int .i64 ((rd_T147 l0_6 x111_5).f1.f2.f3)) := (blk_cell BK158.out 6).trans rfl; obtain ⟨hfz70_0, hfz70_1, hfz70_2, hfz70_3, hfz70_4, hfz70_5, hfz70_6, -⟩ := frz_7 BK158.out; obtain ⟨hcz71_0, hcz71_1, hcz71_2, hcz71_3, hcz71_4, hcz71_5, hcz71_6, hcz71_7, hcz71_8, -⟩ := cells_9 BK147.out trivial; obtain ⟨hfz71_0, hfz71_1, hfz71_2, hfz71_3, hfz71_4, hfz71_5, hfz71_6, hfz71_7, hfz71_8, -⟩ := frz_9 BK147.out) | (go_at_call 81; (with_reducible refine (impl_within.calls ((rd_T147 l0_6 x111_5).f0) x3_5 a0_3 true _ A64.out).mono ?_); rintro e w' ⟨rfl, ⟨nd, rfl⟩⟩))
                go_roundg k5
                case measure => have := HJ1.out; have := HJ17.out; have := HJ30.out; have := HJ39.out; have := HK5.out; omega
                case rel => exact ⟨((rd_T147 l0_6 x111_5).f0), (wrap64 (x111_5 + 1)), rs_, rs_, H', ⟨by have := HJ1.out; have := HJ17.out; have := HJ30.out; have := HJ39.out; have := HK5.out; omega⟩, ⟨by (with_reducible repeat (first | refine blk_drewN ?_ _ | refine blk_drew ?_ | refine blk_alloc ?_ _)); exact BK147.out⟩, ⟨bel⟩⟩
               replace c65 := Bool.eq_false_iff.mpr c65
               subst c65
               have H1 : (some false) = some r := by rw [if_neg (show ¬ (false = true) by decide)] at H; exact H
               clear H
               have H := H1
               clear H1
               obtain rfl := Option.some.inj H
               have p157 : 0 ≤ (x111_5 : Int) := od
               have q157 : x111_5 < (l0_6.length : Int) := od
               obtain ⟨ad157, A157_4, c157_4, A157_5, c157_5, e157, hx157_0, hx157_1, hx157_2, hx157_3, hx157_4, hx157_5, hx157_6, hl157_4, hi157_4, hl157_5, hi157_5⟩ := at_T147 HR0_6.out x111_5 p157 q157
               cases e157
               replace hx157_0 := hxb HB hx157_0
               replace hx157_1 := hxb HB hx157_1
               replace hx157_2 := hxb HB hx157_2
               replace hx157_3 := hxb HB hx157_3
               replace hx157_4 := hxb HB hx157_4
               replace hx157_5 := hxb HB hx157_5
               replace hx157_6 := hxb HB hx157_6
               have HR157_4 := Aside0.mk hi157_4
               have HC157_4 := Aside0.mk hl157_4
               clear hi157_4 hl157_4
               have HR157_5 := Aside0.mk hi157_5
               have HC157_5 := Aside0.mk hl157_5
               clear hi157_5 hl157_5
               replace p157 := eq_true p157
               replace q157 := eq_true q157
               go_wp2_with (first | ((with_reducible refine gate_dst (N := 5) rfl ?_); (try (refine gate_guard (by rfl) ?_; dsimp only)); refine bx_ 5 #[.int .i64 0, .int .i64 0, .int .i64 0, .int .i64 0, .slice none 0 0, .slice none 0 0, .int .i64 0] 147 (h := ?_); intro gb158 hg w72 hbox hb; have BK158 := Aside0.mk (hbox); have GW158 := Aside0.mk ((by rw [hg]; exact (below_size bel) : w.heap.size ≤ gb158)); have GE158 := GW158; have NB147_158 := Aside0.mk ((by rw [hg]; exact Nat.ne_of_lt (blt BK147) : gb147 ≠ gb158)); have NB158_147 := Aside0.mk NB147_158.out.symm; replace BK147 := Aside0.mk (blb BK147 hb); replace HB := Aside0.mk (below_step bel hb); clear hb hbox hg; have hnb73 := NB158_147.out; have hnc73 := NB147_158.out; obtain ⟨hcz74_0, hcz74_1, hcz74_2, hcz74_3, hcz74_4, hcz74_5, hcz74_6, -⟩ := cells_7 BK158.out trivial; obtain ⟨hfz74_0, hfz74_1, hfz74_2, hfz74_3, hfz74_4, hfz74_5, hfz74_6, -⟩ := frz_7 BK158.out) | ((with_reducible refine gate_callee (f := 112) rfl ?_); refine gl_ (some 116) Try.func112 #[.agg #[.int .i64 ((rd_T147 l0_6 x111_5).f0), .int .i64 ((rd_T147 l0_6 x111_5).f1.f0), .int .i64 ((rd_T147 l0_6 x111_5).f1.f1), .int .i64 ((rd_T147 l0_6 x111_5).f1.f2.f0), .slice A157_4 ((rd_T147 l0_6 x111_5).f1.f2.f1).length c157_4, .slice A157_5 ((rd_T147 l0_6 x111_5).f1.f2.f2).length c157_5, .int .i64 ((rd_T147 l0_6 x111_5).f1.f2.f3)]] (h := ?_); (with_reducible refine (impl_ItemOk.calls k5 ((rd_T147 l0_6 x111_5).f0) ((rd_T147 l0_6 x111_5).f1.f0) ((rd_T147 l0_6 x111_5).f1.f1) ((rd_T147 l0_6 x111_5).f1.f2.f0) _ _ ((rd_T147 l0_6 x111_5).f1.f2.f1) _ _ ((rd_T147 l0_6 x111_5).f1.f2.f2) ((rd_T147 l0_6 x111_5).f1.f2.f3) true _ ?side1 ?side2 ?side3 ?side4 A62.out).mono ?_); (case side1 => exact Kd.C_below HR157_4.out bel); (case side2 => exact HC157_4.out); (case side3 => exact Kd.C_below HR157_5.out bel); (case side4 => exact HC157_5.out); rintro e w75 ⟨rfl, hb⟩; refine ⟨_, rfl, ?_⟩; replace BK147 := Aside0.mk (blk_below (g := gb147) (o := .cells #[.int .i64 a0_0, .int .i64 a0_1, .int .i64 a0_2, .int .i64 a0_3, .int .i64 a0_4, .int .i64 a0_5, .slice (some ad157) l0_6.length c0_6, .int .i64 a0_7, .bool a0_8] 54 (0, 0)) (by (with_reducible repeat (first | refine blk_drewN ?_ _ | refine blk_drew ?_ | refine blk_alloc ?_ _)); refine blk_far ?_ NB147_158.out _; (with_reducible repeat (first | refine blk_drewN ?_ _ | refine blk_drew ?_ | refine blk_alloc ?_ _)); refine blk_far ?_ NB147_158.out _; (with_reducible repeat (first | refine blk_drewN ?_ _ | refine blk_drew ?_ | refine blk_alloc ?_ _)); refine blk_far ?_ NB147_158.out _; (with_reducible repeat (first | refine blk_drewN ?_ _ | refine blk_drew ?_ | refine blk_alloc ?_ _)); refine blk_far ?_ NB147_158.out _; (with_reducible repeat (first | refine blk_drewN ?_ _ | refine blk_drew ?_ | refine blk_alloc ?_ _)); refine blk_far ?_ NB147_158.out _; (with_reducible repeat (first | refine blk_drewN ?_ _ | refine blk_drew ?_ | refine blk_alloc ?_ _)); refine blk_far ?_ NB147_158.out _; (with_reducible repeat (first | refine blk_drewN ?_ _ | refine blk_drew ?_ | refine blk_alloc ?_ _)); refine blk_far ?_ NB147_158.out _; (with_reducible repeat (first | refine blk_drewN ?_ _ | refine blk_drew ?_ | refine blk_alloc ?_ _)); exact BK147.out) hb); replace BK158 := Aside0.mk (blk_below (g := gb158) (o := .cells #[.int .i64 ((rd_T147 l0_6 x111_5).f0), .int .i64 ((rd_T147 l0_6 x111_5).f1.f0), .int .i64 ((rd_T147 l0_6 x111_5).f1.f1), .int .i64 ((rd_T147 l0_6 x111_5).f1.f2.f0), .slice A157_4 ((rd_T147 l0_6 x111_5).f1.f2.f1).length c157_4, .slice A157_5 ((rd_T147 l0_6 x111_5).f1.f2.f2).length c157_5, .int .i64 ((rd_T147 l0_6 x111_5).f1.f2.f3)] 147 (0, 0)) (by (with_reducible repeat (first | refine blk_drewN ?_ _ | refine blk_drew ?_ | refine blk_alloc ?_ _)); refine blk_put (cs := #[.int .i64 ((rd_T147 l0_6 x111_5).f0), .int .i64 ((rd_T147 l0_6 x111_5).f1.f0), .int .i64 ((rd_T147 l0_6 x111_5).f1.f1), .int .i64 ((rd_T147 l0_6 x111_5).f1.f2.f0), .slice A157_4 ((rd_T147 l0_6 x111_5).f1.f2.f1).length c157_4, .slice A157_5 ((rd_T147 l0_6 x111_5).f1.f2.f2).length c157_5, .int .i64 0]) ?_ 6 _ rfl; (with_reducible repeat (first | refine blk_drewN ?_ _ | refine blk_drew ?_ | refine blk_alloc ?_ _)); refine blk_put (cs := #[.int .i64 ((rd_T147 l0_6 x111_5).f0), .int .i64 ((rd_T147 l0_6 x111_5).f1.f0), .int .i64 ((rd_T147 l0_6 x111_5).f1.f1), .int .i64 ((rd_T147 l0_6 x111_5).f1.f2.f0), .slice A157_4 ((rd_T147 l0_6 x111_5).f1.f2.f1).length c157_4, .slice none 0 0, .int .i64 0]) ?_ 5 _ rfl; (with_reducible repeat (first | refine blk_drewN ?_ _ | refine blk_drew ?_ | refine blk_alloc ?_ _)); refine blk_put (cs := #[.int .i64 ((rd_T147 l0_6 x111_5).f0), .int .i64 ((rd_T147 l0_6 x111_5).f1.f0), .int .i64 ((rd_T147 l0_6 x111_5).f1.f1), .int .i64 ((rd_T147 l0_6 x111_5).f1.f2.f0), .slice none 0 0, .slice none 0 0, .int .i64 0]) ?_ 4 _ rfl; (with_reducible repeat (first | refine blk_drewN ?_ _ | refine blk_drew ?_ | refine blk_alloc ?_ _)); refine blk_put (cs := #[.int .i64 ((rd_T147 l0_6 x111_5).f0), .int .i64 ((rd_T147 l0_6 x111_5).f1.f0), .int .i64 ((rd_T147 l0_6 x111_5).f1.f1), .int .i64 0, .slice none 0 0, .slice none 0 0, .int .i64 0]) ?_ 3 _ rfl; (with_reducible repeat (first | refine blk_drewN ?_ _ | refine blk_drew ?_ | refine blk_alloc ?_ _)); refine blk_put (cs := #[.int .i64 ((rd_T147 l0_6 x111_5).f0), .int .i64 ((rd_T147 l0_6 x111_5).f1.f0), .int .i64 0, .int .i64 0, .slice none 0 0, .slice none 0 0, .int .i64 0]) ?_ 2 _ rfl; (with_reducible repeat (first | refine blk_drewN ?_ _ | refine blk_drew ?_ | refine blk_alloc ?_ _)); refine blk_put (cs := #[.int .i64 ((rd_T147 l0_6 x111_5).f0), .int .i64 0, .int .i64 0, .int .i64 0, .slice none 0 0, .slice none 0 0, .int .i64 0]) ?_ 1 _ rfl; (with_reducible repeat (first | refine blk_drewN ?_ _ | refine blk_drew ?_ | refine blk_alloc ?_ _)); refine blk_put (cs := #[.int .i64 0, .int .i64 0, .int .i64 0, .int .i64 0, .slice none 0 0, .slice none 0 0, .int .i64 0]) ?_ 0 _ rfl; (with_reducible repeat (first | refine blk_drewN ?_ _ | refine blk_drew ?_ | refine blk_alloc ?_ _)); exact BK158.out) hb); replace HB := Aside0.mk (below_step bel hb); (try clear hb); (try clear hb2); (try clear hk); (try clear hi); have hcz76_0 : w75.cell? ⟨gb158, 0, none⟩ = some (.int .i64 ((rd_T147 l0_6 x111_5).f0)) := (blk_cell BK158.out 0).trans rfl; have hcz76_1 : w75.cell? ⟨gb158, 1, none⟩ = some (.int .i64 ((rd_T147 l0_6 x111_5).f1.f0)) := (blk_cell BK158.out 1).trans rfl; have hcz76_2 : w75.cell? ⟨gb158, 2, none⟩ = some (.int .i64 ((rd_T147 l0_6 x111_5).f1.f1)) := (blk_cell BK158.out 2).trans rfl; have hcz76_3 : w75.cell? ⟨gb158, 3, none⟩ = some (.int .i64 ((rd_T147 l0_6 x111_5).f1.f2.f0)) := (blk_cell BK158.out 3).trans rfl; have hcz76_4 : w75.cell? ⟨gb158, 4, none⟩ = some (.slice A157_4 ((rd_T147 l0_6 x111_5).f1.f2.f1).length c157_4) := (blk_cell BK158.out 4).trans rfl; have hcz76_5 : w75.cell? ⟨gb158, 5, none⟩ = some (.slice A157_5 ((rd_T147 l0_6 x111_5).f1.f2.f2).length c157_5) := (blk_cell BK158.out 5).trans rfl; have hcz76_6 : w75.cell? ⟨gb158, 6, none⟩ = some (.int .i64 ((rd_T147 l0_6 x111_5).f1.f2.f3)) := (blk_cell BK158.out 6).trans rfl; obtain ⟨hfz76_0, hfz76_1, hfz76_2, hfz76_3, hfz76_4, hfz76_5, hfz76_6, -⟩ := frz_7 BK158.out; obtain ⟨hcz77_0, hcz77_1, hcz77_2, hcz77_3, hcz77_4, hcz77_5, hcz77_6, hcz77_7, hcz77_8, -⟩ := cells_9 BK147.out trivial; obtain ⟨hfz77_0, hfz77_1, hfz77_2, hfz77_3, hfz77_4, hfz77_5, hfz77_6, hfz77_7, hfz77_8, -⟩ := frz_9 BK147.out) | (go_at_call 81; (with_reducible refine (impl_within.calls ((rd_T147 l0_6 x111_5).f0) x3_5 a0_3 false _ A64.out).mono ?_); rintro e w' ⟨rfl, ⟨nd, rfl⟩⟩))
               go_ret
               exact ⟨rz_, bel⟩
              replace c63 := Bool.eq_false_iff.mpr c63
              subst c63
              have H1 : (some false) = some r := by rw [if_neg (show ¬ (false = true) by decide)] at H; exact H
              clear H
              have H := H1
              clear H1
              obtain rfl := Option.some.inj H
              have p157 : 0 ≤ (x111_5 : Int) := od
              have q157 : x111_5 < (l0_6.length : Int) := od
              obtain ⟨ad157, A157_4, c157_4, A157_5, c157_5, e157, hx157_0, hx157_1, hx157_2, hx157_3, hx157_4, hx157_5, hx157_6, hl157_4, hi157_4, hl157_5, hi157_5⟩ := at_T147 HR0_6.out x111_5 p157 q157
              cases e157
              replace hx157_0 := hxb HB hx157_0
              replace hx157_1 := hxb HB hx157_1
              replace hx157_2 := hxb HB hx157_2
              replace hx157_3 := hxb HB hx157_3
              replace hx157_4 := hxb HB hx157_4
              replace hx157_5 := hxb HB hx157_5
              replace hx157_6 := hxb HB hx157_6
              have HR157_4 := Aside0.mk hi157_4
              have HC157_4 := Aside0.mk hl157_4
              clear hi157_4 hl157_4
              have HR157_5 := Aside0.mk hi157_5
              have HC157_5 := Aside0.mk hl157_5
              clear hi157_5 hl157_5
              replace p157 := eq_true p157
              replace q157 := eq_true q157
              go_wp2_with (first | ((with_reducible refine gate_dst (N := 5) rfl ?_); (try (refine gate_guard (by rfl) ?_; dsimp only)); refine bx_ 5 #[.int .i64 0, .int .i64 0, .int .i64 0, .int .i64 0, .slice none 0 0, .slice none 0 0, .int .i64 0] 147 (h := ?_); intro gb158 hg w78 hbox hb; have BK158 := Aside0.mk (hbox); have GW158 := Aside0.mk ((by rw [hg]; exact (below_size bel) : w.heap.size ≤ gb158)); have GE158 := GW158; have NB147_158 := Aside0.mk ((by rw [hg]; exact Nat.ne_of_lt (blt BK147) : gb147 ≠ gb158)); have NB158_147 := Aside0.mk NB147_158.out.symm; replace BK147 := Aside0.mk (blb BK147 hb); replace HB := Aside0.mk (below_step bel hb); clear hb hbox hg; have hnb79 := NB158_147.out; have hnc79 := NB147_158.out; obtain ⟨hcz80_0, hcz80_1, hcz80_2, hcz80_3, hcz80_4, hcz80_5, hcz80_6, -⟩ := cells_7 BK158.out trivial; obtain ⟨hfz80_0, hfz80_1, hfz80_2, hfz80_3, hfz80_4, hfz80_5, hfz80_6, -⟩ := frz_7 BK158.out) | ((with_reducible refine gate_callee (f := 112) rfl ?_); refine gl_ (some 116) Try.func112 #[.agg #[.int .i64 ((rd_T147 l0_6 x111_5).f0), .int .i64 ((rd_T147 l0_6 x111_5).f1.f0), .int .i64 ((rd_T147 l0_6 x111_5).f1.f1), .int .i64 ((rd_T147 l0_6 x111_5).f1.f2.f0), .slice A157_4 ((rd_T147 l0_6 x111_5).f1.f2.f1).length c157_4, .slice A157_5 ((rd_T147 l0_6 x111_5).f1.f2.f2).length c157_5, .int .i64 ((rd_T147 l0_6 x111_5).f1.f2.f3)]] (h := ?_); (with_reducible refine (impl_ItemOk.calls k5 ((rd_T147 l0_6 x111_5).f0) ((rd_T147 l0_6 x111_5).f1.f0) ((rd_T147 l0_6 x111_5).f1.f1) ((rd_T147 l0_6 x111_5).f1.f2.f0) _ _ ((rd_T147 l0_6 x111_5).f1.f2.f1) _ _ ((rd_T147 l0_6 x111_5).f1.f2.f2) ((rd_T147 l0_6 x111_5).f1.f2.f3) false _ ?side1 ?side2 ?side3 ?side4 A62.out).mono ?_); (case side1 => exact Kd.C_below HR157_4.out bel); (case side2 => exact HC157_4.out); (case side3 => exact Kd.C_below HR157_5.out bel); (case side4 => exact HC157_5.out); rintro e w81 ⟨rfl, hb⟩; refine ⟨_, rfl, ?_⟩; replace BK147 := Aside0.mk (blk_below (g := gb147) (o := .cells #[.int .i64 a0_0, .int .i64 a0_1, .int .i64 a0_2, .int .i64 a0_3, .int .i64 a0_4, .int .i64 a0_5, .slice (some ad157) l0_6.length c0_6, .int .i64 a0_7, .bool a0_8] 54 (0, 0)) (by (with_reducible repeat (first | refine blk_drewN ?_ _ | refine blk_drew ?_ | refine blk_alloc ?_ _)); refine blk_far ?_ NB147_158.out _; (with_reducible repeat (first | refine blk_drewN ?_ _ | refine blk_drew ?_ | refine blk_alloc ?_ _)); refine blk_far ?_ NB147_158.out _; (with_reducible repeat (first | refine blk_drewN ?_ _ | refine blk_drew ?_ | refine blk_alloc ?_ _)); refine blk_far ?_ NB147_158.out _; (with_reducible repeat (first | refine blk_drewN ?_ _ | refine blk_drew ?_ | refine blk_alloc ?_ _)); refine blk_far ?_ NB147_158.out _; (with_reducible repeat (first | refine blk_drewN ?_ _ | refine blk_drew ?_ | refine blk_alloc ?_ _)); refine blk_far ?_ NB147_158.out _; (with_reducible repeat (first | refine blk_drewN ?_ _ | refine blk_drew ?_ | refine blk_alloc ?_ _)); refine blk_far ?_ NB147_158.out _; (with_reducible repeat (first | refine blk_drewN ?_ _ | refine blk_drew ?_ | refine blk_alloc ?_ _)); refine blk_far ?_ NB147_158.out _; (with_reducible repeat (first | refine blk_drewN ?_ _ | refine blk_drew ?_ | refine blk_alloc ?_ _)); exact BK147.out) hb); replace BK158 := Aside0.mk (blk_below (g := gb158) (o := .cells #[.int .i64 ((rd_T147 l0_6 x111_5).f0), .int .i64 ((rd_T147 l0_6 x111_5).f1.f0), .int .i64 ((rd_T147 l0_6 x111_5).f1.f1), .int .i64 ((rd_T147 l0_6 x111_5).f1.f2.f0), .slice A157_4 ((rd_T147 l0_6 x111_5).f1.f2.f1).length c157_4, .slice A157_5 ((rd_T147 l0_6 x111_5).f1.f2.f2).length c157_5, .int .i64 ((rd_T147 l0_6 x111_5).f1.f2.f3)] 147 (0, 0)) (by (with_reducible repeat (first | refine blk_drewN ?_ _ | refine blk_drew ?_ | refine blk_alloc ?_ _)); refine blk_put (cs := #[.int .i64 ((rd_T147 l0_6 x111_5).f0), .int .i64 ((rd_T147 l0_6 x111_5).f1.f0), .int .i64 ((rd_T147 l0_6 x111_5).f1.f1), .int .i64 ((rd_T147 l0_6 x111_5).f1.f2.f0), .slice A157_4 ((rd_T147 l0_6 x111_5).f1.f2.f1).length c157_4, .slice A157_5 ((rd_T147 l0_6 x111_5).f1.f2.f2).length c157_5, .int .i64 0]) ?_ 6 _ rfl; (with_reducible repeat (first | refine blk_drewN ?_ _ | refine blk_drew ?_ | refine blk_alloc ?_ _)); refine blk_put (cs := #[.int .i64 ((rd_T147 l0_6 x111_5).f0), .int .i64 ((rd_T147 l0_6 x111_5).f1.f0), .int .i64 ((rd_T147 l0_6 x111_5).f1.f1), .int .i64 ((rd_T147 l0_6 x111_5).f1.f2.f0), .slice A157_4 ((rd_T147 l0_6 x111_5).f1.f2.f1).length c157_4, .slice none 0 0, .int .i64 0]) ?_ 5 _ rfl; (with_reducible repeat (first | refine blk_drewN ?_ _ | refine blk_drew ?_ | refine blk_alloc ?_ _)); refine blk_put (cs := #[.int .i64 ((rd_T147 l0_6 x111_5).f0), .int .i64 ((rd_T147 l0_6 x111_5).f1.f0), .int .i64 ((rd_T147 l0_6 x111_5).f1.f1), .int .i64 ((rd_T147 l0_6 x111_5).f1.f2.f0), .slice none 0 0, .slice none 0 0, .int .i64 0]) ?_ 4 _ rfl; (with_reducible repeat (first | refine blk_drewN ?_ _ | refine blk_drew ?_ | refine blk_alloc ?_ _)); refine blk_put (cs := #[.int .i64 ((rd_T147 l0_6 x111_5).f0), .int .i64 ((rd_T147 l0_6 x111_5).f1.f0), .int .i64 ((rd_T147 l0_6 x111_5).f1.f1), .int .i64 0, .slice none 0 0, .slice none 0 0, .int .i64 0]) ?_ 3 _ rfl; (with_reducible repeat (first | refine blk_drewN ?_ _ | refine blk_drew ?_ | refine blk_alloc ?_ _)); refine blk_put (cs := #[.int .i64 ((rd_T147 l0_6 x111_5).f0), .int .i64 ((rd_T147 l0_6 x111_5).f1.f0), .int .i64 0, .int .i64 0, .slice none 0 0, .slice none 0 0, .int .i64 0]) ?_ 2 _ rfl; (with_reducible repeat (first | refine blk_drewN ?_ _ | refine blk_drew ?_ | refine blk_alloc ?_ _)); refine blk_put (cs := #[.int .i64 ((rd_T147 l0_6 x111_5).f0), .int .i64 0, .int .i64 0, .int .i64 0, .slice none 0 0, .slice none 0 0, .int .i64 0]) ?_ 1 _ rfl; (with_reducible repeat (first | refine blk_drewN ?_ _ | refine blk_drew ?_ | refine blk_alloc ?_ _)); refine blk_put (cs := #[.int .i64 0, .int .i64 0, .int .i64 0, .int .i64 0, .slice none 0 0, .slice none 0 0, .int .i64 0]) ?_ 0 _ rfl; (with_reducible repeat (first | refine blk_drewN ?_ _ | refine blk_drew ?_ | refine blk_alloc ?_ _)); exact BK158.out) hb); replace HB := Aside0.mk (below_step bel hb); (try clear hb); (try clear hb2); (try clear hk); (try clear hi)))
              go_ret
              exact ⟨rz_, bel⟩
             rw [if_neg c61] at H
             exact absurd H (by simp)
            rw [if_neg c60] at H
            exact absurd H (by simp)
           rw [if_neg c59] at H
           have c59b0 : decide (x111_5 < (l0_6.length : Int)) = false := decide_eq_false c59
           clear c59
           by_cases c82 : (l0_6.length : Int) ≤ 4
           ·rw [if_pos c82] at H
            have c82b0 : decide ((l0_6.length : Int) ≤ 4) = true := decide_eq_true c82
            have c82b1 : decide (l0_6.length ≤ 4) = true := decide_eq_true (by omega)
            clear c82
            by_cases c83 : (l0_6.length : Int) ≤ (wrap64 (400 - a0_4))
            ·rw [if_pos c83] at H
             have c83b0 : decide ((l0_6.length : Int) ≤ (wrap64 (400 - a0_4))) = true := decide_eq_true c83
             clear c83
             replace H := Option.bind_eq_some_iff.mp H
             obtain ⟨t156, A840, H⟩ := H
             replace H : (some t156) = some r := H
             have A84 := Aside0.mk A840
             clear A840
             obtain rfl := Option.some.inj H
             obtain ⟨hcz85_0, hcz85_1, hcz85_2, hcz85_3, hcz85_4, hcz85_5, hcz85_6, hcz85_7, hcz85_8, -⟩ := cells_9 BK147.out trivial
             obtain ⟨hfz85_0, hfz85_1, hfz85_2, hfz85_3, hfz85_4, hfz85_5, hfz85_6, hfz85_7, hfz85_8, -⟩ := frz_9 BK147.out
             go_wp2_with (first | (go_at_call 81; (with_reducible refine (impl_within.calls a0_7 0 400 t156 _ A84.out).mono ?_); rintro e w' ⟨rfl, ⟨nd, rfl⟩⟩))
             go_ret
             exact ⟨rz_, bel⟩
            rw [if_neg c83] at H
            have c83b0 : decide ((l0_6.length : Int) ≤ (wrap64 (400 - a0_4))) = false := decide_eq_false c83
            clear c83
            obtain rfl := Option.some.inj H
            obtain ⟨hcz86_0, hcz86_1, hcz86_2, hcz86_3, hcz86_4, hcz86_5, hcz86_6, hcz86_7, hcz86_8, -⟩ := cells_9 BK147.out trivial
            obtain ⟨hfz86_0, hfz86_1, hfz86_2, hfz86_3, hfz86_4, hfz86_5, hfz86_6, hfz86_7, hfz86_8, -⟩ := frz_9 BK147.out
            go_wp2
            go_ret
            exact ⟨rz_, bel⟩
           rw [if_neg c82] at H
           have c82b0 : decide ((l0_6.length : Int) ≤ 4) = false := decide_eq_false c82
           have c82b1 : decide (l0_6.length ≤ 4) = false := decide_eq_false (by omega)
           clear c82
           obtain rfl := Option.some.inj H
           obtain ⟨hcz87_0, hcz87_1, hcz87_2, hcz87_3, hcz87_4, hcz87_5, hcz87_6, hcz87_7, hcz87_8, -⟩ := cells_9 BK147.out trivial
           obtain ⟨hfz87_0, hfz87_1, hfz87_2, hfz87_3, hfz87_4, hfz87_5, hfz87_6, hfz87_7, hfz87_8, -⟩ := frz_9 BK147.out
           go_wp2
           go_ret
           exact ⟨rz_, bel⟩

/-! ### impl_truth: function 169 -/
def impl_truth.f (a0 : Bool) : Option (Int) := if a0 = true then (some 1) else (some 0)
set_option maxHeartbeats 8000000 in
set_option maxRecDepth 100000 in
theorem impl_truth.calls (a0 : Bool) (r : Int) (w : World) (h : impl_truth.f a0 = some r) :
  Calls Try.prog 169 #[.bool a0] w fun e w' => e = .returned (.int .i64 r) ∧ Drawn0 w w' := by
 have H : (if a0 = true then (some 1) else (some 0)) = some r := h
 clear h
 by_cases c2 : a0 = true
 ·subst c2
  have H1 : (some 1) = some r := by rw [if_pos rfl] at H; exact H
  clear H
  have H := H1
  clear H1
  obtain rfl := Option.some.inj H
  go_enter Try.func169, Try.ntmps169
  go_wp2
  go_ret
  exact ⟨by first | rfl | (simp; done) | (simp [*]; done), by repeat (first | exact Drawn0.refl _ | apply Drawn0.step)⟩
 replace c2 := Bool.eq_false_iff.mpr c2
 subst c2
 have H1 : (some 0) = some r := by rw [if_neg (show ¬ (false = true) by decide)] at H; exact H
 clear H
 have H := H1
 clear H1
 obtain rfl := Option.some.inj H
 go_enter Try.func169, Try.ntmps169
 go_wp2
 go_ret
 exact ⟨by first | rfl | (simp; done) | (simp [*]; done), by repeat (first | exact Drawn0.refl _ | apply Drawn0.step)⟩

end Go.Proofs.Ytdgegnakiljfjaa.PM
