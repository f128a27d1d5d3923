-- Written for this claim by the session's program pp.py, out of the kit's print and the seat's translation.
import Derived.Test.YtmnjdmmljkahgaaDoorPEx0
import Derived.Test.YtmnjdmmljkahgaaDoorPEx4
import Derived.Test.YtmnjdmmljkahgaaDoorPEx5
namespace Go.Proofs.YtmnjdmmljkahgaaDoor.PE
open Go.RowKit Go.Proofs.YtmnjdmmljkahgaaDoorW.PrintWords Go.Proofs.YtmnjdmmljkahgaaDoorW.PrintLast Go.Proofs.YtmnjdmmljkahgaaDoorW.PrintMore
attribute [local go_sem] max2_int min2_int max_two min_two max_three min_three max_four min_four   -- for this text's walks alone
set_option linter.unusedVariables false
set_option linter.unusedSimpArgs false

/-! ### spec_l8text: function 46 -/
mutual
def spec_l8text.j0 : Nat → List Int → Int → List Int → List Int → Int → Option (List Int)
 | 0, _, _, _, _, _ => none
 | k + 1, x3, x245000, x245001, x245002, x245003 => if x245000 = 1 then (spec_l8text.j1 k x3 (x245000 == 1) x245000 x245001 x245002 x245003) else (if x245000 = 2 then (spec_l8text.j1 k x3 (x245000 == 2) x245000 x245001 x245002 x245003) else (spec_l8text.j1 k x3 (x245000 == 6) x245000 x245001 x245002 x245003))
def spec_l8text.j2 : Nat → List Int → Int → List Int → List Int → Int → Option (List Int)
 | 0, _, _, _, _, _ => none
 | k + 1, x3, x245000, x245001, x245002, x245003 => if x245000 = 2 then (spec_l8text.j3 k x3 (x245000 == 2) x245000 x245001 x245002 x245003) else (if x245000 = 4 then (spec_l8text.j3 k x3 (x245000 == 4) x245000 x245001 x245002 x245003) else (if x245000 = 5 then (spec_l8text.j3 k x3 (x245000 == 5) x245000 x245001 x245002 x245003) else (if x245000 = 6 then (spec_l8text.j3 k x3 (x245000 == 6) x245000 x245001 x245002 x245003) else (spec_l8text.j3 k x3 (x245000 == 7) x245000 x245001 x245002 x245003))))
def spec_l8text.j3 : Nat → List Int → Bool → Int → List Int → List Int → Int → Option (List Int)
 | 0, _, _, _, _, _, _ => none
 | k + 1, x3, x29, x245000, x245001, x245002, x245003 => if x29 = true then ((spec_l8digits.f k x245003).bind fun t258 => ((spec_l8word.f x3 t258).bind fun t261 => (some t261))) else (some x3)
def spec_l8text.j1 : Nat → List Int → Bool → Int → List Int → List Int → Int → Option (List Int)
 | 0, _, _, _, _, _, _ => none
 | k + 1, x3, x18, x245000, x245001, x245002, x245003 => if x18 = true then ((spec_l8quoted.f k x245002).bind fun t252 => ((spec_l8word.f x3 t252).bind fun t255 => (spec_l8text.j2 k t255 x245000 x245001 x245002 x245003))) else (spec_l8text.j2 k x3 x245000 x245001 x245002 x245003)
end
def spec_l8text.f (k : Nat) (a0_0 : Int) (l0_1 : List Int) (l0_2 : List Int) (a0_3 : Int) : Option (List Int) := (spec_l8name.f a0_0).bind fun t245 => ((virtual_bytes.f t245).bind fun t246 => (if (l0_1.length : Int) > 0 then ((spec_l8word.f t246 l0_1).bind fun t249 => (spec_l8text.j0 k t249 a0_0 l0_1 l0_2 a0_3)) else (spec_l8text.j0 k t246 a0_0 l0_1 l0_2 a0_3)))
set_option maxHeartbeats 8000000 in
set_option maxRecDepth 100000 in
theorem spec_l8text.calls (k : Nat) (a0_0 : Int) (A0_1 : Option Addr) (c0_1 : Nat) (l0_1 : List Int) (A0_2 : Option Addr) (c0_2 : Nat) (l0_2 : List Int) (a0_3 : Int) (r : List Int) (w : World) (hr0_1 : Kd.C (Kd.int .u8) w A0_1 l0_1.length l0_1) (hc0_1 : l0_1.length ≤ c0_1) (hr0_2 : Kd.C (Kd.int .u8) w A0_2 l0_2.length l0_2) (hc0_2 : l0_2.length ≤ c0_2) (h : spec_l8text.f k a0_0 l0_1 l0_2 a0_3 = some r) :
  Calls Tryd.prog 46 #[.agg #[.int .i64 a0_0, .slice A0_1 l0_1.length c0_1, .slice A0_2 l0_2.length c0_2, .int .i64 a0_3]] w fun e w' => ∃ v0_ : Value, e = .returned (v0_) ∧ RTk w' w.heap.size (fun _ => True) v0_ r ∧ Below w.heap.size w w' := by
 have hu24 := Tryd.underlying24
 have HR0_1 := Aside0.mk hr0_1
 have HC0_1 := Aside0.mk hc0_1
 clear hr0_1 hc0_1
 have HR0_2 := Aside0.mk hr0_2
 have HC0_2 := Aside0.mk hc0_2
 clear hr0_2 hc0_2
 have HB := Aside0.mk (Below.refl w.heap.size w)
 have H : ((spec_l8name.f a0_0).bind fun t245 => ((virtual_bytes.f t245).bind fun t246 => (if (l0_1.length : Int) > 0 then ((spec_l8word.f t246 l0_1).bind fun t249 => (spec_l8text.j0 k t249 a0_0 l0_1 l0_2 a0_3)) else (spec_l8text.j0 k t246 a0_0 l0_1 l0_2 a0_3)))) = some r := h
 clear h
 replace H := Option.bind_eq_some_iff.mp H
 obtain ⟨t245, A20, H⟩ := H
 replace H : ((virtual_bytes.f t245).bind fun t246 => (if (l0_1.length : Int) > 0 then ((spec_l8word.f t246 l0_1).bind fun t249 => (spec_l8text.j0 k t249 a0_0 l0_1 l0_2 a0_3)) else (spec_l8text.j0 k t246 a0_0 l0_1 l0_2 a0_3))) = some r := H
 have A2 := Aside0.mk A20
 clear A20
 replace H := Option.bind_eq_some_iff.mp H
 obtain ⟨t246, A30, H⟩ := H
 replace H : (if (l0_1.length : Int) > 0 then ((spec_l8word.f t246 l0_1).bind fun t249 => (spec_l8text.j0 k t249 a0_0 l0_1 l0_2 a0_3)) else (spec_l8text.j0 k t246 a0_0 l0_1 l0_2 a0_3)) = some r := H
 have A3 := Aside0.mk A30
 clear A30
 have HC4 := Aside0.mk H
 clear H
 go_enter Tryd.func46, Tryd.ntmps46
 go_upto_if 11 with (first | ((with_reducible refine gate_dst (N := 1) rfl ?_); refine bx_ 1 #[.int .i64 a0_0, .slice A0_1 l0_1.length c0_1, .slice A0_2 l0_2.length c0_2, .int .i64 a0_3] 24 (h := ?_); intro gb244 hg w5 hbox hb; have BK244 := Aside0.mk (hbox); have GW244 := Aside0.mk ((by rw [hg]; exact (below_size bel) : w.heap.size ≤ gb244)); have GE244 := GW244; replace HB := bst hb; clear hb hbox hg; obtain ⟨C6_0, C6_1, C6_2, C6_3, -⟩ := cells_4 BK244.out trivial; obtain ⟨F6_0, F6_1, F6_2, F6_3, -⟩ := frz_4 BK244.out) | ((with_reducible refine gate_callee (f := 52) rfl ?_); refine gl_ (some 6) Tryd.func52 #[.int .i64 a0_0] (h := ?_); (with_reducible refine (spec_l8name.calls a0_0 t245 _ A2.out).mono ?_); rintro e w7 ⟨rfl, hb⟩; refine ⟨_, rfl, ?_⟩; replace BK244 := Aside0.mk (blb BK244 hb); replace HB := bst hb; (try clear hb); (try clear hb2); (try clear hk); (try clear hi)) | ((with_reducible refine gate_dst (N := 7) rfl ?_); refine cvl_ 7 t245 Tryd.underlying9 Tryd.underlying22 Tryd.underlying5 (h := ?_); (with_reducible refine (virtual_bytes.calls t245 t246 _ A3.out).mono ?_); rintro e w8 ⟨v247, rfl, ho0, hb⟩; refine ⟨_, rfl, ?_⟩; have HO248 := Aside0.mk (RTk_lower ho0 (below_size bel)); replace BK244 := Aside0.mk (blb BK244 hb); replace HB := bst hb; (try clear hb); (try clear hb2); (try clear hk); (try clear hi); (try clear ho0); obtain ⟨C9_0, C9_1, C9_2, C9_3, -⟩ := cells_4 BK244.out trivial; obtain ⟨F9_0, F9_1, F9_2, F9_3, -⟩ := frz_4 BK244.out))
 (try simp only [Act.put, List.setIfInBounds_toArray, List.set_cons_zero, List.set_cons_succ])
 go_cut [3] (fun v3 wc => ∃ (kq : Nat) (x3_3 : List Int), Aside0 (spec_l8text.j0 kq x3_3 a0_0 l0_1 l0_2 a0_3 = some r) ∧ Aside0 (kq ≤ k) ∧ Aside0 (RTk wc w.heap.size (fun _ => True) v3 x3_3) ∧ Aside0 (wc.heap[gb244]? = some (.cells #[.int .i64 a0_0, (.slice A0_1 l0_1.length c0_1), (.slice A0_2 l0_2.length c0_2), .int .i64 a0_3] 24 (0, 0))) ∧ Aside0 (Below w.heap.size w wc))
 case first =>
  have H := HC4.out
  clear HC4
  by_cases c10 : (l0_1.length : Int) > 0
  ·rw [if_pos c10] at H
   have c10b0 : decide (0 < (l0_1.length : Int)) = true := decide_eq_true c10
   have c10b1 : decide (0 < l0_1.length) = true := decide_eq_true (by omega)
   clear c10
   (first | rw [c10b0] | rw [c10b1] | (simp only [i64_w, i32_w]; rw [c10b0]) | skip)
   replace H := Option.bind_eq_some_iff.mp H
   obtain ⟨t249, A110, H⟩ := H
   replace H : (spec_l8text.j0 k t249 a0_0 l0_1 l0_2 a0_3) = some r := H
   have A11 := Aside0.mk A110
   clear A110
   have H' := Aside0.mk H
   clear H
   obtain ⟨C12_0, C12_1, C12_2, C12_3, -⟩ := cells_4 BK244.out trivial
   obtain ⟨F12_0, F12_1, F12_2, F12_3, -⟩ := frz_4 BK244.out
   obtain ⟨Ao13, co13, eo13⟩ := RTk_slice HO248.out
   subst eo13
   go_wp2_with (first | ((with_reducible refine gate_callee (f := 61) rfl ?_); refine gl_ (some 15) Tryd.func61 #[.slice Ao13 t246.length co13, .slice A0_1 l0_1.length c0_1] (h := ?_); (with_reducible refine (spec_l8word.calls (fun k_ => some k_ = (.slice Ao13 t246.length co13 : Value).ownBlock) (.slice Ao13 t246.length co13) t246 _ _ l0_1 t249 w _ ?side1 ?side2 ?side3 ?side4 A11.out).mono ?_); (case side1 => repeat (first | (with_reducible first | exact HB.out | apply below_alloc | apply pw_below_drewN | apply below_drew1 | refine below_set ?_ GE244.out) | exact HB.out)); (case side2 => exact RTk_tight rfl HO248.out); (case side3 => exact Kd.C_kept_came (Kd.heap_int .u8) HR0_1.out bel (fun k_ hs_ => (fun e_ => RTk_base HO248.out k_ e_.symm) hs_)); (case side4 => exact HC0_1.out); rintro e w14 ⟨v250, rfl, ho0, hb, hkp⟩; refine ⟨_, rfl, ?_⟩; have n0_ := Aside0.mk (blk_kept (bkp BK244) hkp (fun hs_ => (fun e_ => (RTk_ne HO248.out BK244.out (by decide)) e_) hs_)); have n1_ := Aside0.mk (RTk_mono (ok' := fun k_ => True) ho0 (fun k_ hk_ => trivial)); have n2_ := Aside0.mk (hb); clear BK244; clear HB; clear HO248; have BK244 := n0_; have HO251 := n1_; have HB := n2_; clear n0_ n1_ n2_; (try clear hb); (try clear hkp); (try clear ho0)))
   go_meet
   case rel => exact ⟨_, (t249), H', ⟨by first | omega | exact Nat.le_refl _⟩, ⟨rtp HO251⟩, ⟨bkp BK244⟩, ⟨bel⟩⟩
  rw [if_neg c10] at H
  have c10b0 : decide (0 < (l0_1.length : Int)) = false := decide_eq_false c10
  have c10b1 : decide (0 < l0_1.length) = false := decide_eq_false (by omega)
  clear c10
  (first | rw [c10b0] | rw [c10b1] | (simp only [i64_w, i32_w]; rw [c10b0]) | skip)
  have H' := Aside0.mk H
  clear H
  go_wp2
  go_meet
  case rel => exact ⟨_, (t246), H', ⟨by first | omega | exact Nat.le_refl _⟩, ⟨rtp HO248⟩, ⟨bkp BK244⟩, ⟨bel⟩⟩
 case rest =>
  clear HC4
  try clear c1; try clear p2; try clear c4; try clear c5; try clear c6; try clear c10; try clear c10b0; try clear c10b1; try clear c13; try clear C12_0 C12_1 C12_2 C12_3; try clear C6_0 C6_1 C6_2 C6_3; try clear C9_0 C9_1 C9_2 C9_3; try clear F12_0 F12_1 F12_2 F12_3; try clear F6_0 F6_1 F6_2 F6_3; try clear F9_0 F9_1 F9_2 F9_3
  obtain ⟨kq, x3_3, HA, HJ3, HO_3, BK244, HB⟩ := hcut
  cases kq with
  | zero => exact absurd HA.out (by simp [spec_l8text.j0])
  | succ kj3 =>
   have H := HA.out
   clear HA
   simp only [spec_l8text.j0] at H
   have HC15 := Aside0.mk H
   clear H
   obtain ⟨C16_0, C16_1, C16_2, C16_3, -⟩ := cells_4 BK244.out trivial
   obtain ⟨F16_0, F16_1, F16_2, F16_3, -⟩ := frz_4 BK244.out
   go_upto_block 0 with (fail)
   go_cut [3] (fun v3 wc => ∃ (kq : Nat) (x3_14 : List Int), Aside0 (spec_l8text.j2 kq x3_14 a0_0 l0_1 l0_2 a0_3 = some r) ∧ Aside0 (kq ≤ kj3) ∧ Aside0 (RTk wc w.heap.size (fun _ => True) v3 x3_14) ∧ Aside0 (wc.heap[gb244]? = some (.cells #[.int .i64 a0_0, (.slice A0_1 l0_1.length c0_1), (.slice A0_2 l0_2.length c0_2), .int .i64 a0_3] 24 (0, 0))) ∧ Aside0 (Below w.heap.size w wc))
   case first =>
    have H := HC15.out
    clear HC15
    have HC17 := Aside0.mk H
    clear H
    go_upto_if 18 with (fail)
    go_cut [18] (fun v18 wc => ∃ (kq : Nat) (x18_16 : Bool), v18 = .bool x18_16 ∧ Aside0 (spec_l8text.j1 kq x3_3 x18_16 a0_0 l0_1 l0_2 a0_3 = some r) ∧ Aside0 (kq ≤ kj3) ∧ Aside0 (RTk wc w.heap.size (fun _ => True) u3 x3_3) ∧ Aside0 (wc.heap[gb244]? = some (.cells #[.int .i64 a0_0, (.slice A0_1 l0_1.length c0_1), (.slice A0_2 l0_2.length c0_2), .int .i64 a0_3] 24 (0, 0))) ∧ Aside0 (Below w.heap.size w wc))
    case first =>
     have H := HC17.out
     clear HC17
     by_cases c18 : a0_0 = 1
     ·rw [if_pos c18] at H
      have c18b0 : (a0_0 == 1) = true := beq_iff_eq.mpr c18
      have c18b1 : (a0_0 != 1) = false := bne_eq_false_iff_eq.mpr c18
      clear c18
      (first | rw [c18b0] | (simp only [i64_w, i32_w]; rw [c18b0]) | skip)
      have H' := Aside0.mk H
      clear H
      go_wp2
      go_meet
      case rel => exact ⟨_, ((a0_0 == 1)), rs_, H', ⟨by have := HJ3.out; first | omega | exact Nat.le_refl _⟩, ⟨rtp HO_3⟩, ⟨bkp BK244⟩, ⟨bel⟩⟩
     rw [if_neg c18] at H
     have c18b0 : (a0_0 == 1) = false := beq_eq_false_iff_ne.mpr c18
     have c18b1 : (a0_0 != 1) = true := bne_iff_ne.mpr c18
     (first | rw [c18b0] | (simp only [i64_w, i32_w]; rw [c18b0]) | skip)
     by_cases c19 : a0_0 = 2
     ·rw [if_pos c19] at H
      have c19b0 : (a0_0 == 2) = true := beq_iff_eq.mpr c19
      have c19b1 : (a0_0 != 2) = false := bne_eq_false_iff_eq.mpr c19
      clear c19
      have H' := Aside0.mk H
      clear H
      go_wp2
      go_meet
      case rel => exact ⟨_, ((a0_0 == 2)), rs_, H', ⟨by have := HJ3.out; first | omega | exact Nat.le_refl _⟩, ⟨rtp HO_3⟩, ⟨bkp BK244⟩, ⟨bel⟩⟩
     rw [if_neg c19] at H
     have c19b0 : (a0_0 == 2) = false := beq_eq_false_iff_ne.mpr c19
     have c19b1 : (a0_0 != 2) = true := bne_iff_ne.mpr c19
     have H' := Aside0.mk H
     clear H
     go_wp2
     go_meet
     case rel => exact ⟨_, ((a0_0 == 6)), rs_, H', ⟨by have := HJ3.out; first | omega | exact Nat.le_refl _⟩, ⟨rtp HO_3⟩, ⟨bkp BK244⟩, ⟨bel⟩⟩
    case rest =>
     clear HC17
     try clear c1; try clear p2; try clear c4; try clear c5; try clear c6; try clear c10; try clear c10b0; try clear c10b1; try clear c13; try clear c18; try clear c18b0; try clear c18b1; try clear c19; try clear c19b0; try clear c19b1; try clear C12_0 C12_1 C12_2 C12_3; try clear C16_0 C16_1 C16_2 C16_3; try clear C6_0 C6_1 C6_2 C6_3; try clear C9_0 C9_1 C9_2 C9_3; try clear F12_0 F12_1 F12_2 F12_3; try clear F16_0 F16_1 F16_2 F16_3; try clear F6_0 F6_1 F6_2 F6_3; try clear F9_0 F9_1 F9_2 F9_3; try clear p2
     obtain ⟨kq, x18_16, rfl, HA, HJ16, HO_3, BK244, HB⟩ := hcut
     cases kq with
     | zero => exact absurd HA.out (by simp [spec_l8text.j1])
     | succ kj16 =>
      have H := HA.out
      clear HA
      simp only [spec_l8text.j1] at H
      by_cases c20 : x18_16 = true
      ·subst c20
       have H1 : ((spec_l8quoted.f kj16 l0_2).bind fun t252 => ((spec_l8word.f x3_3 t252).bind fun t255 => (spec_l8text.j2 kj16 t255 a0_0 l0_1 l0_2 a0_3))) = some r := by rw [if_pos rfl] at H; exact H
       clear H
       have H := H1
       clear H1
       replace H := Option.bind_eq_some_iff.mp H
       obtain ⟨t252, A210, H⟩ := H
       replace H : ((spec_l8word.f x3_3 t252).bind fun t255 => (spec_l8text.j2 kj16 t255 a0_0 l0_1 l0_2 a0_3)) = some r := H
       have A21 := Aside0.mk A210
       clear A210
       replace H := Option.bind_eq_some_iff.mp H
       obtain ⟨t255, A220, H⟩ := H
       replace H : (spec_l8text.j2 kj16 t255 a0_0 l0_1 l0_2 a0_3) = some r := H
       have A22 := Aside0.mk A220
       clear A220
       have H' := Aside0.mk H
       clear H
       obtain ⟨C23_0, C23_1, C23_2, C23_3, -⟩ := cells_4 BK244.out trivial
       obtain ⟨F23_0, F23_1, F23_2, F23_3, -⟩ := frz_4 BK244.out
       go_wp2_with (first | ((with_reducible refine gate_callee (f := 62) rfl ?_); refine gl_ (some 25) Tryd.func62 #[.slice A0_2 l0_2.length c0_2] (h := ?_); (with_reducible refine (spec_l8quoted.calls kj16 _ _ l0_2 t252 _ ?side1 ?side2 A21.out).mono ?_); (case side1 => exact kcb); (case side2 => exact HC0_2.out); rintro e w24 ⟨v253, rfl, ho0, hb⟩; refine ⟨_, rfl, ?_⟩; have HO254 := Aside0.mk (Kd.R_lower (Kd.R_new' ho0 (RTk_lt (rtp HO_3))) (below_size bel)); replace HO_3 := Aside0.mk (RTk_elder' (rtp HO_3) (Kd.R_base ho0) hb); replace BK244 := Aside0.mk (blb BK244 hb); replace HB := bst hb; (try clear hb); (try clear hb2); (try clear hk); (try clear hi); (try clear ho0); obtain ⟨Ao25, co25, eo25⟩ := RTk_slice HO_3.out; subst eo25; obtain ⟨Ao26, co26, eo26⟩ := Kd.R_slice HO254.out; subst eo26) | ((with_reducible refine gate_callee (f := 61) rfl ?_); refine gl_ (some 26) Tryd.func61 #[.slice Ao25 x3_3.length co25, .slice Ao26 t252.length co26] (h := ?_); (with_reducible refine (spec_l8word.calls (fun k_ => some k_ = (.slice Ao25 x3_3.length co25 : Value).ownBlock) (.slice Ao25 x3_3.length co25) x3_3 _ _ t252 t255 w _ ?side1 ?side2 ?side3 ?side4 A22.out).mono ?_); (case side1 => repeat (first | (with_reducible first | exact HB.out | apply below_alloc | apply pw_below_drewN | apply below_drew1 | refine below_set ?_ GE244.out) | exact HB.out)); (case side2 => exact RTk_tight rfl HO_3.out); (case side3 => exact Kd.C_kept_own (HO254.out) (fun k_ hk_ hs_ => (hk_.2) hs_)); (case side4 => exact (Kd.R_reads' HO254.out).2.1); rintro e w27 ⟨v256, rfl, ho0, hb, hkp⟩; refine ⟨_, rfl, ?_⟩; have n0_ := Aside0.mk (blk_kept (bkp BK244) hkp (fun hs_ => (fun e_ => (RTk_ne HO_3.out BK244.out (by decide)) e_) hs_)); have n1_ := Aside0.mk (Kd.R_mono (ok' := fun k_ => some k_ ≠ (v256 : Value).ownBlock) (Kd.R_keptB (HO254.out) hkp (fun k_ hk_ hs_ => (hk_.2) hs_)) (fun k_ hk_ => fun e_ => Or.elim (ho0.1 k_ e_.symm) (fun hs_ => hk_.2.1 hs_) (fun hn_ => Nat.not_le.2 hk_.2.2 hn_))); have n2_ := Aside0.mk (RTk_mono (ok' := fun k_ => some k_ ≠ (.slice Ao26 t252.length co26 : Value).ownBlock) ho0 (fun k_ hk_ => Or.elim hk_ (fun hs_ => fun e_ => (((HO254.out).1 k_ e_.symm).2) hs_) (fun hn_ => (Kd.fresh' (Kd.R_lt (rkp HO254)) k_ hn_)))); have n3_ := Aside0.mk (hb); clear BK244; clear HO254; clear HB; clear HO_3; have BK244 := n0_; have HO254 := n1_; have HO257 := n2_; have HB := n3_; clear n0_ n1_ n2_ n3_; (try clear hb); (try clear hkp); (try clear ho0)))
       go_meet
       case rel => exact ⟨_, (t255), H', ⟨by have := HJ3.out; have := HJ16.out; first | omega | exact Nat.le_refl _⟩, ⟨by (with_reducible repeat (first | apply Kd.R_alloc | apply Kd.R_drewN | apply Kd.R_drew | apply RTk_alloc | apply RTk_drewN | apply RTk_drew)); exact RTk_mono HO257.out (fun _ hk => trivial)⟩, ⟨bkp BK244⟩, ⟨bel⟩⟩
      replace c20 := Bool.eq_false_iff.mpr c20
      subst c20
      have H1 : (spec_l8text.j2 kj16 x3_3 a0_0 l0_1 l0_2 a0_3) = some r := by rw [if_neg (show ¬ (false = true) by decide)] at H; exact H
      clear H
      have H := H1
      clear H1
      have H' := Aside0.mk H
      clear H
      go_wp2
      go_meet
      case rel => exact ⟨_, (x3_3), H', ⟨by have := HJ3.out; have := HJ16.out; first | omega | exact Nat.le_refl _⟩, ⟨rtp HO_3⟩, ⟨bkp BK244⟩, ⟨bel⟩⟩
   case rest =>
    clear HC15
    try clear c1; try clear c2; try clear p2; try clear c4; try clear c5; try clear c6; try clear c10; try clear c10b0; try clear c10b1; try clear c13; try clear c18; try clear c18b0; try clear c18b1; try clear c19; try clear c19b0; try clear c19b1; try clear c20; try clear C12_0 C12_1 C12_2 C12_3; try clear C16_0 C16_1 C16_2 C16_3; try clear C23_0 C23_1 C23_2 C23_3; try clear C6_0 C6_1 C6_2 C6_3; try clear C9_0 C9_1 C9_2 C9_3; try clear F12_0 F12_1 F12_2 F12_3; try clear F16_0 F16_1 F16_2 F16_3; try clear F23_0 F23_1 F23_2 F23_3; try clear F6_0 F6_1 F6_2 F6_3; try clear F9_0 F9_1 F9_2 F9_3; try clear p2
    obtain ⟨kq, x3_14, HA, HJ14, HO_3, BK244, HB⟩ := hcut
    cases kq with
    | zero => exact absurd HA.out (by simp [spec_l8text.j2])
    | succ kj14 =>
     have H := HA.out
     clear HA
     simp only [spec_l8text.j2] at H
     have HC28 := Aside0.mk H
     clear H
     obtain ⟨C29_0, C29_1, C29_2, C29_3, -⟩ := cells_4 BK244.out trivial
     obtain ⟨F29_0, F29_1, F29_2, F29_3, -⟩ := frz_4 BK244.out
     go_upto_if 29 with (fail)
     go_cut [29] (fun v29 wc => ∃ (kq : Nat) (x29_27 : Bool), v29 = .bool x29_27 ∧ Aside0 (spec_l8text.j3 kq x3_14 x29_27 a0_0 l0_1 l0_2 a0_3 = some r) ∧ Aside0 (kq ≤ kj14) ∧ Aside0 (RTk wc w.heap.size (fun _ => True) u3 x3_14) ∧ Aside0 (wc.heap[gb244]? = some (.cells #[.int .i64 a0_0, (.slice A0_1 l0_1.length c0_1), (.slice A0_2 l0_2.length c0_2), .int .i64 a0_3] 24 (0, 0))) ∧ Aside0 (Below w.heap.size w wc))
     case first =>
      have H := HC28.out
      clear HC28
      by_cases c30 : a0_0 = 2
      ·rw [if_pos c30] at H
       have c30b0 : (a0_0 == 2) = true := beq_iff_eq.mpr c30
       have c30b1 : (a0_0 != 2) = false := bne_eq_false_iff_eq.mpr c30
       clear c30
       (first | rw [c30b0] | (simp only [i64_w, i32_w]; rw [c30b0]) | skip)
       have H' := Aside0.mk H
       clear H
       go_wp2
       go_meet
       case rel => exact ⟨_, ((a0_0 == 2)), rs_, H', ⟨by have := HJ3.out; have := HJ14.out; first | omega | exact Nat.le_refl _⟩, ⟨rtp HO_3⟩, ⟨bkp BK244⟩, ⟨bel⟩⟩
      rw [if_neg c30] at H
      have c30b0 : (a0_0 == 2) = false := beq_eq_false_iff_ne.mpr c30
      have c30b1 : (a0_0 != 2) = true := bne_iff_ne.mpr c30
      (first | rw [c30b0] | (simp only [i64_w, i32_w]; rw [c30b0]) | skip)
      by_cases c31 : a0_0 = 4
      ·rw [if_pos c31] at H
       have c31b0 : (a0_0 == 4) = true := beq_iff_eq.mpr c31
       have c31b1 : (a0_0 != 4) = false := bne_eq_false_iff_eq.mpr c31
       clear c31
       have H' := Aside0.mk H
       clear H
       go_wp2
       go_meet
       case rel => exact ⟨_, ((a0_0 == 4)), rs_, H', ⟨by have := HJ3.out; have := HJ14.out; first | omega | exact Nat.le_refl _⟩, ⟨rtp HO_3⟩, ⟨bkp BK244⟩, ⟨bel⟩⟩
      rw [if_neg c31] at H
      have c31b0 : (a0_0 == 4) = false := beq_eq_false_iff_ne.mpr c31
      have c31b1 : (a0_0 != 4) = true := bne_iff_ne.mpr c31
      by_cases c32 : a0_0 = 5
      ·rw [if_pos c32] at H
       have c32b0 : (a0_0 == 5) = true := beq_iff_eq.mpr c32
       have c32b1 : (a0_0 != 5) = false := bne_eq_false_iff_eq.mpr c32
       clear c32
       have H' := Aside0.mk H
       clear H
       go_wp2
       go_meet
       case rel => exact ⟨_, ((a0_0 == 5)), rs_, H', ⟨by have := HJ3.out; have := HJ14.out; first | omega | exact Nat.le_refl _⟩, ⟨rtp HO_3⟩, ⟨bkp BK244⟩, ⟨bel⟩⟩
      rw [if_neg c32] at H
      have c32b0 : (a0_0 == 5) = false := beq_eq_false_iff_ne.mpr c32
      have c32b1 : (a0_0 != 5) = true := bne_iff_ne.mpr c32
      by_cases c33 : a0_0 = 6
      ·rw [if_pos c33] at H
       have c33b0 : (a0_0 == 6) = true := beq_iff_eq.mpr c33
       have c33b1 : (a0_0 != 6) = false := bne_eq_false_iff_eq.mpr c33
       clear c33
       have H' := Aside0.mk H
       clear H
       go_wp2
       go_meet
       case rel => exact ⟨_, ((a0_0 == 6)), rs_, H', ⟨by have := HJ3.out; have := HJ14.out; first | omega | exact Nat.le_refl _⟩, ⟨rtp HO_3⟩, ⟨bkp BK244⟩, ⟨bel⟩⟩
      rw [if_neg c33] at H
      have c33b0 : (a0_0 == 6) = false := beq_eq_false_iff_ne.mpr c33
      have c33b1 : (a0_0 != 6) = true := bne_iff_ne.mpr c33
      have H' := Aside0.mk H
      clear H
      go_wp2
      go_meet
      case rel => exact ⟨_, ((a0_0 == 7)), rs_, H', ⟨by have := HJ3.out; have := HJ14.out; first | omega | exact Nat.le_refl _⟩, ⟨rtp HO_3⟩, ⟨bkp BK244⟩, ⟨bel⟩⟩
     case rest =>
      clear HC28
      try clear c1; try clear c2; try clear p2; try clear c3; try clear c4; try clear c5; try clear c6; try clear c10; try clear c10b0; try clear c10b1; try clear c13; try clear c18; try clear c18b0; try clear c18b1; try clear c19; try clear c19b0; try clear c19b1; try clear c20; try clear c30; try clear c30b0; try clear c30b1; try clear c31; try clear c31b0; try clear c31b1; try clear c32; try clear c32b0; try clear c32b1; try clear c33; try clear c33b0; try clear c33b1; try clear C12_0 C12_1 C12_2 C12_3; try clear C16_0 C16_1 C16_2 C16_3; try clear C23_0 C23_1 C23_2 C23_3; try clear C29_0 C29_1 C29_2 C29_3; try clear C6_0 C6_1 C6_2 C6_3; try clear C9_0 C9_1 C9_2 C9_3; try clear F12_0 F12_1 F12_2 F12_3; try clear F16_0 F16_1 F16_2 F16_3; try clear F23_0 F23_1 F23_2 F23_3; try clear F29_0 F29_1 F29_2 F29_3; try clear F6_0 F6_1 F6_2 F6_3; try clear F9_0 F9_1 F9_2 F9_3; try clear p2
      obtain ⟨kq, x29_27, rfl, HA, HJ27, HO_3, BK244, HB⟩ := hcut
      cases kq with
      | zero => exact absurd HA.out (by simp [spec_l8text.j3])
      | succ kj27 =>
       have H := HA.out
       clear HA
       simp only [spec_l8text.j3] at H
       by_cases c34 : x29_27 = true
       ·subst c34
        have H1 : ((spec_l8digits.f kj27 a0_3).bind fun t258 => ((spec_l8word.f x3_14 t258).bind fun t261 => (some t261))) = some r := by rw [if_pos rfl] at H; exact H
        clear H
        have H := H1
        clear H1
        replace H := Option.bind_eq_some_iff.mp H
        obtain ⟨t258, A350, H⟩ := H
        replace H : ((spec_l8word.f x3_14 t258).bind fun t261 => (some t261)) = some r := H
        have A35 := Aside0.mk A350
        clear A350
        replace H := Option.bind_eq_some_iff.mp H
        obtain ⟨t261, A360, H⟩ := H
        replace H : (some t261) = some r := H
        have A36 := Aside0.mk A360
        clear A360
        obtain rfl := Option.some.inj H
        obtain ⟨C37_0, C37_1, C37_2, C37_3, -⟩ := cells_4 BK244.out trivial
        obtain ⟨F37_0, F37_1, F37_2, F37_3, -⟩ := frz_4 BK244.out
        go_wp2_with (first | ((with_reducible refine gate_callee (f := 63) rfl ?_); refine gl_ (some 38) Tryd.func63 #[.int .i64 a0_3] (h := ?_); (with_reducible refine (spec_l8digits.calls kj27 a0_3 t258 _ A35.out).mono ?_); rintro e w38 ⟨v259, rfl, ho0, hb⟩; refine ⟨_, rfl, ?_⟩; have HO260 := Aside0.mk (Kd.R_lower (Kd.R_new' ho0 (RTk_lt (rtp HO_3))) (below_size bel)); replace HO_3 := Aside0.mk (RTk_elder' (rtp HO_3) (Kd.R_base ho0) hb); replace BK244 := Aside0.mk (blb BK244 hb); replace HB := bst hb; (try clear hb); (try clear hb2); (try clear hk); (try clear hi); (try clear ho0); obtain ⟨Ao39, co39, eo39⟩ := RTk_slice HO_3.out; subst eo39; obtain ⟨Ao40, co40, eo40⟩ := Kd.R_slice HO260.out; subst eo40) | ((with_reducible refine gate_callee (f := 61) rfl ?_); refine gl_ (some 39) Tryd.func61 #[.slice Ao39 x3_14.length co39, .slice Ao40 t258.length co40] (h := ?_); (with_reducible refine (spec_l8word.calls (fun k_ => some k_ = (.slice Ao39 x3_14.length co39 : Value).ownBlock) (.slice Ao39 x3_14.length co39) x3_14 _ _ t258 t261 w _ ?side1 ?side2 ?side3 ?side4 A36.out).mono ?_); (case side1 => repeat (first | (with_reducible first | exact HB.out | apply below_alloc | apply pw_below_drewN | apply below_drew1 | refine below_set ?_ GE244.out) | exact HB.out)); (case side2 => exact RTk_tight rfl HO_3.out); (case side3 => exact Kd.C_kept_own (HO260.out) (fun k_ hk_ hs_ => (hk_.2) hs_)); (case side4 => exact (Kd.R_reads' HO260.out).2.1); rintro e w41 ⟨v262, rfl, ho0, hb, hkp⟩; refine ⟨_, rfl, ?_⟩; have n0_ := Aside0.mk (blk_kept (bkp BK244) hkp (fun hs_ => (fun e_ => (RTk_ne HO_3.out BK244.out (by decide)) e_) hs_)); have n1_ := Aside0.mk (Kd.R_mono (ok' := fun k_ => some k_ ≠ (v262 : Value).ownBlock) (Kd.R_keptB (HO260.out) hkp (fun k_ hk_ hs_ => (hk_.2) hs_)) (fun k_ hk_ => fun e_ => Or.elim (ho0.1 k_ e_.symm) (fun hs_ => hk_.2.1 hs_) (fun hn_ => Nat.not_le.2 hk_.2.2 hn_))); have n2_ := Aside0.mk (RTk_mono (ok' := fun k_ => some k_ ≠ (.slice Ao40 t258.length co40 : Value).ownBlock) ho0 (fun k_ hk_ => Or.elim hk_ (fun hs_ => fun e_ => (((HO260.out).1 k_ e_.symm).2) hs_) (fun hn_ => (Kd.fresh' (Kd.R_lt (rkp HO260)) k_ hn_)))); have n3_ := Aside0.mk (hb); clear BK244; clear HO260; clear HB; clear HO_3; have BK244 := n0_; have HO260 := n1_; have HO263 := n2_; have HB := n3_; clear n0_ n1_ n2_ n3_; (try clear hb); (try clear hkp); (try clear ho0)))
        go_ret
        exact ⟨_, rz_, by (with_reducible repeat (first | apply Kd.R_alloc | apply Kd.R_drewN | apply Kd.R_drew | apply RTk_alloc | apply RTk_drewN | apply RTk_drew)); exact RTk_mono HO263.out (fun _ hk => trivial), bel⟩
       replace c34 := Bool.eq_false_iff.mpr c34
       subst c34
       have H1 : (some x3_14) = some r := by rw [if_neg (show ¬ (false = true) by decide)] at H; exact H
       clear H
       have H := H1
       clear H1
       obtain rfl := Option.some.inj H
       go_wp2
       go_ret
       exact ⟨_, rz_, by (with_reducible repeat (first | apply Kd.R_alloc | apply Kd.R_drewN | apply Kd.R_drew | apply RTk_alloc | apply RTk_drewN | apply RTk_drew)); exact HO_3.out, bel⟩

/-! ### spec_OpText: function 26 -/
def spec_OpText.f (k : Nat) (a0_0 : Int) (l0_1 : List Int) (l0_2 : List Int) (a0_3 : Int) : Option (List Int × Bool) := (spec_OpOk.f k a0_0 l0_1 l0_2 a0_3).bind fun t265 => (if t265 = true then ((spec_l8text.f k a0_0 l0_1 l0_2 a0_3).bind fun t266 => (some (t266, true))) else (some (([] : List Int), false)))
set_option maxHeartbeats 8000000 in
set_option maxRecDepth 100000 in
theorem spec_OpText.calls (k : Nat) (a0_0 : Int) (A0_1 : Option Addr) (c0_1 : Nat) (l0_1 : List Int) (A0_2 : Option Addr) (c0_2 : Nat) (l0_2 : List Int) (a0_3 : Int) (r1 : List Int) (r2 : Bool) (w : World) (hr0_1 : Kd.C (Kd.int .u8) w A0_1 l0_1.length l0_1) (hc0_1 : l0_1.length ≤ c0_1) (hr0_2 : Kd.C (Kd.int .u8) w A0_2 l0_2.length l0_2) (hc0_2 : l0_2.length ≤ c0_2) (h : spec_OpText.f k a0_0 l0_1 l0_2 a0_3 = some (r1, r2)) :
  Calls Tryd.prog 26 #[.agg #[.int .i64 a0_0, .slice A0_1 l0_1.length c0_1, .slice A0_2 l0_2.length c0_2, .int .i64 a0_3]] w fun e w' => ∃ v0_ : Value, e = .returned (.tuple #[v0_, .bool r2]) ∧ RNk w' w.heap.size (fun _ => True) v0_ r1 ∧ Below w.heap.size w w' := by
 have hu24 := Tryd.underlying24
 have HR0_1 := Aside0.mk hr0_1
 have HC0_1 := Aside0.mk hc0_1
 clear hr0_1 hc0_1
 have HR0_2 := Aside0.mk hr0_2
 have HC0_2 := Aside0.mk hc0_2
 clear hr0_2 hc0_2
 have HB := Aside0.mk (Below.refl w.heap.size w)
 have H : ((spec_OpOk.f k a0_0 l0_1 l0_2 a0_3).bind fun t265 => (if t265 = true then ((spec_l8text.f k a0_0 l0_1 l0_2 a0_3).bind fun t266 => (some (t266, true))) else (some (([] : List Int), false)))) = some (r1, r2) := h
 clear h
 replace H := Option.bind_eq_some_iff.mp H
 obtain ⟨t265, A20, H⟩ := H
 replace H : (if t265 = true then ((spec_l8text.f k a0_0 l0_1 l0_2 a0_3).bind fun t266 => (some (t266, true))) else (some (([] : List Int), false))) = some (r1, r2) := H
 have A2 := Aside0.mk A20
 clear A20
 by_cases c3 : t265 = true
 ·subst c3
  have H1 : ((spec_l8text.f k a0_0 l0_1 l0_2 a0_3).bind fun t266 => (some (t266, true))) = some (r1, r2) := by rw [if_pos rfl] at H; exact H
  clear H
  have H := H1
  clear H1
  replace H := Option.bind_eq_some_iff.mp H
  obtain ⟨t266, A40, H⟩ := H
  replace H : (some (t266, true)) = some (r1, r2) := H
  have A4 := Aside0.mk A40
  clear A40
  simp only [Option.some.injEq, Prod.mk.injEq] at H
  obtain ⟨rfl, rfl⟩ := H
  go_enter Tryd.func26, Tryd.ntmps26
  go_wp2_with (first | ((with_reducible refine gate_dst (N := 1) rfl ?_); refine bx_ 1 #[.int .i64 a0_0, .slice A0_1 l0_1.length c0_1, .slice A0_2 l0_2.length c0_2, .int .i64 a0_3] 24 (h := ?_); intro gb264 hg w5 hbox hb; have BK264 := Aside0.mk (hbox); have GW264 := Aside0.mk ((by rw [hg]; exact (below_size bel) : w.heap.size ≤ gb264)); have GE264 := GW264; replace HB := bst hb; clear hb hbox hg; obtain ⟨C6_0, C6_1, C6_2, C6_3, -⟩ := cells_4 BK264.out trivial; obtain ⟨F6_0, F6_1, F6_2, F6_3, -⟩ := frz_4 BK264.out) | ((with_reducible refine gate_callee (f := 9) rfl ?_); refine gl_ (some 5) Tryd.func9 #[.agg #[.int .i64 a0_0, .slice A0_1 l0_1.length c0_1, .slice A0_2 l0_2.length c0_2, .int .i64 a0_3]] (h := ?_); (with_reducible refine (spec_OpOk.calls k a0_0 _ _ l0_1 _ _ l0_2 a0_3 true _ ?side1 ?side2 ?side3 ?side4 A2.out).mono ?_); (case side1 => exact kcb); (case side2 => exact HC0_1.out); (case side3 => exact kcb); (case side4 => exact HC0_2.out); rintro e w7 ⟨rfl, hb⟩; refine ⟨_, rfl, ?_⟩; replace BK264 := Aside0.mk (blb BK264 hb); replace HB := bst hb; (try clear hb); (try clear hb2); (try clear hk); (try clear hi); obtain ⟨C8_0, C8_1, C8_2, C8_3, -⟩ := cells_4 BK264.out trivial; obtain ⟨F8_0, F8_1, F8_2, F8_3, -⟩ := frz_4 BK264.out) | ((with_reducible refine gate_callee (f := 46) rfl ?_); refine gl_ (some 8) Tryd.func46 #[.agg #[.int .i64 a0_0, .slice A0_1 l0_1.length c0_1, .slice A0_2 l0_2.length c0_2, .int .i64 a0_3]] (h := ?_); (with_reducible refine (spec_l8text.calls k a0_0 _ _ l0_1 _ _ l0_2 a0_3 t266 _ ?side1 ?side2 ?side3 ?side4 A4.out).mono ?_); (case side1 => exact kcb); (case side2 => exact HC0_1.out); (case side3 => exact kcb); (case side4 => exact HC0_2.out); rintro e w9 ⟨v267, rfl, ho0, hb⟩; refine ⟨_, rfl, ?_⟩; replace ho0 := RNk_of_RTk ho0; have HO268 := Aside0.mk (RNk_lower ho0 (below_size bel)); replace BK264 := Aside0.mk (blb BK264 hb); replace HB := bst hb; (try clear hb); (try clear hb2); (try clear hk); (try clear hi); (try clear ho0)))
  go_ret2
  exact ⟨_, rz_, by (with_reducible repeat (first | apply RNk_alloc | apply RNk_drewN | apply RNk_drew)); exact HO268.out, bel⟩
 replace c3 := Bool.eq_false_iff.mpr c3
 subst c3
 have H1 : (some (([] : List Int), false)) = some (r1, r2) := by rw [if_neg (show ¬ (false = true) by decide)] at H; exact H
 clear H
 have H := H1
 clear H1
 simp only [Option.some.injEq, Prod.mk.injEq] at H
 obtain ⟨rfl, rfl⟩ := H
 go_enter Tryd.func26, Tryd.ntmps26
 go_wp2_with (first | ((with_reducible refine gate_dst (N := 1) rfl ?_); refine bx_ 1 #[.int .i64 a0_0, .slice A0_1 l0_1.length c0_1, .slice A0_2 l0_2.length c0_2, .int .i64 a0_3] 24 (h := ?_); intro gb264 hg w10 hbox hb; have BK264 := Aside0.mk (hbox); have GW264 := Aside0.mk ((by rw [hg]; exact (below_size bel) : w.heap.size ≤ gb264)); have GE264 := GW264; replace HB := bst hb; clear hb hbox hg; obtain ⟨C11_0, C11_1, C11_2, C11_3, -⟩ := cells_4 BK264.out trivial; obtain ⟨F11_0, F11_1, F11_2, F11_3, -⟩ := frz_4 BK264.out) | ((with_reducible refine gate_callee (f := 9) rfl ?_); refine gl_ (some 5) Tryd.func9 #[.agg #[.int .i64 a0_0, .slice A0_1 l0_1.length c0_1, .slice A0_2 l0_2.length c0_2, .int .i64 a0_3]] (h := ?_); (with_reducible refine (spec_OpOk.calls k a0_0 _ _ l0_1 _ _ l0_2 a0_3 false _ ?side1 ?side2 ?side3 ?side4 A2.out).mono ?_); (case side1 => exact kcb); (case side2 => exact HC0_1.out); (case side3 => exact kcb); (case side4 => exact HC0_2.out); rintro e w12 ⟨rfl, hb⟩; refine ⟨_, rfl, ?_⟩; replace BK264 := Aside0.mk (blb BK264 hb); replace HB := bst hb; (try clear hb); (try clear hb2); (try clear hk); (try clear hi)))
 go_ret2
 exact ⟨_, rz_, by first | exact RNk_nil _ _ _ | exact Kd.N_nil _ _ _ _ _ | exact Kd.V_nil _ _ _ _ _ | exact Kd.Q_nil _ _ _ _ _ | exact Kd.S_nil _ _ _ _ _, bel⟩

/-! ### laws_toByteS: function 15 -/
def laws_toByteS.l0 : Nat → List Int → List Int → Int → Option (List Int)
 | 0, _, _, _ => none
 | k + 1, x0, x3, x4 => if x4 < (x0.length : Int) then (if 0 ≤ x4 then (if x4 < (x3.length : Int) then (laws_toByteS.l0 k x0 (x3.set (x4 : Int).toNat (rd x0 x4)) (wrap64 (x4 + 1))) else (none)) else (none)) else (some x3)
def laws_toByteS.f (k : Nat) (l0 : List Int) : Option (List Int) := if 0 ≤ (l0.length : Int) then (if ((l0.length : Int) : Int).toNat ≤ 281474976710656 then (laws_toByteS.l0 k l0 (List.replicate ((l0.length : Int) : Int).toNat 0) 0) else (none)) else (none)
set_option maxHeartbeats 8000000 in
set_option maxRecDepth 100000 in
theorem laws_toByteS.calls (k : Nat) (A0 : Option Addr) (c0 : Nat) (l0 : List Int) (r : List Int) (w : World) (hr0 : Kd.C (Kd.int .u8) w A0 l0.length l0) (hc0 : l0.length ≤ c0) (h : laws_toByteS.f k l0 = some r) :
  Calls Tryd.prog 15 #[.slice A0 l0.length c0] w fun e w' => ∃ v0_ : Value, e = .returned (v0_) ∧ Kd.R (Kd.int .u8) 5 w' w.heap.size (fun _ => True) v0_ r ∧ Below w.heap.size w w' := by
 have HR0 := Aside0.mk hr0
 have HC0 := Aside0.mk hc0
 clear hr0 hc0
 have HB := Aside0.mk (Below.refl w.heap.size w)
 have H : (if 0 ≤ (l0.length : Int) then (if ((l0.length : Int) : Int).toNat ≤ 281474976710656 then (laws_toByteS.l0 k l0 (List.replicate ((l0.length : Int) : Int).toNat 0) 0) else (none)) else (none)) = some r := h
 clear h
 by_cases c2 : 0 ≤ (l0.length : Int)
 ·rw [if_pos c2] at H
  have c2b0 := eq_true c2
  have c2b1 : decide (0 ≤ (l0.length : Int)) = true := decide_eq_true c2
  clear c2
  by_cases c3 : ((l0.length : Int) : Int).toNat ≤ 281474976710656
  ·rw [if_pos c3] at H
   have c3b0 := eq_true c3
   have c3b1 : decide (((l0.length : Int) : Int).toNat ≤ 281474976710656) = true := decide_eq_true c3
   clear c3
   obtain ⟨y269, hy269⟩ : ∃ y_ : List Int, y_ = (List.replicate ((l0.length : Int) : Int).toNat 0) := ⟨_, rfl⟩
   replace H : (laws_toByteS.l0 k l0 y269 0) = some r := by first | (rw [hy269]; with_reducible exact H) | (have H2_ := (Option.bind_some _ _).symm.trans H; rw [hy269]; with_reducible exact H2_) | (have H2_ := (Option.bind_some _ _).symm.trans H; with_reducible exact H2_) | with_reducible exact H | (rw [hy269]; exact H) | exact H
   have Ny269 := Aside0.mk hy269
   clear hy269
   have H' := Aside0.mk H
   clear H
   go_enter Tryd.func15, Tryd.ntmps15
   go_wp2_with (first | ((with_reducible refine gate_dst (N := 7) rfl ?_); refine Kd.R_make (Kd.int .u8) _ 5 rfl (N := 7) rfl 22 _ _ rfl (l0.length : Int) rfl rfl Tryd.underlying22 (.int .u8 0) 1 info5 rfl (by decide) (by omega) 0 (ok := fun _ => True) (okp := fun _ => True) rfl (fun _ hk => hk) trivial od (Nat.le_trans (Nat.mul_le_mul_right _ (od : (l0.length : Int).toNat ≤ 281474976710656)) (by omega)) (Below.refl _ _) (Nat.le_refl _) ?_; intro v270 w4 ho5 hb hg_ hnew_; clear hg_ hnew_; (first | rw [← Ny269.out] at ho5 | (simp only [Int.reduceToNat] at ho5; rw [← Ny269.out] at ho5)); have HO271 := Aside0.mk (Kd.R_lower ho5 (below_size bel)); replace HB := bst hb; clear hb ho5))
   go_loopg [4] k (fun kq v4 w' => ∃ (x3_1 : List Int) (x4_1 : Int), v4 = .int .i64 x4_1 ∧ Aside0 (laws_toByteS.l0 kq l0 x3_1 x4_1 = some r) ∧ Aside0 (kq ≤ k) ∧ Aside0 (Kd.R (Kd.int .u8) 5 w' w.heap.size (fun _ => True) v270 x3_1) ∧ Aside0 (Below w.heap.size w w'))
   case atStart => exact ⟨(y269), (0), rs_, H', ⟨Nat.le_refl _⟩, ⟨rkp HO271⟩, ⟨bel⟩⟩
   case round =>
    clear H'
    try clear c1; try clear c2; try clear c2b0; try clear c2b1; try clear p2; try clear c3; try clear c3b0; try clear c3b1
    obtain ⟨x3_1, x4_1, rfl, HA, HK1, HO_3, HB⟩ := hrel
    cases gk with
    | zero => exact absurd HA.out (by simp [laws_toByteS.l0])
    | succ k1 =>
     have H := HA.out
     clear HA
     simp only [laws_toByteS.l0] at H
     by_cases c6 : x4_1 < (l0.length : Int)
     ·rw [if_pos c6] at H
      have c6b0 : decide (x4_1 < (l0.length : Int)) = true := decide_eq_true c6
      clear c6
      by_cases c7 : 0 ≤ x4_1
      ·rw [if_pos c7] at H
       have c7b0 : decide (0 ≤ x4_1) = true := decide_eq_true c7
       clear c7
       by_cases c8 : x4_1 < (x3_1.length : Int)
       ·rw [if_pos c8] at H
        have c8b0 : decide (x4_1 < (x3_1.length : Int)) = true := decide_eq_true c8
        clear c8
        obtain ⟨y273, hy273⟩ : ∃ y_ : List Int, y_ = (x3_1.set (x4_1 : Int).toNat (rd l0 x4_1)) := ⟨_, rfl⟩
        replace H : (laws_toByteS.l0 k1 l0 y273 (wrap64 (x4_1 + 1))) = some r := by first | (rw [hy273]; with_reducible exact H) | (have H2_ := (Option.bind_some _ _).symm.trans H; rw [hy273]; with_reducible exact H2_) | (have H2_ := (Option.bind_some _ _).symm.trans H; with_reducible exact H2_) | with_reducible exact H | (rw [hy273]; exact H) | exact H
        have Ny273 := Aside0.mk hy273
        clear hy273
        have H' := Aside0.mk H
        clear H
        have p272 : 0 ≤ (x4_1 : Int) := od
        have q272 : x4_1 < (l0.length : Int) := od
        obtain ⟨ad272, e272, hx272_0⟩ := Kd.at_int HR0.out x4_1 p272 q272
        cases e272
        replace hx272_0 := hxb HB hx272_0
        replace p272 := eq_true p272
        replace q272 := eq_true q272
        have p9 : 0 ≤ (x4_1 : Int) := od
        have q9 : (x4_1 : Int) < ((x3_1.length : Int) : Int) := od
        obtain ⟨go9, co9, eo9, gb9, gl9, cl9, HG9⟩ := Kd.R_form HO_3.out (by omega)
        (first | cases eo9 | (injection eo9 with ea_ en_ ec_; (first | subst ea_ | (injection ea_ with ea_; subst ea_)); subst ec_; clear en_))
        have GB9 := Aside0.mk gb9
        have GG9 := Aside0.mk HG9
        clear gb9 gl9 HG9
        obtain ⟨hx9_0, hf9_0⟩ := Kd.R_celln 0 HO_3.out (x4_1 : Int) p9 q9
        replace p9 := eq_true p9
        replace q9 := eq_true q9
        have HP10 := Kd.R_putg HO_3.out (x4_1 : Int) (rd l0 x4_1)
        go_wp2_with (first | ((with_reducible refine gate_store (t := 5) (p := 20) rfl ?_); refine store_event (t := 5) (p := 20) (v := ?vo_w11) (w1 := (wr.setCell ⟨go9, (x4_1 : Int).toNat, none⟩ (.int .u8 (rd l0 x4_1)))) ?hg ?ho ?hn ?hr ?_; (case ho => rfl); (case hg => rfl); (case hn => rfl); (case hr => first | (go_simp; done) | (go_simp; rfl)); intro w11 hw; have hg : wr.grownBy w11 (some go9) := (by rw [hw]; exact HP10.2); have hp_ : Kd.R (Kd.int .u8) 5 w11 w.heap.size (fun _ => True) (.slice (some ⟨go9, 0, none⟩) x3_1.length co9) y273 := (by rw [hw, Ny273.out]; exact HP10.1); clear HP10; replace HO_3 := Aside0.mk (hp_); replace HB := Aside0.mk ((by rw [hw]; exact below_set (HB.out) GB9.out : Below w.heap.size w w11)); clear hg hw hp_))
        go_roundg k1
        case measure => have := HK1.out; omega
        case rel => exact ⟨(y273), (wrap64 (x4_1 + 1)), rs_, H', ⟨by have := HK1.out; omega⟩, ⟨rkp HO_3⟩, ⟨bel⟩⟩
       rw [if_neg c8] at H
       exact absurd H (by simp)
      rw [if_neg c7] at H
      exact absurd H (by simp)
     rw [if_neg c6] at H
     have c6b0 : decide (x4_1 < (l0.length : Int)) = false := decide_eq_false c6
     clear c6
     obtain rfl := Option.some.inj H
     go_wp2
     go_ret
     exact ⟨_, rz_, by (with_reducible repeat (first | apply Kd.R_alloc | apply Kd.R_drewN | apply Kd.R_drew)); exact HO_3.out, bel⟩
  rw [if_neg c3] at H
  exact absurd H (by simp)
 rw [if_neg c2] at H
 exact absurd H (by simp)

/-! ### laws_toOp: function 27 -/
def laws_toOp.f (k : Nat) (a0_0 : Int) (l0_1 : List Int) (l0_2 : List Int) (a0_3 : Int) : Option (Int × List Int × List Int × Int) := (laws_toByteS.f k l0_1).bind fun t277 => ((laws_toByteS.f k l0_2).bind fun t280 => (some (a0_0, t277, t280, a0_3)))
set_option maxHeartbeats 8000000 in
set_option maxRecDepth 100000 in
theorem laws_toOp.calls (k : Nat) (a0_0 : Int) (A0_1 : Option Addr) (c0_1 : Nat) (l0_1 : List Int) (A0_2 : Option Addr) (c0_2 : Nat) (l0_2 : List Int) (a0_3 : Int) (r1 : Int) (r2 : List Int) (r3 : List Int) (r4 : Int) (w : World) (hr0_1 : Kd.C (Kd.int .u8) w A0_1 l0_1.length l0_1) (hc0_1 : l0_1.length ≤ c0_1) (hr0_2 : Kd.C (Kd.int .u8) w A0_2 l0_2.length l0_2) (hc0_2 : l0_2.length ≤ c0_2) (h : laws_toOp.f k a0_0 l0_1 l0_2 a0_3 = some (r1, r2, r3, r4)) :
  Calls Tryd.prog 27 #[.agg #[.int .i64 a0_0, .slice A0_1 l0_1.length c0_1, .slice A0_2 l0_2.length c0_2, .int .i64 a0_3]] w fun e w' => ∃ v1_ v2_ : Value, e = .returned (.agg #[.int .i64 r1, v1_, v2_, .int .i64 r4]) ∧ Kd.R (Kd.int .u8) 5 w' w.heap.size (fun k_ => some k_ ≠ (v2_ : Value).ownBlock) v1_ r2 ∧ Kd.R (Kd.int .u8) 5 w' w.heap.size (fun k_ => some k_ ≠ (v1_ : Value).ownBlock) v2_ r3 ∧ Below w.heap.size w w' := by
 have hu43 := Tryd.underlying43
 have hu24 := Tryd.underlying24
 have HR0_1 := Aside0.mk hr0_1
 have HC0_1 := Aside0.mk hc0_1
 clear hr0_1 hc0_1
 have HR0_2 := Aside0.mk hr0_2
 have HC0_2 := Aside0.mk hc0_2
 clear hr0_2 hc0_2
 have HB := Aside0.mk (Below.refl w.heap.size w)
 have H : ((laws_toByteS.f k l0_1).bind fun t277 => ((laws_toByteS.f k l0_2).bind fun t280 => (some (a0_0, t277, t280, a0_3)))) = some (r1, r2, r3, r4) := h
 clear h
 replace H := Option.bind_eq_some_iff.mp H
 obtain ⟨t277, A20, H⟩ := H
 replace H : ((laws_toByteS.f k l0_2).bind fun t280 => (some (a0_0, t277, t280, a0_3))) = some (r1, r2, r3, r4) := H
 have A2 := Aside0.mk A20
 clear A20
 replace H := Option.bind_eq_some_iff.mp H
 obtain ⟨t280, A30, H⟩ := H
 replace H : (some (a0_0, t277, t280, a0_3)) = some (r1, r2, r3, r4) := H
 have A3 := Aside0.mk A30
 clear A30
 simp only [Option.some.injEq, Prod.mk.injEq] at H
 obtain ⟨rfl, rfl, rfl, rfl⟩ := H
 go_enter Tryd.func27, Tryd.ntmps27
 go_wp2_with (first | ((with_reducible refine gate_dst (N := 1) rfl ?_); refine bx_ 1 #[.int .i64 a0_0, .slice A0_1 l0_1.length c0_1, .slice A0_2 l0_2.length c0_2, .int .i64 a0_3] 43 (h := ?_); intro gb274 hg w4 hbox hb; have BK274 := Aside0.mk (hbox); have GW274 := Aside0.mk ((by rw [hg]; exact (below_size bel) : w.heap.size ≤ gb274)); have GE274 := GW274; replace HB := bst hb; clear hb hbox hg) | ((with_reducible refine gate_dst (N := 2) rfl ?_); refine bx_ 2 #[.int .i64 0, .slice none 0 0, .slice none 0 0, .int .i64 0] 24 (h := ?_); intro gb275 hg w5 hbox hb; have BK275 := Aside0.mk (hbox); have GW275 := Aside0.mk ((by rw [hg]; exact (below_size bel) : w.heap.size ≤ gb275)); have GE275 := GW275; have NB274_275 := Aside0.mk ((by rw [hg]; exact Nat.ne_of_lt (blt BK274) : gb274 ≠ gb275)); have NB275_274 := Aside0.mk NB274_275.out.symm; replace BK274 := Aside0.mk (blb BK274 hb); replace HB := bst hb; clear hb hbox hg) | ((with_reducible refine gate_dst (N := 3) rfl ?_); refine bx_ 3 #[.int .i64 0, .slice none 0 0, .slice none 0 0, .int .i64 0] 24 (h := ?_); intro gb276 hg w6 hbox hb; have BK276 := Aside0.mk (hbox); have GW276 := Aside0.mk ((by rw [hg]; exact (below_size bel) : w.heap.size ≤ gb276)); have GE276 := GW276; have NB274_276 := Aside0.mk ((by rw [hg]; exact Nat.ne_of_lt (blt BK274) : gb274 ≠ gb276)); have NB276_274 := Aside0.mk NB274_276.out.symm; have NB275_276 := Aside0.mk ((by rw [hg]; exact Nat.ne_of_lt (blt BK275) : gb275 ≠ gb276)); have NB276_275 := Aside0.mk NB275_276.out.symm; replace BK274 := Aside0.mk (blb BK274 hb); replace BK275 := Aside0.mk (blb BK275 hb); replace HB := bst hb; clear hb hbox hg; have hnb7 := NB274_275.out; have hnc7 := NB275_274.out; have hnb8 := NB274_276.out; have hnc8 := NB276_274.out; obtain ⟨C9_0, C9_1, C9_2, C9_3, -⟩ := cells_4 BK274.out trivial; obtain ⟨F9_0, F9_1, F9_2, F9_3, -⟩ := frz_4 BK274.out; have hnb10 := NB276_275.out; have hnc10 := NB275_276.out; obtain ⟨C11_0, C11_1, C11_2, C11_3, -⟩ := cells_4 BK276.out trivial; obtain ⟨F11_0, F11_1, F11_2, F11_3, -⟩ := frz_4 BK276.out) | ((with_reducible refine gate_callee (f := 15) rfl ?_); refine gl_ (some 9) Tryd.func15 #[.slice A0_1 l0_1.length c0_1] (h := ?_); (with_reducible refine (laws_toByteS.calls k _ _ l0_1 t277 _ ?side1 ?side2 A2.out).mono ?_); (case side1 => exact Kd.C_below HR0_1.out bel); (case side2 => exact HC0_1.out); rintro e w12 ⟨v278, rfl, ho0, hb⟩; refine ⟨_, rfl, ?_⟩; have HO279 := Aside0.mk (Kd.R_lower ho0 (below_size bel)); replace BK274 := Aside0.mk (blk_below (g := gb274) (o := .cells #[.int .i64 a0_0, .slice A0_1 l0_1.length c0_1, .slice A0_2 l0_2.length c0_2, .int .i64 a0_3] 43 (0, 0)) (by (with_reducible repeat (first | refine blk_drewN ?_ _ | refine blk_drew ?_ | refine blk_alloc ?_ _)); refine blk_far ?_ NB274_276.out _; (with_reducible repeat (first | refine blk_drewN ?_ _ | refine blk_drew ?_ | refine blk_alloc ?_ _)); exact BK274.out) hb); replace BK275 := Aside0.mk (blk_below (g := gb275) (o := .cells #[.int .i64 0, .slice none 0 0, .slice none 0 0, .int .i64 0] 24 (0, 0)) (by (with_reducible repeat (first | refine blk_drewN ?_ _ | refine blk_drew ?_ | refine blk_alloc ?_ _)); refine blk_far ?_ NB275_276.out _; (with_reducible repeat (first | refine blk_drewN ?_ _ | refine blk_drew ?_ | refine blk_alloc ?_ _)); exact BK275.out) hb); replace BK276 := Aside0.mk (blk_below (g := gb276) (o := .cells #[.int .i64 a0_0, .slice none 0 0, .slice none 0 0, .int .i64 0] 24 (0, 0)) (by (with_reducible repeat (first | refine blk_drewN ?_ _ | refine blk_drew ?_ | refine blk_alloc ?_ _)); refine blk_put (cs := #[.int .i64 0, .slice none 0 0, .slice none 0 0, .int .i64 0]) ?_ 0 _ rfl; (with_reducible repeat (first | refine blk_drewN ?_ _ | refine blk_drew ?_ | refine blk_alloc ?_ _)); exact BK276.out) hb); replace HB := bst hb; (try clear hb); (try clear hb2); (try clear hk); (try clear hi); (try clear ho0); obtain ⟨Ao13, co13, eo13⟩ := Kd.R_slice HO279.out; subst eo13; obtain ⟨C14_0, C14_1, C14_2, C14_3, -⟩ := cells_4 BK276.out trivial; obtain ⟨F14_0, F14_1, F14_2, F14_3, -⟩ := frz_4 BK276.out; obtain ⟨C15_0, C15_1, C15_2, C15_3, -⟩ := cells_4 BK274.out trivial; obtain ⟨F15_0, F15_1, F15_2, F15_3, -⟩ := frz_4 BK274.out) | ((with_reducible refine gate_callee (f := 15) rfl ?_); refine gl_ (some 13) Tryd.func15 #[.slice A0_2 l0_2.length c0_2] (h := ?_); (with_reducible refine (laws_toByteS.calls k _ _ l0_2 t280 _ ?side1 ?side2 A3.out).mono ?_); (case side1 => exact Kd.C_below HR0_2.out bel); (case side2 => exact HC0_2.out); rintro e w16 ⟨v281, rfl, ho0, hb⟩; refine ⟨_, rfl, ?_⟩; have HO282 := Aside0.mk (Kd.R_lower (Kd.R_new' ho0 (Kd.R_lt (by (with_reducible repeat (first | apply Kd.R_alloc | apply Kd.R_drewN | apply Kd.R_drew)); exact (Kd.R_mono (Kd.R_far (p := ⟨gb276, 1, none⟩) (Kd.R_types HO279.out BK276.out (by decide)) (fun _ hk => hk.2) (.slice Ao13 t277.length co13)) (fun _ h_ => h_.1))))) (below_size bel)); replace HO279 := Aside0.mk (Kd.R_elder' (by (with_reducible repeat (first | apply Kd.R_alloc | apply Kd.R_drewN | apply Kd.R_drew)); exact (Kd.R_mono (Kd.R_far (p := ⟨gb276, 1, none⟩) (Kd.R_types HO279.out BK276.out (by decide)) (fun _ hk => hk.2) (.slice Ao13 t277.length co13)) (fun _ h_ => h_.1))) (Kd.R_base ho0) hb); replace BK274 := Aside0.mk (blk_below (g := gb274) (o := .cells #[.int .i64 a0_0, .slice A0_1 l0_1.length c0_1, .slice A0_2 l0_2.length c0_2, .int .i64 a0_3] 43 (0, 0)) (by (with_reducible repeat (first | refine blk_drewN ?_ _ | refine blk_drew ?_ | refine blk_alloc ?_ _)); refine blk_far ?_ NB274_276.out _; (with_reducible repeat (first | refine blk_drewN ?_ _ | refine blk_drew ?_ | refine blk_alloc ?_ _)); exact BK274.out) hb); replace BK275 := Aside0.mk (blk_below (g := gb275) (o := .cells #[.int .i64 0, .slice none 0 0, .slice none 0 0, .int .i64 0] 24 (0, 0)) (by (with_reducible repeat (first | refine blk_drewN ?_ _ | refine blk_drew ?_ | refine blk_alloc ?_ _)); refine blk_far ?_ NB275_276.out _; (with_reducible repeat (first | refine blk_drewN ?_ _ | refine blk_drew ?_ | refine blk_alloc ?_ _)); exact BK275.out) hb); replace BK276 := Aside0.mk (blk_below (g := gb276) (o := .cells #[.int .i64 a0_0, .slice Ao13 t277.length co13, .slice none 0 0, .int .i64 0] 24 (0, 0)) (by (with_reducible repeat (first | refine blk_drewN ?_ _ | refine blk_drew ?_ | refine blk_alloc ?_ _)); refine blk_put (cs := #[.int .i64 a0_0, .slice none 0 0, .slice none 0 0, .int .i64 0]) ?_ 1 _ rfl; (with_reducible repeat (first | refine blk_drewN ?_ _ | refine blk_drew ?_ | refine blk_alloc ?_ _)); exact BK276.out) hb); replace HB := bst hb; (try clear hb); (try clear hb2); (try clear hk); (try clear hi); (try clear ho0); obtain ⟨Ao17, co17, eo17⟩ := Kd.R_slice HO282.out; subst eo17; obtain ⟨C18_0, C18_1, C18_2, C18_3, -⟩ := cells_4 BK276.out trivial; obtain ⟨F18_0, F18_1, F18_2, F18_3, -⟩ := frz_4 BK276.out; obtain ⟨C19_0, C19_1, C19_2, C19_3, -⟩ := cells_4 BK274.out trivial; obtain ⟨F19_0, F19_1, F19_2, F19_3, -⟩ := frz_4 BK274.out; obtain ⟨C20_0, C20_1, C20_2, C20_3, -⟩ := cells_4 BK275.out trivial; obtain ⟨F20_0, F20_1, F20_2, F20_3, -⟩ := frz_4 BK275.out))
 refine bodyPost_ret (results_cell_row rfl _ _ gb275 24 #[.int .i64 a0_0, .slice Ao13 t277.length co13, .slice Ao17 t280.length co17, .int .i64 a0_3] (0, 0) _ rfl (by (with_reducible repeat (first | refine blk_drewN ?_ _ | refine blk_drew ?_ | refine blk_alloc ?_ _)); refine blk_put (cs := #[.int .i64 a0_0, .slice Ao13 t277.length co13, .slice Ao17 t280.length co17, .int .i64 0]) ?_ 3 _ rfl; (with_reducible repeat (first | refine blk_drewN ?_ _ | refine blk_drew ?_ | refine blk_alloc ?_ _)); refine blk_put (cs := #[.int .i64 a0_0, .slice Ao13 t277.length co13, .slice none 0 0, .int .i64 0]) ?_ 2 _ rfl; (with_reducible repeat (first | refine blk_drewN ?_ _ | refine blk_drew ?_ | refine blk_alloc ?_ _)); refine blk_put (cs := #[.int .i64 a0_0, .slice none 0 0, .slice none 0 0, .int .i64 0]) ?_ 1 _ rfl; (with_reducible repeat (first | refine blk_drewN ?_ _ | refine blk_drew ?_ | refine blk_alloc ?_ _)); refine blk_put (cs := #[.int .i64 0, .slice none 0 0, .slice none 0 0, .int .i64 0]) ?_ 0 _ rfl; (with_reducible repeat (first | refine blk_drewN ?_ _ | refine blk_drew ?_ | refine blk_alloc ?_ _)); refine blk_far ?_ NB275_276.out _; (with_reducible repeat (first | refine blk_drewN ?_ _ | refine blk_drew ?_ | refine blk_alloc ?_ _)); refine blk_far ?_ NB275_276.out _; (with_reducible repeat (first | refine blk_drewN ?_ _ | refine blk_drew ?_ | refine blk_alloc ?_ _)); exact BK275.out) Tryd.underlying24 rfl (by kernel_rfl)) rfl ?_
 exact ⟨_, _, rz_, by (with_reducible repeat (first | apply Kd.R_alloc | apply Kd.R_drewN | apply Kd.R_drew)); exact Kd.R_mono (Kd.R_far (p := ⟨gb275, 3, none⟩) (Kd.R_far (p := ⟨gb275, 2, none⟩) (Kd.R_far (p := ⟨gb275, 1, none⟩) (Kd.R_far (p := ⟨gb275, 0, none⟩) (Kd.R_far (p := ⟨gb276, 3, none⟩) (Kd.R_far (p := ⟨gb276, 2, none⟩) (Kd.R_types (Kd.R_types HO279.out BK276.out (by decide)) BK275.out (by decide)) (fun _ hk => hk.1.2) (.slice Ao17 t280.length co17)) (fun _ hk => hk.1.2) (.int .i64 a0_3)) (fun _ hk => hk.2) (.int .i64 a0_0)) (fun _ hk => hk.2) (.slice Ao13 t277.length co13)) (fun _ hk => hk.2) (.slice Ao17 t280.length co17)) (fun _ hk => hk.2) (.int .i64 a0_3)) (fun _ hk => hk.1.1.2), by (with_reducible repeat (first | apply Kd.R_alloc | apply Kd.R_drewN | apply Kd.R_drew)); exact Kd.R_mono (Kd.R_far (p := ⟨gb275, 3, none⟩) (Kd.R_far (p := ⟨gb275, 2, none⟩) (Kd.R_far (p := ⟨gb275, 1, none⟩) (Kd.R_far (p := ⟨gb275, 0, none⟩) (Kd.R_far (p := ⟨gb276, 3, none⟩) (Kd.R_far (p := ⟨gb276, 2, none⟩) (Kd.R_types (Kd.R_types HO282.out BK276.out (by decide)) BK275.out (by decide)) (fun _ hk => hk.1.2) (.slice Ao17 t280.length co17)) (fun _ hk => hk.1.2) (.int .i64 a0_3)) (fun _ hk => hk.2) (.int .i64 a0_0)) (fun _ hk => hk.2) (.slice Ao13 t277.length co13)) (fun _ hk => hk.2) (.slice Ao17 t280.length co17)) (fun _ hk => hk.2) (.int .i64 a0_3)) (fun _ hk => hk.1.1.2), bel⟩

end Go.Proofs.YtmnjdmmljkahgaaDoor.PE
