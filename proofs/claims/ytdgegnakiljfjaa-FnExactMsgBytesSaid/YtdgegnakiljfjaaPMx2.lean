-- Written for this claim by the session's program pp.py, out of the kit's print and the seat's translation.
import Derived.Test.YtdgegnakiljfjaaPMx0
import Derived.Test.YtdgegnakiljfjaaPMx1
namespace Go.Proofs.Ytdgegnakiljfjaa.PM
open Go.RowKit Go.Proofs.YtdgegnakiljfjaaW.PrintWords Go.Proofs.YtdgegnakiljfjaaW.PrintLast Go.Proofs.YtdgegnakiljfjaaW.PrintMore
attribute [local go_sem] max2_int min2_int max_two min_two max_three min_three max_four min_four   -- for this text's walks alone
set_option linter.unusedVariables false
set_option linter.unusedSimpArgs false

/-! ### impl_OpOk: function 193 -/
def impl_OpOk.f (k : Nat) (a0_0 : Int) (l0_1 : List Int) (l0_2 : List Int) (a0_3 : Int) : Option (Bool) := if a0_0 = 0 then ((impl_within.f a0_3 0 0).bind fun t113 => (if t113 = true then (if (l0_1.length : Int) = 0 then (some ((l0_2.length : Int) == 0)) else (some false)) else (some false))) else (if a0_0 = 1 then ((impl_within.f a0_3 0 0).bind fun t114 => (if t114 = true then ((impl_KeyOk.f k l0_1).bind fun t115 => (if t115 = true then ((impl_isValue.f l0_2).bind fun t116 => (if t116 = true then (some true) else (some false))) else (some false))) else (some false))) else (if a0_0 = 2 then ((impl_within.f a0_3 0 1000000).bind fun t117 => (if t117 = true then ((impl_KeyOk.f k l0_1).bind fun t118 => (if t118 = true then ((impl_isValue.f l0_2).bind fun t119 => (if t119 = true then (some true) else (some false))) else (some false))) else (some false))) else (if a0_0 = 3 then ((impl_within.f a0_3 0 0).bind fun t120 => (if t120 = true then ((impl_KeyOk.f k l0_1).bind fun t121 => (if t121 = true then (some ((l0_2.length : Int) == 0)) else (some false))) else (some false))) else (if a0_0 = 4 then ((impl_within.f a0_3 0 1).bind fun t122 => (if t122 = true then (if (l0_1.length : Int) = 0 then (some ((l0_2.length : Int) == 0)) else (some false)) else (some false))) else (if a0_0 = 5 then ((impl_within.f a0_3 1 1000000).bind fun t123 => (if t123 = true then (if (l0_1.length : Int) = 0 then (some ((l0_2.length : Int) == 0)) else (some false)) else (some false))) else (if a0_0 = 6 then ((impl_within.f a0_3 1 1000000).bind fun t124 => (if t124 = true then ((impl_KeyOk.f k l0_1).bind fun t125 => (if t125 = true then ((impl_isValue.f l0_2).bind fun t126 => (if t126 = true then (some true) else (some false))) else (some false))) else (some false))) else (if a0_0 = 7 then ((impl_within.f a0_3 1 1000000).bind fun t127 => (if t127 = true then ((impl_KeyOk.f k l0_1).bind fun t128 => (if t128 = true then (some ((l0_2.length : Int) == 0)) else (some false))) else (some false))) else (some false))))))))
set_option maxHeartbeats 8000000 in
set_option maxRecDepth 100000 in
theorem impl_OpOk.calls (k : Nat) (a0_0 : Int) (A0_1 : Option Addr) (c0_1 : Nat) (l0_1 : List Int) (A0_2 : Option Addr) (c0_2 : Nat) (l0_2 : List Int) (a0_3 : Int) (r : Bool) (w : World) (hr0_1 : Kd.C (Kd.int .u8) w A0_1 l0_1.length l0_1) (hc0_1 : l0_1.length ≤ c0_1) (hr0_2 : Kd.C (Kd.int .u8) w A0_2 l0_2.length l0_2) (hc0_2 : l0_2.length ≤ c0_2) (h : impl_OpOk.f k a0_0 l0_1 l0_2 a0_3 = some r) :
  Calls Try.prog 193 #[.agg #[.int .i64 a0_0, .slice A0_1 l0_1.length c0_1, .slice A0_2 l0_2.length c0_2, .int .i64 a0_3]] w fun e w' => e = .returned (.bool r) ∧ Below w.heap.size w w' := by
 have hu143 := Try.underlying143
 have HR0_1 := Aside0.mk hr0_1
 have HC0_1 := Aside0.mk hc0_1
 clear hr0_1 hc0_1
 have HR0_2 := Aside0.mk hr0_2
 have HC0_2 := Aside0.mk hc0_2
 clear hr0_2 hc0_2
 have HB := Aside0.mk (Below.refl w.heap.size w)
 have H : (if a0_0 = 0 then ((impl_within.f a0_3 0 0).bind fun t113 => (if t113 = true then (if (l0_1.length : Int) = 0 then (some ((l0_2.length : Int) == 0)) else (some false)) else (some false))) else (if a0_0 = 1 then ((impl_within.f a0_3 0 0).bind fun t114 => (if t114 = true then ((impl_KeyOk.f k l0_1).bind fun t115 => (if t115 = true then ((impl_isValue.f l0_2).bind fun t116 => (if t116 = true then (some true) else (some false))) else (some false))) else (some false))) else (if a0_0 = 2 then ((impl_within.f a0_3 0 1000000).bind fun t117 => (if t117 = true then ((impl_KeyOk.f k l0_1).bind fun t118 => (if t118 = true then ((impl_isValue.f l0_2).bind fun t119 => (if t119 = true then (some true) else (some false))) else (some false))) else (some false))) else (if a0_0 = 3 then ((impl_within.f a0_3 0 0).bind fun t120 => (if t120 = true then ((impl_KeyOk.f k l0_1).bind fun t121 => (if t121 = true then (some ((l0_2.length : Int) == 0)) else (some false))) else (some false))) else (if a0_0 = 4 then ((impl_within.f a0_3 0 1).bind fun t122 => (if t122 = true then (if (l0_1.length : Int) = 0 then (some ((l0_2.length : Int) == 0)) else (some false)) else (some false))) else (if a0_0 = 5 then ((impl_within.f a0_3 1 1000000).bind fun t123 => (if t123 = true then (if (l0_1.length : Int) = 0 then (some ((l0_2.length : Int) == 0)) else (some false)) else (some false))) else (if a0_0 = 6 then ((impl_within.f a0_3 1 1000000).bind fun t124 => (if t124 = true then ((impl_KeyOk.f k l0_1).bind fun t125 => (if t125 = true then ((impl_isValue.f l0_2).bind fun t126 => (if t126 = true then (some true) else (some false))) else (some false))) else (some false))) else (if a0_0 = 7 then ((impl_within.f a0_3 1 1000000).bind fun t127 => (if t127 = true then ((impl_KeyOk.f k l0_1).bind fun t128 => (if t128 = true then (some ((l0_2.length : Int) == 0)) else (some false))) else (some false))) else (some false))))))))) = some r := h
 clear h
 by_cases c2 : a0_0 = 0
 ·rw [if_pos c2] at H
  have c2b0 : (a0_0 == 0) = true := beq_iff_eq.mpr c2
  have c2b1 : (a0_0 != 0) = false := bne_eq_false_iff_eq.mpr c2
  clear c2
  replace H := Option.bind_eq_some_iff.mp H
  obtain ⟨t113, A30, H⟩ := H
  replace H : (if t113 = true then (if (l0_1.length : Int) = 0 then (some ((l0_2.length : Int) == 0)) else (some false)) else (some false)) = some r := H
  have A3 := Aside0.mk A30
  clear A30
  by_cases c4 : t113 = true
  ·subst c4
   have H1 : (if (l0_1.length : Int) = 0 then (some ((l0_2.length : Int) == 0)) else (some false)) = some r := by rw [if_pos rfl] at H; exact H
   clear H
   have H := H1
   clear H1
   by_cases c5 : (l0_1.length : Int) = 0
   ·rw [if_pos c5] at H
    have c5b0 : ((l0_1.length : Int) == 0) = true := beq_iff_eq.mpr c5
    have c5b1 : ((l0_1.length : Int) != 0) = false := bne_eq_false_iff_eq.mpr c5
    clear c5
    obtain rfl := Option.some.inj H
    go_enter Try.func193, Try.ntmps193
    go_wp2_with (first | ((with_reducible refine gate_dst (N := 1) rfl ?_); (try (refine gate_guard (by rfl) ?_; dsimp only)); refine bx_ 1 #[.int .i64 a0_0, .slice A0_1 l0_1.length c0_1, .slice A0_2 l0_2.length c0_2, .int .i64 a0_3] 143 (h := ?_); intro gb112 hg w6 hbox hb; have BK112 := Aside0.mk (hbox); have GW112 := Aside0.mk ((by rw [hg]; exact (below_size bel) : w.heap.size ≤ gb112)); have GE112 := GW112; replace HB := Aside0.mk (below_step bel hb); clear hb hbox hg; obtain ⟨hcz7_0, hcz7_1, hcz7_2, hcz7_3, -⟩ := cells_4 BK112.out trivial; obtain ⟨hfz7_0, hfz7_1, hfz7_2, hfz7_3, -⟩ := frz_4 BK112.out) | ((with_reducible refine gate_callee (f := 81) rfl ?_); refine gl_ (some 29) Try.func81 #[.int .i64 a0_3, .int .i64 0, .int .i64 0] (h := ?_); (with_reducible refine (impl_within.calls a0_3 0 0 true _ A3.out).mono ?_); rintro e w' ⟨rfl, ⟨nd, rfl⟩⟩; refine ⟨_, rfl, ?_⟩))
    go_ret
    exact ⟨rz_, bel⟩
   rw [if_neg c5] at H
   have c5b0 : ((l0_1.length : Int) == 0) = false := beq_eq_false_iff_ne.mpr c5
   have c5b1 : ((l0_1.length : Int) != 0) = true := bne_iff_ne.mpr c5
   have c5b2 : ¬ (l0_1 = []) := fun h_ => c5 (by rw [h_]; rfl)
   obtain rfl := Option.some.inj H
   go_enter Try.func193, Try.ntmps193
   go_wp2_with (first | ((with_reducible refine gate_dst (N := 1) rfl ?_); (try (refine gate_guard (by rfl) ?_; dsimp only)); refine bx_ 1 #[.int .i64 a0_0, .slice A0_1 l0_1.length c0_1, .slice A0_2 l0_2.length c0_2, .int .i64 a0_3] 143 (h := ?_); intro gb112 hg w8 hbox hb; have BK112 := Aside0.mk (hbox); have GW112 := Aside0.mk ((by rw [hg]; exact (below_size bel) : w.heap.size ≤ gb112)); have GE112 := GW112; replace HB := Aside0.mk (below_step bel hb); clear hb hbox hg; obtain ⟨hcz9_0, hcz9_1, hcz9_2, hcz9_3, -⟩ := cells_4 BK112.out trivial; obtain ⟨hfz9_0, hfz9_1, hfz9_2, hfz9_3, -⟩ := frz_4 BK112.out) | ((with_reducible refine gate_callee (f := 81) rfl ?_); refine gl_ (some 29) Try.func81 #[.int .i64 a0_3, .int .i64 0, .int .i64 0] (h := ?_); (with_reducible refine (impl_within.calls a0_3 0 0 true _ A3.out).mono ?_); rintro e w' ⟨rfl, ⟨nd, rfl⟩⟩; refine ⟨_, rfl, ?_⟩))
   go_ret
   exact ⟨rz_, bel⟩
  replace c4 := Bool.eq_false_iff.mpr c4
  subst c4
  have H1 : (some false) = some r := by rw [if_neg (show ¬ (false = true) by decide)] at H; exact H
  clear H
  have H := H1
  clear H1
  obtain rfl := Option.some.inj H
  go_enter Try.func193, Try.ntmps193
  go_wp2_with (first | ((with_reducible refine gate_dst (N := 1) rfl ?_); (try (refine gate_guard (by rfl) ?_; dsimp only)); refine bx_ 1 #[.int .i64 a0_0, .slice A0_1 l0_1.length c0_1, .slice A0_2 l0_2.length c0_2, .int .i64 a0_3] 143 (h := ?_); intro gb112 hg w10 hbox hb; have BK112 := Aside0.mk (hbox); have GW112 := Aside0.mk ((by rw [hg]; exact (below_size bel) : w.heap.size ≤ gb112)); have GE112 := GW112; replace HB := Aside0.mk (below_step bel hb); clear hb hbox hg; obtain ⟨hcz11_0, hcz11_1, hcz11_2, hcz11_3, -⟩ := cells_4 BK112.out trivial; obtain ⟨hfz11_0, hfz11_1, hfz11_2, hfz11_3, -⟩ := frz_4 BK112.out) | ((with_reducible refine gate_callee (f := 81) rfl ?_); refine gl_ (some 29) Try.func81 #[.int .i64 a0_3, .int .i64 0, .int .i64 0] (h := ?_); (with_reducible refine (impl_within.calls a0_3 0 0 false _ A3.out).mono ?_); rintro e w' ⟨rfl, ⟨nd, rfl⟩⟩; refine ⟨_, rfl, ?_⟩))
  go_ret
  exact ⟨rz_, bel⟩
 rw [if_neg c2] at H
 have c2b0 : (a0_0 == 0) = false := beq_eq_false_iff_ne.mpr c2
 have c2b1 : (a0_0 != 0) = true := bne_iff_ne.mpr c2
 by_cases c12 : a0_0 = 1
 ·rw [if_pos c12] at H
  have c12b0 : (a0_0 == 1) = true := beq_iff_eq.mpr c12
  have c12b1 : (a0_0 != 1) = false := bne_eq_false_iff_eq.mpr c12
  clear c12
  replace H := Option.bind_eq_some_iff.mp H
  obtain ⟨t114, A130, H⟩ := H
  replace H : (if t114 = true then ((impl_KeyOk.f k l0_1).bind fun t115 => (if t115 = true then ((impl_isValue.f l0_2).bind fun t116 => (if t116 = true then (some true) else (some false))) else (some false))) else (some false)) = some r := H
  have A13 := Aside0.mk A130
  clear A130
  by_cases c14 : t114 = true
  ·subst c14
   have H1 : ((impl_KeyOk.f k l0_1).bind fun t115 => (if t115 = true then ((impl_isValue.f l0_2).bind fun t116 => (if t116 = true then (some true) else (some false))) else (some false))) = some r := by rw [if_pos rfl] at H; exact H
   clear H
   have H := H1
   clear H1
   replace H := Option.bind_eq_some_iff.mp H
   obtain ⟨t115, A150, H⟩ := H
   replace H : (if t115 = true then ((impl_isValue.f l0_2).bind fun t116 => (if t116 = true then (some true) else (some false))) else (some false)) = some r := H
   have A15 := Aside0.mk A150
   clear A150
   by_cases c16 : t115 = true
   ·subst c16
    have H1 : ((impl_isValue.f l0_2).bind fun t116 => (if t116 = true then (some true) else (some false))) = some r := by rw [if_pos rfl] at H; exact H
    clear H
    have H := H1
    clear H1
    replace H := Option.bind_eq_some_iff.mp H
    obtain ⟨t116, A170, H⟩ := H
    replace H : (if t116 = true then (some true) else (some false)) = some r := H
    have A17 := Aside0.mk A170
    clear A170
    by_cases c18 : t116 = true
    ·subst c18
     have H1 : (some true) = some r := by rw [if_pos rfl] at H; exact H
     clear H
     have H := H1
     clear H1
     obtain rfl := Option.some.inj H
     go_enter Try.func193, Try.ntmps193
     go_wp2_with (first | ((with_reducible refine gate_dst (N := 1) rfl ?_); (try (refine gate_guard (by rfl) ?_; dsimp only)); refine bx_ 1 #[.int .i64 a0_0, .slice A0_1 l0_1.length c0_1, .slice A0_2 l0_2.length c0_2, .int .i64 a0_3] 143 (h := ?_); intro gb112 hg w19 hbox hb; have BK112 := Aside0.mk (hbox); have GW112 := Aside0.mk ((by rw [hg]; exact (below_size bel) : w.heap.size ≤ gb112)); have GE112 := GW112; replace HB := Aside0.mk (below_step bel hb); clear hb hbox hg; obtain ⟨hcz20_0, hcz20_1, hcz20_2, hcz20_3, -⟩ := cells_4 BK112.out trivial; obtain ⟨hfz20_0, hfz20_1, hfz20_2, hfz20_3, -⟩ := frz_4 BK112.out) | ((with_reducible refine gate_callee (f := 81) rfl ?_); refine gl_ (some 29) Try.func81 #[.int .i64 a0_3, .int .i64 0, .int .i64 0] (h := ?_); (with_reducible refine (impl_within.calls a0_3 0 0 true _ A13.out).mono ?_); rintro e w' ⟨rfl, ⟨nd, rfl⟩⟩; refine ⟨_, rfl, ?_⟩) | (go_at_call 47; (with_reducible refine (impl_KeyOk.calls k _ _ l0_1 true _ ?side1 ?side2 A15.out).mono ?_); (case side1 => exact kcb); (case side2 => exact HC0_1.out); rintro e w' ⟨rfl, ⟨nd, rfl⟩⟩) | (go_at_call 82; (with_reducible refine (impl_isValue.calls _ _ l0_2 true _ ?side1 ?side2 A17.out).mono ?_); (case side1 => exact kcb); (case side2 => exact HC0_2.out); rintro e w' ⟨rfl, ⟨nd, rfl⟩⟩))
     go_ret
     exact ⟨rz_, bel⟩
    replace c18 := Bool.eq_false_iff.mpr c18
    subst c18
    have H1 : (some false) = some r := by rw [if_neg (show ¬ (false = true) by decide)] at H; exact H
    clear H
    have H := H1
    clear H1
    obtain rfl := Option.some.inj H
    go_enter Try.func193, Try.ntmps193
    go_wp2_with (first | ((with_reducible refine gate_dst (N := 1) rfl ?_); (try (refine gate_guard (by rfl) ?_; dsimp only)); refine bx_ 1 #[.int .i64 a0_0, .slice A0_1 l0_1.length c0_1, .slice A0_2 l0_2.length c0_2, .int .i64 a0_3] 143 (h := ?_); intro gb112 hg w21 hbox hb; have BK112 := Aside0.mk (hbox); have GW112 := Aside0.mk ((by rw [hg]; exact (below_size bel) : w.heap.size ≤ gb112)); have GE112 := GW112; replace HB := Aside0.mk (below_step bel hb); clear hb hbox hg; obtain ⟨hcz22_0, hcz22_1, hcz22_2, hcz22_3, -⟩ := cells_4 BK112.out trivial; obtain ⟨hfz22_0, hfz22_1, hfz22_2, hfz22_3, -⟩ := frz_4 BK112.out) | ((with_reducible refine gate_callee (f := 81) rfl ?_); refine gl_ (some 29) Try.func81 #[.int .i64 a0_3, .int .i64 0, .int .i64 0] (h := ?_); (with_reducible refine (impl_within.calls a0_3 0 0 true _ A13.out).mono ?_); rintro e w' ⟨rfl, ⟨nd, rfl⟩⟩; refine ⟨_, rfl, ?_⟩) | (go_at_call 47; (with_reducible refine (impl_KeyOk.calls k _ _ l0_1 true _ ?side1 ?side2 A15.out).mono ?_); (case side1 => exact kcb); (case side2 => exact HC0_1.out); rintro e w' ⟨rfl, ⟨nd, rfl⟩⟩) | (go_at_call 82; (with_reducible refine (impl_isValue.calls _ _ l0_2 false _ ?side1 ?side2 A17.out).mono ?_); (case side1 => exact kcb); (case side2 => exact HC0_2.out); rintro e w' ⟨rfl, ⟨nd, rfl⟩⟩))
    go_ret
    exact ⟨rz_, bel⟩
   replace c16 := Bool.eq_false_iff.mpr c16
   subst c16
   have H1 : (some false) = some r := by rw [if_neg (show ¬ (false = true) by decide)] at H; exact H
   clear H
   have H := H1
   clear H1
   obtain rfl := Option.some.inj H
   go_enter Try.func193, Try.ntmps193
   go_wp2_with (first | ((with_reducible refine gate_dst (N := 1) rfl ?_); (try (refine gate_guard (by rfl) ?_; dsimp only)); refine bx_ 1 #[.int .i64 a0_0, .slice A0_1 l0_1.length c0_1, .slice A0_2 l0_2.length c0_2, .int .i64 a0_3] 143 (h := ?_); intro gb112 hg w23 hbox hb; have BK112 := Aside0.mk (hbox); have GW112 := Aside0.mk ((by rw [hg]; exact (below_size bel) : w.heap.size ≤ gb112)); have GE112 := GW112; replace HB := Aside0.mk (below_step bel hb); clear hb hbox hg; obtain ⟨hcz24_0, hcz24_1, hcz24_2, hcz24_3, -⟩ := cells_4 BK112.out trivial; obtain ⟨hfz24_0, hfz24_1, hfz24_2, hfz24_3, -⟩ := frz_4 BK112.out) | ((with_reducible refine gate_callee (f := 81) rfl ?_); refine gl_ (some 29) Try.func81 #[.int .i64 a0_3, .int .i64 0, .int .i64 0] (h := ?_); (with_reducible refine (impl_within.calls a0_3 0 0 true _ A13.out).mono ?_); rintro e w' ⟨rfl, ⟨nd, rfl⟩⟩; refine ⟨_, rfl, ?_⟩) | (go_at_call 47; (with_reducible refine (impl_KeyOk.calls k _ _ l0_1 false _ ?side1 ?side2 A15.out).mono ?_); (case side1 => exact kcb); (case side2 => exact HC0_1.out); rintro e w' ⟨rfl, ⟨nd, rfl⟩⟩))
   go_ret
   exact ⟨rz_, bel⟩
  replace c14 := Bool.eq_false_iff.mpr c14
  subst c14
  have H1 : (some false) = some r := by rw [if_neg (show ¬ (false = true) by decide)] at H; exact H
  clear H
  have H := H1
  clear H1
  obtain rfl := Option.some.inj H
  go_enter Try.func193, Try.ntmps193
  go_wp2_with (first | ((with_reducible refine gate_dst (N := 1) rfl ?_); (try (refine gate_guard (by rfl) ?_; dsimp only)); refine bx_ 1 #[.int .i64 a0_0, .slice A0_1 l0_1.length c0_1, .slice A0_2 l0_2.length c0_2, .int .i64 a0_3] 143 (h := ?_); intro gb112 hg w25 hbox hb; have BK112 := Aside0.mk (hbox); have GW112 := Aside0.mk ((by rw [hg]; exact (below_size bel) : w.heap.size ≤ gb112)); have GE112 := GW112; replace HB := Aside0.mk (below_step bel hb); clear hb hbox hg; obtain ⟨hcz26_0, hcz26_1, hcz26_2, hcz26_3, -⟩ := cells_4 BK112.out trivial; obtain ⟨hfz26_0, hfz26_1, hfz26_2, hfz26_3, -⟩ := frz_4 BK112.out) | ((with_reducible refine gate_callee (f := 81) rfl ?_); refine gl_ (some 29) Try.func81 #[.int .i64 a0_3, .int .i64 0, .int .i64 0] (h := ?_); (with_reducible refine (impl_within.calls a0_3 0 0 false _ A13.out).mono ?_); rintro e w' ⟨rfl, ⟨nd, rfl⟩⟩; refine ⟨_, rfl, ?_⟩))
  go_ret
  exact ⟨rz_, bel⟩
 rw [if_neg c12] at H
 have c12b0 : (a0_0 == 1) = false := beq_eq_false_iff_ne.mpr c12
 have c12b1 : (a0_0 != 1) = true := bne_iff_ne.mpr c12
 by_cases c27 : a0_0 = 2
 ·rw [if_pos c27] at H
  have c27b0 : (a0_0 == 2) = true := beq_iff_eq.mpr c27
  have c27b1 : (a0_0 != 2) = false := bne_eq_false_iff_eq.mpr c27
  clear c27
  replace H := Option.bind_eq_some_iff.mp H
  obtain ⟨t117, A280, H⟩ := H
  replace H : (if t117 = true then ((impl_KeyOk.f k l0_1).bind fun t118 => (if t118 = true then ((impl_isValue.f l0_2).bind fun t119 => (if t119 = true then (some true) else (some false))) else (some false))) else (some false)) = some r := H
  have A28 := Aside0.mk A280
  clear A280
  by_cases c29 : t117 = true
  ·subst c29
   have H1 : ((impl_KeyOk.f k l0_1).bind fun t118 => (if t118 = true then ((impl_isValue.f l0_2).bind fun t119 => (if t119 = true then (some true) else (some false))) else (some false))) = some r := by rw [if_pos rfl] at H; exact H
   clear H
   have H := H1
   clear H1
   replace H := Option.bind_eq_some_iff.mp H
   obtain ⟨t118, A300, H⟩ := H
   replace H : (if t118 = true then ((impl_isValue.f l0_2).bind fun t119 => (if t119 = true then (some true) else (some false))) else (some false)) = some r := H
   have A30 := Aside0.mk A300
   clear A300
   by_cases c31 : t118 = true
   ·subst c31
    have H1 : ((impl_isValue.f l0_2).bind fun t119 => (if t119 = true then (some true) else (some false))) = some r := by rw [if_pos rfl] at H; exact H
    clear H
    have H := H1
    clear H1
    replace H := Option.bind_eq_some_iff.mp H
    obtain ⟨t119, A320, H⟩ := H
    replace H : (if t119 = true then (some true) else (some false)) = some r := H
    have A32 := Aside0.mk A320
    clear A320
    by_cases c33 : t119 = true
    ·subst c33
     have H1 : (some true) = some r := by rw [if_pos rfl] at H; exact H
     clear H
     have H := H1
     clear H1
     obtain rfl := Option.some.inj H
     go_enter Try.func193, Try.ntmps193
     go_wp2_with (first | ((with_reducible refine gate_dst (N := 1) rfl ?_); (try (refine gate_guard (by rfl) ?_; dsimp only)); refine bx_ 1 #[.int .i64 a0_0, .slice A0_1 l0_1.length c0_1, .slice A0_2 l0_2.length c0_2, .int .i64 a0_3] 143 (h := ?_); intro gb112 hg w34 hbox hb; have BK112 := Aside0.mk (hbox); have GW112 := Aside0.mk ((by rw [hg]; exact (below_size bel) : w.heap.size ≤ gb112)); have GE112 := GW112; replace HB := Aside0.mk (below_step bel hb); clear hb hbox hg; obtain ⟨hcz35_0, hcz35_1, hcz35_2, hcz35_3, -⟩ := cells_4 BK112.out trivial; obtain ⟨hfz35_0, hfz35_1, hfz35_2, hfz35_3, -⟩ := frz_4 BK112.out) | ((with_reducible refine gate_callee (f := 81) rfl ?_); refine gl_ (some 29) Try.func81 #[.int .i64 a0_3, .int .i64 0, .int .i64 1000000] (h := ?_); (with_reducible refine (impl_within.calls a0_3 0 1000000 true _ A28.out).mono ?_); rintro e w' ⟨rfl, ⟨nd, rfl⟩⟩; refine ⟨_, rfl, ?_⟩) | (go_at_call 47; (with_reducible refine (impl_KeyOk.calls k _ _ l0_1 true _ ?side1 ?side2 A30.out).mono ?_); (case side1 => exact kcb); (case side2 => exact HC0_1.out); rintro e w' ⟨rfl, ⟨nd, rfl⟩⟩) | (go_at_call 82; (with_reducible refine (impl_isValue.calls _ _ l0_2 true _ ?side1 ?side2 A32.out).mono ?_); (case side1 => exact kcb); (case side2 => exact HC0_2.out); rintro e w' ⟨rfl, ⟨nd, rfl⟩⟩))
     go_ret
     exact ⟨rz_, bel⟩
    replace c33 := Bool.eq_false_iff.mpr c33
    subst c33
    have H1 : (some false) = some r := by rw [if_neg (show ¬ (false = true) by decide)] at H; exact H
    clear H
    have H := H1
    clear H1
    obtain rfl := Option.some.inj H
    go_enter Try.func193, Try.ntmps193
    go_wp2_with (first | ((with_reducible refine gate_dst (N := 1) rfl ?_); (try (refine gate_guard (by rfl) ?_; dsimp only)); refine bx_ 1 #[.int .i64 a0_0, .slice A0_1 l0_1.length c0_1, .slice A0_2 l0_2.length c0_2, .int .i64 a0_3] 143 (h := ?_); intro gb112 hg w36 hbox hb; have BK112 := Aside0.mk (hbox); have GW112 := Aside0.mk ((by rw [hg]; exact (below_size bel) : w.heap.size ≤ gb112)); have GE112 := GW112; replace HB := Aside0.mk (below_step bel hb); clear hb hbox hg; obtain ⟨hcz37_0, hcz37_1, hcz37_2, hcz37_3, -⟩ := cells_4 BK112.out trivial; obtain ⟨hfz37_0, hfz37_1, hfz37_2, hfz37_3, -⟩ := frz_4 BK112.out) | ((with_reducible refine gate_callee (f := 81) rfl ?_); refine gl_ (some 29) Try.func81 #[.int .i64 a0_3, .int .i64 0, .int .i64 1000000] (h := ?_); (with_reducible refine (impl_within.calls a0_3 0 1000000 true _ A28.out).mono ?_); rintro e w' ⟨rfl, ⟨nd, rfl⟩⟩; refine ⟨_, rfl, ?_⟩) | (go_at_call 47; (with_reducible refine (impl_KeyOk.calls k _ _ l0_1 true _ ?side1 ?side2 A30.out).mono ?_); (case side1 => exact kcb); (case side2 => exact HC0_1.out); rintro e w' ⟨rfl, ⟨nd, rfl⟩⟩) | (go_at_call 82; (with_reducible refine (impl_isValue.calls _ _ l0_2 false _ ?side1 ?side2 A32.out).mono ?_); (case side1 => exact kcb); (case side2 => exact HC0_2.out); rintro e w' ⟨rfl, ⟨nd, rfl⟩⟩))
    go_ret
    exact ⟨rz_, bel⟩
   replace c31 := Bool.eq_false_iff.mpr c31
   subst c31
   have H1 : (some false) = some r := by rw [if_neg (show ¬ (false = true) by decide)] at H; exact H
   clear H
   have H := H1
   clear H1
   obtain rfl := Option.some.inj H
   go_enter Try.func193, Try.ntmps193
   go_wp2_with (first | ((with_reducible refine gate_dst (N := 1) rfl ?_); (try (refine gate_guard (by rfl) ?_; dsimp only)); refine bx_ 1 #[.int .i64 a0_0, .slice A0_1 l0_1.length c0_1, .slice A0_2 l0_2.length c0_2, .int .i64 a0_3] 143 (h := ?_); intro gb112 hg w38 hbox hb; have BK112 := Aside0.mk (hbox); have GW112 := Aside0.mk ((by rw [hg]; exact (below_size bel) : w.heap.size ≤ gb112)); have GE112 := GW112; replace HB := Aside0.mk (below_step bel hb); clear hb hbox hg; obtain ⟨hcz39_0, hcz39_1, hcz39_2, hcz39_3, -⟩ := cells_4 BK112.out trivial; obtain ⟨hfz39_0, hfz39_1, hfz39_2, hfz39_3, -⟩ := frz_4 BK112.out) | ((with_reducible refine gate_callee (f := 81) rfl ?_); refine gl_ (some 29) Try.func81 #[.int .i64 a0_3, .int .i64 0, .int .i64 1000000] (h := ?_); (with_reducible refine (impl_within.calls a0_3 0 1000000 true _ A28.out).mono ?_); rintro e w' ⟨rfl, ⟨nd, rfl⟩⟩; refine ⟨_, rfl, ?_⟩) | (go_at_call 47; (with_reducible refine (impl_KeyOk.calls k _ _ l0_1 false _ ?side1 ?side2 A30.out).mono ?_); (case side1 => exact kcb); (case side2 => exact HC0_1.out); rintro e w' ⟨rfl, ⟨nd, rfl⟩⟩))
   go_ret
   exact ⟨rz_, bel⟩
  replace c29 := Bool.eq_false_iff.mpr c29
  subst c29
  have H1 : (some false) = some r := by rw [if_neg (show ¬ (false = true) by decide)] at H; exact H
  clear H
  have H := H1
  clear H1
  obtain rfl := Option.some.inj H
  go_enter Try.func193, Try.ntmps193
  go_wp2_with (first | ((with_reducible refine gate_dst (N := 1) rfl ?_); (try (refine gate_guard (by rfl) ?_; dsimp only)); refine bx_ 1 #[.int .i64 a0_0, .slice A0_1 l0_1.length c0_1, .slice A0_2 l0_2.length c0_2, .int .i64 a0_3] 143 (h := ?_); intro gb112 hg w40 hbox hb; have BK112 := Aside0.mk (hbox); have GW112 := Aside0.mk ((by rw [hg]; exact (below_size bel) : w.heap.size ≤ gb112)); have GE112 := GW112; replace HB := Aside0.mk (below_step bel hb); clear hb hbox hg; obtain ⟨hcz41_0, hcz41_1, hcz41_2, hcz41_3, -⟩ := cells_4 BK112.out trivial; obtain ⟨hfz41_0, hfz41_1, hfz41_2, hfz41_3, -⟩ := frz_4 BK112.out) | ((with_reducible refine gate_callee (f := 81) rfl ?_); refine gl_ (some 29) Try.func81 #[.int .i64 a0_3, .int .i64 0, .int .i64 1000000] (h := ?_); (with_reducible refine (impl_within.calls a0_3 0 1000000 false _ A28.out).mono ?_); rintro e w' ⟨rfl, ⟨nd, rfl⟩⟩; refine ⟨_, rfl, ?_⟩))
  go_ret
  exact ⟨rz_, bel⟩
 rw [if_neg c27] at H
 have c27b0 : (a0_0 == 2) = false := beq_eq_false_iff_ne.mpr c27
 have c27b1 : (a0_0 != 2) = true := bne_iff_ne.mpr c27
 by_cases c42 : a0_0 = 3
 ·rw [if_pos c42] at H
  have c42b0 : (a0_0 == 3) = true := beq_iff_eq.mpr c42
  have c42b1 : (a0_0 != 3) = false := bne_eq_false_iff_eq.mpr c42
  clear c42
  replace H := Option.bind_eq_some_iff.mp H
  obtain ⟨t120, A430, H⟩ := H
  replace H : (if t120 = true then ((impl_KeyOk.f k l0_1).bind fun t121 => (if t121 = true then (some ((l0_2.length : Int) == 0)) else (some false))) else (some false)) = some r := H
  have A43 := Aside0.mk A430
  clear A430
  by_cases c44 : t120 = true
  ·subst c44
   have H1 : ((impl_KeyOk.f k l0_1).bind fun t121 => (if t121 = true then (some ((l0_2.length : Int) == 0)) else (some false))) = some r := by rw [if_pos rfl] at H; exact H
   clear H
   have H := H1
   clear H1
   replace H := Option.bind_eq_some_iff.mp H
   obtain ⟨t121, A450, H⟩ := H
   replace H : (if t121 = true then (some ((l0_2.length : Int) == 0)) else (some false)) = some r := H
   have A45 := Aside0.mk A450
   clear A450
   by_cases c46 : t121 = true
   ·subst c46
    have H1 : (some ((l0_2.length : Int) == 0)) = some r := by rw [if_pos rfl] at H; exact H
    clear H
    have H := H1
    clear H1
    obtain rfl := Option.some.inj H
    go_enter Try.func193, Try.ntmps193
    go_wp2_with (first | ((with_reducible refine gate_dst (N := 1) rfl ?_); (try (refine gate_guard (by rfl) ?_; dsimp only)); refine bx_ 1 #[.int .i64 a0_0, .slice A0_1 l0_1.length c0_1, .slice A0_2 l0_2.length c0_2, .int .i64 a0_3] 143 (h := ?_); intro gb112 hg w47 hbox hb; have BK112 := Aside0.mk (hbox); have GW112 := Aside0.mk ((by rw [hg]; exact (below_size bel) : w.heap.size ≤ gb112)); have GE112 := GW112; replace HB := Aside0.mk (below_step bel hb); clear hb hbox hg; obtain ⟨hcz48_0, hcz48_1, hcz48_2, hcz48_3, -⟩ := cells_4 BK112.out trivial; obtain ⟨hfz48_0, hfz48_1, hfz48_2, hfz48_3, -⟩ := frz_4 BK112.out) | ((with_reducible refine gate_callee (f := 81) rfl ?_); refine gl_ (some 29) Try.func81 #[.int .i64 a0_3, .int .i64 0, .int .i64 0] (h := ?_); (with_reducible refine (impl_within.calls a0_3 0 0 true _ A43.out).mono ?_); rintro e w' ⟨rfl, ⟨nd, rfl⟩⟩; refine ⟨_, rfl, ?_⟩) | (go_at_call 47; (with_reducible refine (impl_KeyOk.calls k _ _ l0_1 true _ ?side1 ?side2 A45.out).mono ?_); (case side1 => exact kcb); (case side2 => exact HC0_1.out); rintro e w' ⟨rfl, ⟨nd, rfl⟩⟩))
    go_ret
    exact ⟨rz_, bel⟩
   replace c46 := Bool.eq_false_iff.mpr c46
   subst c46
   have H1 : (some false) = some r := by rw [if_neg (show ¬ (false = true) by decide)] at H; exact H
   clear H
   have H := H1
   clear H1
   obtain rfl := Option.some.inj H
   go_enter Try.func193, Try.ntmps193
   go_wp2_with (first | ((with_reducible refine gate_dst (N := 1) rfl ?_); (try (refine gate_guard (by rfl) ?_; dsimp only)); refine bx_ 1 #[.int .i64 a0_0, .slice A0_1 l0_1.length c0_1, .slice A0_2 l0_2.length c0_2, .int .i64 a0_3] 143 (h := ?_); intro gb112 hg w49 hbox hb; have BK112 := Aside0.mk (hbox); have GW112 := Aside0.mk ((by rw [hg]; exact (below_size bel) : w.heap.size ≤ gb112)); have GE112 := GW112; replace HB := Aside0.mk (below_step bel hb); clear hb hbox hg; obtain ⟨hcz50_0, hcz50_1, hcz50_2, hcz50_3, -⟩ := cells_4 BK112.out trivial; obtain ⟨hfz50_0, hfz50_1, hfz50_2, hfz50_3, -⟩ := frz_4 BK112.out) | ((with_reducible refine gate_callee (f := 81) rfl ?_); refine gl_ (some 29) Try.func81 #[.int .i64 a0_3, .int .i64 0, .int .i64 0] (h := ?_); (with_reducible refine (impl_within.calls a0_3 0 0 true _ A43.out).mono ?_); rintro e w' ⟨rfl, ⟨nd, rfl⟩⟩; refine ⟨_, rfl, ?_⟩) | (go_at_call 47; (with_reducible refine (impl_KeyOk.calls k _ _ l0_1 false _ ?side1 ?side2 A45.out).mono ?_); (case side1 => exact kcb); (case side2 => exact HC0_1.out); rintro e w' ⟨rfl, ⟨nd, rfl⟩⟩))
   go_ret
   exact ⟨rz_, bel⟩
  replace c44 := Bool.eq_false_iff.mpr c44
  subst c44
  have H1 : (some false) = some r := by rw [if_neg (show ¬ (false = true) by decide)] at H; exact H
  clear H
  have H := H1
  clear H1
  obtain rfl := Option.some.inj H
  go_enter Try.func193, Try.ntmps193
  go_wp2_with (first | ((with_reducible refine gate_dst (N := 1) rfl ?_); (try (refine gate_guard (by rfl) ?_; dsimp only)); refine bx_ 1 #[.int .i64 a0_0, .slice A0_1 l0_1.length c0_1, .slice A0_2 l0_2.length c0_2, .int .i64 a0_3] 143 (h := ?_); intro gb112 hg w51 hbox hb; have BK112 := Aside0.mk (hbox); have GW112 := Aside0.mk ((by rw [hg]; exact (below_size bel) : w.heap.size ≤ gb112)); have GE112 := GW112; replace HB := Aside0.mk (below_step bel hb); clear hb hbox hg; obtain ⟨hcz52_0, hcz52_1, hcz52_2, hcz52_3, -⟩ := cells_4 BK112.out trivial; obtain ⟨hfz52_0, hfz52_1, hfz52_2, hfz52_3, -⟩ := frz_4 BK112.out) | ((with_reducible refine gate_callee (f := 81) rfl ?_); refine gl_ (some 29) Try.func81 #[.int .i64 a0_3, .int .i64 0, .int .i64 0] (h := ?_); (with_reducible refine (impl_within.calls a0_3 0 0 false _ A43.out).mono ?_); rintro e w' ⟨rfl, ⟨nd, rfl⟩⟩; refine ⟨_, rfl, ?_⟩))
  go_ret
  exact ⟨rz_, bel⟩
 rw [if_neg c42] at H
 have c42b0 : (a0_0 == 3) = false := beq_eq_false_iff_ne.mpr c42
 have c42b1 : (a0_0 != 3) = true := bne_iff_ne.mpr c42
 by_cases c53 : a0_0 = 4
 ·rw [if_pos c53] at H
  have c53b0 : (a0_0 == 4) = true := beq_iff_eq.mpr c53
  have c53b1 : (a0_0 != 4) = false := bne_eq_false_iff_eq.mpr c53
  clear c53
  replace H := Option.bind_eq_some_iff.mp H
  obtain ⟨t122, A540, H⟩ := H
  replace H : (if t122 = true then (if (l0_1.length : Int) = 0 then (some ((l0_2.length : Int) == 0)) else (some false)) else (some false)) = some r := H
  have A54 := Aside0.mk A540
  clear A540
  by_cases c55 : t122 = true
  ·subst c55
   have H1 : (if (l0_1.length : Int) = 0 then (some ((l0_2.length : Int) == 0)) else (some false)) = some r := by rw [if_pos rfl] at H; exact H
   clear H
   have H := H1
   clear H1
   by_cases c56 : (l0_1.length : Int) = 0
   ·rw [if_pos c56] at H
    have c56b0 : ((l0_1.length : Int) == 0) = true := beq_iff_eq.mpr c56
    have c56b1 : ((l0_1.length : Int) != 0) = false := bne_eq_false_iff_eq.mpr c56
    clear c56
    obtain rfl := Option.some.inj H
    go_enter Try.func193, Try.ntmps193
    go_wp2_with (first | ((with_reducible refine gate_dst (N := 1) rfl ?_); (try (refine gate_guard (by rfl) ?_; dsimp only)); refine bx_ 1 #[.int .i64 a0_0, .slice A0_1 l0_1.length c0_1, .slice A0_2 l0_2.length c0_2, .int .i64 a0_3] 143 (h := ?_); intro gb112 hg w57 hbox hb; have BK112 := Aside0.mk (hbox); have GW112 := Aside0.mk ((by rw [hg]; exact (below_size bel) : w.heap.size ≤ gb112)); have GE112 := GW112; replace HB := Aside0.mk (below_step bel hb); clear hb hbox hg; obtain ⟨hcz58_0, hcz58_1, hcz58_2, hcz58_3, -⟩ := cells_4 BK112.out trivial; obtain ⟨hfz58_0, hfz58_1, hfz58_2, hfz58_3, -⟩ := frz_4 BK112.out) | ((with_reducible refine gate_callee (f := 81) rfl ?_); refine gl_ (some 29) Try.func81 #[.int .i64 a0_3, .int .i64 0, .int .i64 1] (h := ?_); (with_reducible refine (impl_within.calls a0_3 0 1 true _ A54.out).mono ?_); rintro e w' ⟨rfl, ⟨nd, rfl⟩⟩; refine ⟨_, rfl, ?_⟩))
    go_ret
    exact ⟨rz_, bel⟩
   rw [if_neg c56] at H
   have c56b0 : ((l0_1.length : Int) == 0) = false := beq_eq_false_iff_ne.mpr c56
   have c56b1 : ((l0_1.length : Int) != 0) = true := bne_iff_ne.mpr c56
   have c56b2 : ¬ (l0_1 = []) := fun h_ => c56 (by rw [h_]; rfl)
   obtain rfl := Option.some.inj H
   go_enter Try.func193, Try.ntmps193
   go_wp2_with (first | ((with_reducible refine gate_dst (N := 1) rfl ?_); (try (refine gate_guard (by rfl) ?_; dsimp only)); refine bx_ 1 #[.int .i64 a0_0, .slice A0_1 l0_1.length c0_1, .slice A0_2 l0_2.length c0_2, .int .i64 a0_3] 143 (h := ?_); intro gb112 hg w59 hbox hb; have BK112 := Aside0.mk (hbox); have GW112 := Aside0.mk ((by rw [hg]; exact (below_size bel) : w.heap.size ≤ gb112)); have GE112 := GW112; replace HB := Aside0.mk (below_step bel hb); clear hb hbox hg; obtain ⟨hcz60_0, hcz60_1, hcz60_2, hcz60_3, -⟩ := cells_4 BK112.out trivial; obtain ⟨hfz60_0, hfz60_1, hfz60_2, hfz60_3, -⟩ := frz_4 BK112.out) | ((with_reducible refine gate_callee (f := 81) rfl ?_); refine gl_ (some 29) Try.func81 #[.int .i64 a0_3, .int .i64 0, .int .i64 1] (h := ?_); (with_reducible refine (impl_within.calls a0_3 0 1 true _ A54.out).mono ?_); rintro e w' ⟨rfl, ⟨nd, rfl⟩⟩; refine ⟨_, rfl, ?_⟩))
   go_ret
   exact ⟨rz_, bel⟩
  replace c55 := Bool.eq_false_iff.mpr c55
  subst c55
  have H1 : (some false) = some r := by rw [if_neg (show ¬ (false = true) by decide)] at H; exact H
  clear H
  have H := H1
  clear H1
  obtain rfl := Option.some.inj H
  go_enter Try.func193, Try.ntmps193
  go_wp2_with (first | ((with_reducible refine gate_dst (N := 1) rfl ?_); (try (refine gate_guard (by rfl) ?_; dsimp only)); refine bx_ 1 #[.int .i64 a0_0, .slice A0_1 l0_1.length c0_1, .slice A0_2 l0_2.length c0_2, .int .i64 a0_3] 143 (h := ?_); intro gb112 hg w61 hbox hb; have BK112 := Aside0.mk (hbox); have GW112 := Aside0.mk ((by rw [hg]; exact (below_size bel) : w.heap.size ≤ gb112)); have GE112 := GW112; replace HB := Aside0.mk (below_step bel hb); clear hb hbox hg; obtain ⟨hcz62_0, hcz62_1, hcz62_2, hcz62_3, -⟩ := cells_4 BK112.out trivial; obtain ⟨hfz62_0, hfz62_1, hfz62_2, hfz62_3, -⟩ := frz_4 BK112.out) | ((with_reducible refine gate_callee (f := 81) rfl ?_); refine gl_ (some 29) Try.func81 #[.int .i64 a0_3, .int .i64 0, .int .i64 1] (h := ?_); (with_reducible refine (impl_within.calls a0_3 0 1 false _ A54.out).mono ?_); rintro e w' ⟨rfl, ⟨nd, rfl⟩⟩; refine ⟨_, rfl, ?_⟩))
  go_ret
  exact ⟨rz_, bel⟩
 rw [if_neg c53] at H
 have c53b0 : (a0_0 == 4) = false := beq_eq_false_iff_ne.mpr c53
 have c53b1 : (a0_0 != 4) = true := bne_iff_ne.mpr c53
 by_cases c63 : a0_0 = 5
 ·rw [if_pos c63] at H
  have c63b0 : (a0_0 == 5) = true := beq_iff_eq.mpr c63
  have c63b1 : (a0_0 != 5) = false := bne_eq_false_iff_eq.mpr c63
  clear c63
  replace H := Option.bind_eq_some_iff.mp H
  obtain ⟨t123, A640, H⟩ := H
  replace H : (if t123 = true then (if (l0_1.length : Int) = 0 then (some ((l0_2.length : Int) == 0)) else (some false)) else (some false)) = some r := H
  have A64 := Aside0.mk A640
  clear A640
  by_cases c65 : t123 = true
  ·subst c65
   have H1 : (if (l0_1.length : Int) = 0 then (some ((l0_2.length : Int) == 0)) else (some false)) = some r := by rw [if_pos rfl] at H; exact H
   clear H
   have H := H1
   clear H1
   by_cases c66 : (l0_1.length : Int) = 0
   ·rw [if_pos c66] at H
    have c66b0 : ((l0_1.length : Int) == 0) = true := beq_iff_eq.mpr c66
    have c66b1 : ((l0_1.length : Int) != 0) = false := bne_eq_false_iff_eq.mpr c66
    clear c66
    obtain rfl := Option.some.inj H
    go_enter Try.func193, Try.ntmps193
    go_wp2_with (first | ((with_reducible refine gate_dst (N := 1) rfl ?_); (try (refine gate_guard (by rfl) ?_; dsimp only)); refine bx_ 1 #[.int .i64 a0_0, .slice A0_1 l0_1.length c0_1, .slice A0_2 l0_2.length c0_2, .int .i64 a0_3] 143 (h := ?_); intro gb112 hg w67 hbox hb; have BK112 := Aside0.mk (hbox); have GW112 := Aside0.mk ((by rw [hg]; exact (below_size bel) : w.heap.size ≤ gb112)); have GE112 := GW112; replace HB := Aside0.mk (below_step bel hb); clear hb hbox hg; obtain ⟨hcz68_0, hcz68_1, hcz68_2, hcz68_3, -⟩ := cells_4 BK112.out trivial; obtain ⟨hfz68_0, hfz68_1, hfz68_2, hfz68_3, -⟩ := frz_4 BK112.out) | ((with_reducible refine gate_callee (f := 81) rfl ?_); refine gl_ (some 29) Try.func81 #[.int .i64 a0_3, .int .i64 1, .int .i64 1000000] (h := ?_); (with_reducible refine (impl_within.calls a0_3 1 1000000 true _ A64.out).mono ?_); rintro e w' ⟨rfl, ⟨nd, rfl⟩⟩; refine ⟨_, rfl, ?_⟩))
    go_ret
    exact ⟨rz_, bel⟩
   rw [if_neg c66] at H
   have c66b0 : ((l0_1.length : Int) == 0) = false := beq_eq_false_iff_ne.mpr c66
   have c66b1 : ((l0_1.length : Int) != 0) = true := bne_iff_ne.mpr c66
   have c66b2 : ¬ (l0_1 = []) := fun h_ => c66 (by rw [h_]; rfl)
   obtain rfl := Option.some.inj H
   go_enter Try.func193, Try.ntmps193
   go_wp2_with (first | ((with_reducible refine gate_dst (N := 1) rfl ?_); (try (refine gate_guard (by rfl) ?_; dsimp only)); refine bx_ 1 #[.int .i64 a0_0, .slice A0_1 l0_1.length c0_1, .slice A0_2 l0_2.length c0_2, .int .i64 a0_3] 143 (h := ?_); intro gb112 hg w69 hbox hb; have BK112 := Aside0.mk (hbox); have GW112 := Aside0.mk ((by rw [hg]; exact (below_size bel) : w.heap.size ≤ gb112)); have GE112 := GW112; replace HB := Aside0.mk (below_step bel hb); clear hb hbox hg; obtain ⟨hcz70_0, hcz70_1, hcz70_2, hcz70_3, -⟩ := cells_4 BK112.out trivial; obtain ⟨hfz70_0, hfz70_1, hfz70_2, hfz70_3, -⟩ := frz_4 BK112.out) | ((with_reducible refine gate_callee (f := 81) rfl ?_); refine gl_ (some 29) Try.func81 #[.int .i64 a0_3, .int .i64 1, .int .i64 1000000] (h := ?_); (with_reducible refine (impl_within.calls a0_3 1 1000000 true _ A64.out).mono ?_); rintro e w' ⟨rfl, ⟨nd, rfl⟩⟩; refine ⟨_, rfl, ?_⟩))
   go_ret
   exact ⟨rz_, bel⟩
  replace c65 := Bool.eq_false_iff.mpr c65
  subst c65
  have H1 : (some false) = some r := by rw [if_neg (show ¬ (false = true) by decide)] at H; exact H
  clear H
  have H := H1
  clear H1
  obtain rfl := Option.some.inj H
  go_enter Try.func193, Try.ntmps193
  go_wp2_with (first | ((with_reducible refine gate_dst (N := 1) rfl ?_); (try (refine gate_guard (by rfl) ?_; dsimp only)); refine bx_ 1 #[.int .i64 a0_0, .slice A0_1 l0_1.length c0_1, .slice A0_2 l0_2.length c0_2, .int .i64 a0_3] 143 (h := ?_); intro gb112 hg w71 hbox hb; have BK112 := Aside0.mk (hbox); have GW112 := Aside0.mk ((by rw [hg]; exact (below_size bel) : w.heap.size ≤ gb112)); have GE112 := GW112; replace HB := Aside0.mk (below_step bel hb); clear hb hbox hg; obtain ⟨hcz72_0, hcz72_1, hcz72_2, hcz72_3, -⟩ := cells_4 BK112.out trivial; obtain ⟨hfz72_0, hfz72_1, hfz72_2, hfz72_3, -⟩ := frz_4 BK112.out) | ((with_reducible refine gate_callee (f := 81) rfl ?_); refine gl_ (some 29) Try.func81 #[.int .i64 a0_3, .int .i64 1, .int .i64 1000000] (h := ?_); (with_reducible refine (impl_within.calls a0_3 1 1000000 false _ A64.out).mono ?_); rintro e w' ⟨rfl, ⟨nd, rfl⟩⟩; refine ⟨_, rfl, ?_⟩))
  go_ret
  exact ⟨rz_, bel⟩
 rw [if_neg c63] at H
 have c63b0 : (a0_0 == 5) = false := beq_eq_false_iff_ne.mpr c63
 have c63b1 : (a0_0 != 5) = true := bne_iff_ne.mpr c63
 by_cases c73 : a0_0 = 6
 ·rw [if_pos c73] at H
  have c73b0 : (a0_0 == 6) = true := beq_iff_eq.mpr c73
  have c73b1 : (a0_0 != 6) = false := bne_eq_false_iff_eq.mpr c73
  clear c73
  replace H := Option.bind_eq_some_iff.mp H
  obtain ⟨t124, A740, H⟩ := H
  replace H : (if t124 = true then ((impl_KeyOk.f k l0_1).bind fun t125 => (if t125 = true then ((impl_isValue.f l0_2).bind fun t126 => (if t126 = true then (some true) else (some false))) else (some false))) else (some false)) = some r := H
  have A74 := Aside0.mk A740
  clear A740
  by_cases c75 : t124 = true
  ·subst c75
   have H1 : ((impl_KeyOk.f k l0_1).bind fun t125 => (if t125 = true then ((impl_isValue.f l0_2).bind fun t126 => (if t126 = true then (some true) else (some false))) else (some false))) = some r := by rw [if_pos rfl] at H; exact H
   clear H
   have H := H1
   clear H1
   replace H := Option.bind_eq_some_iff.mp H
   obtain ⟨t125, A760, H⟩ := H
   replace H : (if t125 = true then ((impl_isValue.f l0_2).bind fun t126 => (if t126 = true then (some true) else (some false))) else (some false)) = some r := H
   have A76 := Aside0.mk A760
   clear A760
   by_cases c77 : t125 = true
   ·subst c77
    have H1 : ((impl_isValue.f l0_2).bind fun t126 => (if t126 = true then (some true) else (some false))) = some r := by rw [if_pos rfl] at H; exact H
    clear H
    have H := H1
    clear H1
    replace H := Option.bind_eq_some_iff.mp H
    obtain ⟨t126, A780, H⟩ := H
    replace H : (if t126 = true then (some true) else (some false)) = some r := H
    have A78 := Aside0.mk A780
    clear A780
    by_cases c79 : t126 = true
    ·subst c79
     have H1 : (some true) = some r := by rw [if_pos rfl] at H; exact H
     clear H
     have H := H1
     clear H1
     obtain rfl := Option.some.inj H
     go_enter Try.func193, Try.ntmps193
     go_wp2_with (first | ((with_reducible refine gate_dst (N := 1) rfl ?_); (try (refine gate_guard (by rfl) ?_; dsimp only)); refine bx_ 1 #[.int .i64 a0_0, .slice A0_1 l0_1.length c0_1, .slice A0_2 l0_2.length c0_2, .int .i64 a0_3] 143 (h := ?_); intro gb112 hg w80 hbox hb; have BK112 := Aside0.mk (hbox); have GW112 := Aside0.mk ((by rw [hg]; exact (below_size bel) : w.heap.size ≤ gb112)); have GE112 := GW112; replace HB := Aside0.mk (below_step bel hb); clear hb hbox hg; obtain ⟨hcz81_0, hcz81_1, hcz81_2, hcz81_3, -⟩ := cells_4 BK112.out trivial; obtain ⟨hfz81_0, hfz81_1, hfz81_2, hfz81_3, -⟩ := frz_4 BK112.out) | ((with_reducible refine gate_callee (f := 81) rfl ?_); refine gl_ (some 29) Try.func81 #[.int .i64 a0_3, .int .i64 1, .int .i64 1000000] (h := ?_); (with_reducible refine (impl_within.calls a0_3 1 1000000 true _ A74.out).mono ?_); rintro e w' ⟨rfl, ⟨nd, rfl⟩⟩; refine ⟨_, rfl, ?_⟩) | (go_at_call 47; (with_reducible refine (impl_KeyOk.calls k _ _ l0_1 true _ ?side1 ?side2 A76.out).mono ?_); (case side1 => exact kcb); (case side2 => exact HC0_1.out); rintro e w' ⟨rfl, ⟨nd, rfl⟩⟩) | (go_at_call 82; (with_reducible refine (impl_isValue.calls _ _ l0_2 true _ ?side1 ?side2 A78.out).mono ?_); (case side1 => exact kcb); (case side2 => exact HC0_2.out); rintro e w' ⟨rfl, ⟨nd, rfl⟩⟩))
     go_ret
     exact ⟨rz_, bel⟩
    replace c79 := Bool.eq_false_iff.mpr c79
    subst c79
    have H1 : (some false) = some r := by rw [if_neg (show ¬ (false = true) by decide)] at H; exact H
    clear H
    have H := H1
    clear H1
    obtain rfl := Option.some.inj H
    go_enter Try.func193, Try.ntmps193
    go_wp2_with (first | ((with_reducible refine gate_dst (N := 1) rfl ?_); (try (refine gate_guard (by rfl) ?_; dsimp only)); refine bx_ 1 #[.int .i64 a0_0, .slice A0_1 l0_1.length c0_1, .slice A0_2 l0_2.length c0_2, .int .i64 a0_3] 143 (h := ?_); intro gb112 hg w82 hbox hb; have BK112 := Aside0.mk (hbox); have GW112 := Aside0.mk ((by rw [hg]; exact (below_size bel) : w.heap.size ≤ gb112)); have GE112 := GW112; replace HB := Aside0.mk (below_step bel hb); clear hb hbox hg; obtain ⟨hcz83_0, hcz83_1, hcz83_2, hcz83_3, -⟩ := cells_4 BK112.out trivial; obtain ⟨hfz83_0, hfz83_1, hfz83_2, hfz83_3, -⟩ := frz_4 BK112.out) | ((with_reducible refine gate_callee (f := 81) rfl ?_); refine gl_ (some 29) Try.func81 #[.int .i64 a0_3, .int .i64 1, .int .i64 1000000] (h := ?_); (with_reducible refine (impl_within.calls a0_3 1 1000000 true _ A74.out).mono ?_); rintro e w' ⟨rfl, ⟨nd, rfl⟩⟩; refine ⟨_, rfl, ?_⟩) | (go_at_call 47; (with_reducible refine (impl_KeyOk.calls k _ _ l0_1 true _ ?side1 ?side2 A76.out).mono ?_); (case side1 => exact kcb); (case side2 => exact HC0_1.out); rintro e w' ⟨rfl, ⟨nd, rfl⟩⟩) | (go_at_call 82; (with_reducible refine (impl_isValue.calls _ _ l0_2 false _ ?side1 ?side2 A78.out).mono ?_); (case side1 => exact kcb); (case side2 => exact HC0_2.out); rintro e w' ⟨rfl, ⟨nd, rfl⟩⟩))
    go_ret
    exact ⟨rz_, bel⟩
   replace c77 := Bool.eq_false_iff.mpr c77
   subst c77
   have H1 : (some false) = some r := by rw [if_neg (show ¬ (false = true) by decide)] at H; exact H
   clear H
   have H := H1
   clear H1
   obtain rfl := Option.some.inj H
   go_enter Try.func193, Try.ntmps193
   go_wp2_with (first | ((with_reducible refine gate_dst (N := 1) rfl ?_); (try (refine gate_guard (by rfl) ?_; dsimp only)); refine bx_ 1 #[.int .i64 a0_0, .slice A0_1 l0_1.length c0_1, .slice A0_2 l0_2.length c0_2, .int .i64 a0_3] 143 (h := ?_); intro gb112 hg w84 hbox hb; have BK112 := Aside0.mk (hbox); have GW112 := Aside0.mk ((by rw [hg]; exact (below_size bel) : w.heap.size ≤ gb112)); have GE112 := GW112; replace HB := Aside0.mk (below_step bel hb); clear hb hbox hg; obtain ⟨hcz85_0, hcz85_1, hcz85_2, hcz85_3, -⟩ := cells_4 BK112.out trivial; obtain ⟨hfz85_0, hfz85_1, hfz85_2, hfz85_3, -⟩ := frz_4 BK112.out) | ((with_reducible refine gate_callee (f := 81) rfl ?_); refine gl_ (some 29) Try.func81 #[.int .i64 a0_3, .int .i64 1, .int .i64 1000000] (h := ?_); (with_reducible refine (impl_within.calls a0_3 1 1000000 true _ A74.out).mono ?_); rintro e w' ⟨rfl, ⟨nd, rfl⟩⟩; refine ⟨_, rfl, ?_⟩) | (go_at_call 47; (with_reducible refine (impl_KeyOk.calls k _ _ l0_1 false _ ?side1 ?side2 A76.out).mono ?_); (case side1 => exact kcb); (case side2 => exact HC0_1.out); rintro e w' ⟨rfl, ⟨nd, rfl⟩⟩))
   go_ret
   exact ⟨rz_, bel⟩
  replace c75 := Bool.eq_false_iff.mpr c75
  subst c75
  have H1 : (some false) = some r := by rw [if_neg (show ¬ (false = true) by decide)] at H; exact H
  clear H
  have H := H1
  clear H1
  obtain rfl := Option.some.inj H
  go_enter Try.func193, Try.ntmps193
  go_wp2_with (first | ((with_reducible refine gate_dst (N := 1) rfl ?_); (try (refine gate_guard (by rfl) ?_; dsimp only)); refine bx_ 1 #[.int .i64 a0_0, .slice A0_1 l0_1.length c0_1, .slice A0_2 l0_2.length c0_2, .int .i64 a0_3] 143 (h := ?_); intro gb112 hg w86 hbox hb; have BK112 := Aside0.mk (hbox); have GW112 := Aside0.mk ((by rw [hg]; exact (below_size bel) : w.heap.size ≤ gb112)); have GE112 := GW112; replace HB := Aside0.mk (below_step bel hb); clear hb hbox hg; obtain ⟨hcz87_0, hcz87_1, hcz87_2, hcz87_3, -⟩ := cells_4 BK112.out trivial; obtain ⟨hfz87_0, hfz87_1, hfz87_2, hfz87_3, -⟩ := frz_4 BK112.out) | ((with_reducible refine gate_callee (f := 81) rfl ?_); refine gl_ (some 29) Try.func81 #[.int .i64 a0_3, .int .i64 1, .int .i64 1000000] (h := ?_); (with_reducible refine (impl_within.calls a0_3 1 1000000 false _ A74.out).mono ?_); rintro e w' ⟨rfl, ⟨nd, rfl⟩⟩; refine ⟨_, rfl, ?_⟩))
  go_ret
  exact ⟨rz_, bel⟩
 rw [if_neg c73] at H
 have c73b0 : (a0_0 == 6) = false := beq_eq_false_iff_ne.mpr c73
 have c73b1 : (a0_0 != 6) = true := bne_iff_ne.mpr c73
 by_cases c88 : a0_0 = 7
 ·rw [if_pos c88] at H
  have c88b0 : (a0_0 == 7) = true := beq_iff_eq.mpr c88
  have c88b1 : (a0_0 != 7) = false := bne_eq_false_iff_eq.mpr c88
  clear c88
  replace H := Option.bind_eq_some_iff.mp H
  obtain ⟨t127, A890, H⟩ := H
  replace H : (if t127 = true then ((impl_KeyOk.f k l0_1).bind fun t128 => (if t128 = true then (some ((l0_2.length : Int) == 0)) else (some false))) else (some false)) = some r := H
  have A89 := Aside0.mk A890
  clear A890
  by_cases c90 : t127 = true
  ·subst c90
   have H1 : ((impl_KeyOk.f k l0_1).bind fun t128 => (if t128 = true then (some ((l0_2.length : Int) == 0)) else (some false))) = some r := by rw [if_pos rfl] at H; exact H
   clear H
   have H := H1
   clear H1
   replace H := Option.bind_eq_some_iff.mp H
   obtain ⟨t128, A910, H⟩ := H
   replace H : (if t128 = true then (some ((l0_2.length : Int) == 0)) else (some false)) = some r := H
   have A91 := Aside0.mk A910
   clear A910
   by_cases c92 : t128 = true
   ·subst c92
    have H1 : (some ((l0_2.length : Int) == 0)) = some r := by rw [if_pos rfl] at H; exact H
    clear H
    have H := H1
    clear H1
    obtain rfl := Option.some.inj H
    go_enter Try.func193, Try.ntmps193
    go_wp2_with (first | ((with_reducible refine gate_dst (N := 1) rfl ?_); (try (refine gate_guard (by rfl) ?_; dsimp only)); refine bx_ 1 #[.int .i64 a0_0, .slice A0_1 l0_1.length c0_1, .slice A0_2 l0_2.length c0_2, .int .i64 a0_3] 143 (h := ?_); intro gb112 hg w93 hbox hb; have BK112 := Aside0.mk (hbox); have GW112 := Aside0.mk ((by rw [hg]; exact (below_size bel) : w.heap.size ≤ gb112)); have GE112 := GW112; replace HB := Aside0.mk (below_step bel hb); clear hb hbox hg; obtain ⟨hcz94_0, hcz94_1, hcz94_2, hcz94_3, -⟩ := cells_4 BK112.out trivial; obtain ⟨hfz94_0, hfz94_1, hfz94_2, hfz94_3, -⟩ := frz_4 BK112.out) | ((with_reducible refine gate_callee (f := 81) rfl ?_); refine gl_ (some 29) Try.func81 #[.int .i64 a0_3, .int .i64 1, .int .i64 1000000] (h := ?_); (with_reducible refine (impl_within.calls a0_3 1 1000000 true _ A89.out).mono ?_); rintro e w' ⟨rfl, ⟨nd, rfl⟩⟩; refine ⟨_, rfl, ?_⟩) | (go_at_call 47; (with_reducible refine (impl_KeyOk.calls k _ _ l0_1 true _ ?side1 ?side2 A91.out).mono ?_); (case side1 => exact kcb); (case side2 => exact HC0_1.out); rintro e w' ⟨rfl, ⟨nd, rfl⟩⟩))
    go_ret
    exact ⟨rz_, bel⟩
   replace c92 := Bool.eq_false_iff.mpr c92
   subst c92
   have H1 : (some false) = some r := by rw [if_neg (show ¬ (false = true) by decide)] at H; exact H
   clear H
   have H := H1
   clear H1
   obtain rfl := Option.some.inj H
   go_enter Try.func193, Try.ntmps193
   go_wp2_with (first | ((with_reducible refine gate_dst (N := 1) rfl ?_); (try (refine gate_guard (by rfl) ?_; dsimp only)); refine bx_ 1 #[.int .i64 a0_0, .slice A0_1 l0_1.length c0_1, .slice A0_2 l0_2.length c0_2, .int .i64 a0_3] 143 (h := ?_); intro gb112 hg w95 hbox hb; have BK112 := Aside0.mk (hbox); have GW112 := Aside0.mk ((by rw [hg]; exact (below_size bel) : w.heap.size ≤ gb112)); have GE112 := GW112; replace HB := Aside0.mk (below_step bel hb); clear hb hbox hg; obtain ⟨hcz96_0, hcz96_1, hcz96_2, hcz96_3, -⟩ := cells_4 BK112.out trivial; obtain ⟨hfz96_0, hfz96_1, hfz96_2, hfz96_3, -⟩ := frz_4 BK112.out) | ((with_reducible refine gate_callee (f := 81) rfl ?_); refine gl_ (some 29) Try.func81 #[.int .i64 a0_3, .int .i64 1, .int .i64 1000000] (h := ?_); (with_reducible refine (impl_within.calls a0_3 1 1000000 true _ A89.out).mono ?_); rintro e w' ⟨rfl, ⟨nd, rfl⟩⟩; refine ⟨_, rfl, ?_⟩) | (go_at_call 47; (with_reducible refine (impl_KeyOk.calls k _ _ l0_1 false _ ?side1 ?side2 A91.out).mono ?_); (case side1 => exact kcb); (case side2 => exact HC0_1.out); rintro e w' ⟨rfl, ⟨nd, rfl⟩⟩))
   go_ret
   exact ⟨rz_, bel⟩
  replace c90 := Bool.eq_false_iff.mpr c90
  subst c90
  have H1 : (some false) = some r := by rw [if_neg (show ¬ (false = true) by decide)] at H; exact H
  clear H
  have H := H1
  clear H1
  obtain rfl := Option.some.inj H
  go_enter Try.func193, Try.ntmps193
  go_wp2_with (first | ((with_reducible refine gate_dst (N := 1) rfl ?_); (try (refine gate_guard (by rfl) ?_; dsimp only)); refine bx_ 1 #[.int .i64 a0_0, .slice A0_1 l0_1.length c0_1, .slice A0_2 l0_2.length c0_2, .int .i64 a0_3] 143 (h := ?_); intro gb112 hg w97 hbox hb; have BK112 := Aside0.mk (hbox); have GW112 := Aside0.mk ((by rw [hg]; exact (below_size bel) : w.heap.size ≤ gb112)); have GE112 := GW112; replace HB := Aside0.mk (below_step bel hb); clear hb hbox hg; obtain ⟨hcz98_0, hcz98_1, hcz98_2, hcz98_3, -⟩ := cells_4 BK112.out trivial; obtain ⟨hfz98_0, hfz98_1, hfz98_2, hfz98_3, -⟩ := frz_4 BK112.out) | ((with_reducible refine gate_callee (f := 81) rfl ?_); refine gl_ (some 29) Try.func81 #[.int .i64 a0_3, .int .i64 1, .int .i64 1000000] (h := ?_); (with_reducible refine (impl_within.calls a0_3 1 1000000 false _ A89.out).mono ?_); rintro e w' ⟨rfl, ⟨nd, rfl⟩⟩; refine ⟨_, rfl, ?_⟩))
  go_ret
  exact ⟨rz_, bel⟩
 rw [if_neg c88] at H
 have c88b0 : (a0_0 == 7) = false := beq_eq_false_iff_ne.mpr c88
 have c88b1 : (a0_0 != 7) = true := bne_iff_ne.mpr c88
 obtain rfl := Option.some.inj H
 go_enter Try.func193, Try.ntmps193
 go_wp2_with (first | ((with_reducible refine gate_dst (N := 1) rfl ?_); (try (refine gate_guard (by rfl) ?_; dsimp only)); refine bx_ 1 #[.int .i64 a0_0, .slice A0_1 l0_1.length c0_1, .slice A0_2 l0_2.length c0_2, .int .i64 a0_3] 143 (h := ?_); intro gb112 hg w99 hbox hb; have BK112 := Aside0.mk (hbox); have GW112 := Aside0.mk ((by rw [hg]; exact (below_size bel) : w.heap.size ≤ gb112)); have GE112 := GW112; replace HB := Aside0.mk (below_step bel hb); clear hb hbox hg; obtain ⟨hcz100_0, hcz100_1, hcz100_2, hcz100_3, -⟩ := cells_4 BK112.out trivial; obtain ⟨hfz100_0, hfz100_1, hfz100_2, hfz100_3, -⟩ := frz_4 BK112.out))
 go_ret
 exact ⟨rz_, bel⟩

end Go.Proofs.Ytdgegnakiljfjaa.PM
