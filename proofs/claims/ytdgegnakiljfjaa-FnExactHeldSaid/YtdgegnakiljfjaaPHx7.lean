-- Written for this claim by the session's program pp.py, out of the kit's print and the seat's translation.
import Derived.Test.YtdgegnakiljfjaaPHx0
import Derived.Test.YtdgegnakiljfjaaPHx5
import Derived.Test.YtdgegnakiljfjaaPHx6
namespace Go.Proofs.Ytdgegnakiljfjaa.PH
open Go.RowKit Go.Proofs.YtdgegnakiljfjaaW.PrintWords Go.Proofs.YtdgegnakiljfjaaW.PrintLast Go.Proofs.YtdgegnakiljfjaaW.PrintMore
attribute [local go_sem] max2_int min2_int max_two min_two max_three min_three max_four min_four   -- for this text's walks alone
set_option linter.unusedVariables false
set_option linter.unusedSimpArgs false

/-! ### spec_Held: function 54 -/
mutual
def spec_Held.j0 : Nat → Int → List (List Int) → Bool → Int → List (S92) → List (S94) → Int → List (S109) → List (S75) → Option ((List (List Int)))
 | 0, _, _, _, _, _, _, _, _, _ => none
 | k + 1, x1, x5, x15, x266000, x266001, x266002, x266003, x266004, x266005 => if x15 = true then (some ([] : List (List Int))) else (spec_Held.l0 k x1 x5 0 x266000 x266001 x266002 x266003 x266004 x266005)
def spec_Held.l0 : Nat → Int → List (List Int) → Int → Int → List (S92) → List (S94) → Int → List (S109) → List (S75) → Option ((List (List Int)))
 | 0, _, _, _, _, _, _, _, _, _ => none
 | k + 1, x1, x5, x6, x266000, x266001, x266002, x266003, x266004, x266005 => if x6 < (x266001.length : Int) then (if 0 ≤ x6 then (if ((rd_T92 x266001 x6).f3) = x1 then ((some (([] : List Int) : List Int)).bind fun y269 => (if y269.length + ((rd_T92 x266001 x6).f0).length < 140737488355328 then (if x5.length < 5864062014805 then (spec_Held.l0 k x1 (x5 ++ [(y269 ++ ((rd_T92 x266001 x6).f0))]) (wrap64 (x6 + 1)) x266000 x266001 x266002 x266003 x266004 x266005) else (none)) else (none))) else (spec_Held.l0 k x1 x5 (wrap64 (x6 + 1)) x266000 x266001 x266002 x266003 x266004 x266005)) else (none)) else (some x5)
end
def spec_Held.f (k : Nat) (a0_0 : Int) (l0_1 : List (S92)) (l0_2 : List (S94)) (a0_3 : Int) (l0_4 : List (S109)) (l0_5 : List (S75)) (a1 : Int) : Option ((List (List Int))) := (spec_StateOk.f k a0_0 l0_1 l0_2 a0_3 l0_4 l0_5).bind fun t266 => (if t266 = true then ((spec_l2sess.f k a0_0 l0_1 l0_2 a0_3 l0_4 l0_5 a1).bind fun t267 => (spec_Held.j0 k a1 ([] : List (List Int)) (decide (t267 < 0)) a0_0 l0_1 l0_2 a0_3 l0_4 l0_5)) else (spec_Held.j0 k a1 ([] : List (List Int)) true a0_0 l0_1 l0_2 a0_3 l0_4 l0_5))
set_option maxHeartbeats 8000000 in
set_option maxRecDepth 100000 in
theorem spec_Held.calls (k : Nat) (a0_0 : Int) (A0_1 : Option Addr) (c0_1 : Nat) (l0_1 : List (S92)) (A0_2 : Option Addr) (c0_2 : Nat) (l0_2 : List (S94)) (a0_3 : Int) (A0_4 : Option Addr) (c0_4 : Nat) (l0_4 : List (S109)) (A0_5 : Option Addr) (c0_5 : Nat) (l0_5 : List (S75)) (a1 : Int) (r : List (List Int)) (w : World) (hr0_1 : Kd.C k92 w A0_1 l0_1.length l0_1) (hc0_1 : l0_1.length ≤ c0_1) (hr0_2 : Kd.C k94 w A0_2 l0_2.length l0_2) (hc0_2 : l0_2.length ≤ c0_2) (hr0_4 : Kd.C k109 w A0_4 l0_4.length l0_4) (hc0_4 : l0_4.length ≤ c0_4) (hr0_5 : Kd.C k75 w A0_5 l0_5.length l0_5) (hc0_5 : l0_5.length ≤ c0_5) (h : spec_Held.f k a0_0 l0_1 l0_2 a0_3 l0_4 l0_5 a1 = some r) :
  Calls Try.prog 54 #[.agg #[.int .i64 a0_0, .slice A0_1 l0_1.length c0_1, .slice A0_2 l0_2.length c0_2, .int .i64 a0_3, .slice A0_4 l0_4.length c0_4, .slice A0_5 l0_5.length c0_5], .int .i64 a1] w fun e w' => ∃ v0_ : Value, e = .returned (v0_) ∧ Kd.S (Kd.slice 5 (Kd.int .u8)) 52 w' w.heap.size (fun _ => True) v0_ r ∧ Below w.heap.size w w' := by
 have hu35 := Try.underlying35
 have HR0_1 := Aside0.mk hr0_1
 have HC0_1 := Aside0.mk hc0_1
 clear hr0_1 hc0_1
 have HR0_2 := Aside0.mk hr0_2
 have HC0_2 := Aside0.mk hc0_2
 clear hr0_2 hc0_2
 have HR0_4 := Aside0.mk hr0_4
 have HC0_4 := Aside0.mk hc0_4
 clear hr0_4 hc0_4
 have HR0_5 := Aside0.mk hr0_5
 have HC0_5 := Aside0.mk hc0_5
 clear hr0_5 hc0_5
 have HB := Aside0.mk (Below.refl w.heap.size w)
 have H : ((spec_StateOk.f k a0_0 l0_1 l0_2 a0_3 l0_4 l0_5).bind fun t266 => (if t266 = true then ((spec_l2sess.f k a0_0 l0_1 l0_2 a0_3 l0_4 l0_5 a1).bind fun t267 => (spec_Held.j0 k a1 ([] : List (List Int)) (decide (t267 < 0)) a0_0 l0_1 l0_2 a0_3 l0_4 l0_5)) else (spec_Held.j0 k a1 ([] : List (List Int)) true a0_0 l0_1 l0_2 a0_3 l0_4 l0_5))) = some r := h
 clear h
 have HC3 := Aside0.mk H
 clear H
 go_enter Try.func54, Try.ntmps54
 go_upto_region 2 with (first | ((with_reducible refine gate_dst (N := 2) rfl ?_); refine bx_ 2 #[.int .i64 a0_0, .slice A0_1 l0_1.length c0_1, .slice A0_2 l0_2.length c0_2, .int .i64 a0_3, .slice A0_4 l0_4.length c0_4, .slice A0_5 l0_5.length c0_5] 35 (h := ?_); intro gb265 hg w4 hbox hb; have BK265 := Aside0.mk (hbox); have GW265 := Aside0.mk ((by rw [hg]; exact (below_size bel) : w.heap.size ≤ gb265)); have GE265 := GW265; replace HB := bst hb; clear hb hbox hg))
 (try simp only [Act.put, List.setIfInBounds_toArray, List.set_cons_zero, List.set_cons_succ])
 go_cut [15] (fun v15 wc => ∃ (kq : Nat) (x15_2 : Bool), v15 = .bool x15_2 ∧ Aside0 (spec_Held.j0 kq a1 ([] : List (List Int)) x15_2 a0_0 l0_1 l0_2 a0_3 l0_4 l0_5 = some r) ∧ Aside0 (kq ≤ k) ∧ Aside0 (Kd.S (Kd.slice 5 (Kd.int .u8)) 52 wc w.heap.size (fun _ => True) (.slice none 0 0) ([] : List (List Int))) ∧ Aside0 (wc.heap[gb265]? = some (.cells #[.int .i64 a0_0, (.slice A0_1 l0_1.length c0_1), (.slice A0_2 l0_2.length c0_2), .int .i64 a0_3, (.slice A0_4 l0_4.length c0_4), (.slice A0_5 l0_5.length c0_5)] 35 (0, 0))) ∧ Aside0 (Below w.heap.size w wc))
 case first =>
  have H := HC3.out
  clear HC3
  replace H := Option.bind_eq_some_iff.mp H
  obtain ⟨t266, A50, H⟩ := H
  replace H : (if t266 = true then ((spec_l2sess.f k a0_0 l0_1 l0_2 a0_3 l0_4 l0_5 a1).bind fun t267 => (spec_Held.j0 k a1 ([] : List (List Int)) (decide (t267 < 0)) a0_0 l0_1 l0_2 a0_3 l0_4 l0_5)) else (spec_Held.j0 k a1 ([] : List (List Int)) true a0_0 l0_1 l0_2 a0_3 l0_4 l0_5)) = some r := H
  have A5 := Aside0.mk A50
  clear A50
  by_cases c6 : t266 = true
  ·subst c6
   have H1 : ((spec_l2sess.f k a0_0 l0_1 l0_2 a0_3 l0_4 l0_5 a1).bind fun t267 => (spec_Held.j0 k a1 ([] : List (List Int)) (decide (t267 < 0)) a0_0 l0_1 l0_2 a0_3 l0_4 l0_5)) = some r := by rw [if_pos rfl] at H; exact H
   clear H
   have H := H1
   clear H1
   replace H := Option.bind_eq_some_iff.mp H
   obtain ⟨t267, A70, H⟩ := H
   replace H : (spec_Held.j0 k a1 ([] : List (List Int)) (decide (t267 < 0)) a0_0 l0_1 l0_2 a0_3 l0_4 l0_5) = some r := H
   have A7 := Aside0.mk A70
   clear A70
   have H' := Aside0.mk H
   clear H
   obtain ⟨C8_0, C8_1, C8_2, C8_3, C8_4, C8_5, -⟩ := cells_6 BK265.out trivial
   obtain ⟨F8_0, F8_1, F8_2, F8_3, F8_4, F8_5, -⟩ := frz_6 BK265.out
   go_wp2_with (first | ((with_reducible refine gate_callee (f := 16) rfl ?_); refine gl_ (some 8) Try.func16 #[.agg #[.int .i64 a0_0, .slice A0_1 l0_1.length c0_1, .slice A0_2 l0_2.length c0_2, .int .i64 a0_3, .slice A0_4 l0_4.length c0_4, .slice A0_5 l0_5.length c0_5]] (h := ?_); (with_reducible refine (spec_StateOk.calls k a0_0 _ _ l0_1 _ _ l0_2 a0_3 _ _ l0_4 _ _ l0_5 true _ ?side1 ?side2 ?side3 ?side4 ?side5 ?side6 ?side7 ?side8 A5.out).mono ?_); (case side1 => exact kcb); (case side2 => exact HC0_1.out); (case side3 => exact kcb); (case side4 => exact HC0_2.out); (case side5 => exact kcb); (case side6 => exact HC0_4.out); (case side7 => exact kcb); (case side8 => exact HC0_5.out); rintro e w9 ⟨rfl, hb⟩; refine ⟨_, rfl, ?_⟩; replace BK265 := Aside0.mk (blb BK265 hb); replace HB := bst hb; (try clear hb); (try clear hb2); (try clear hk); (try clear hi); obtain ⟨C10_0, C10_1, C10_2, C10_3, C10_4, C10_5, -⟩ := cells_6 BK265.out trivial; obtain ⟨F10_0, F10_1, F10_2, F10_3, F10_4, F10_5, -⟩ := frz_6 BK265.out) | (go_at_call 74; (with_reducible refine (spec_l2sess.calls k a0_0 _ _ l0_1 _ _ l0_2 a0_3 _ _ l0_4 _ _ l0_5 a1 t267 _ ?side1 ?side2 ?side3 ?side4 ?side5 ?side6 ?side7 ?side8 A7.out).mono ?_); (case side1 => exact kcb); (case side2 => exact HC0_1.out); (case side3 => exact kcb); (case side4 => exact HC0_2.out); (case side5 => exact kcb); (case side6 => exact HC0_4.out); (case side7 => exact kcb); (case side8 => exact HC0_5.out); rintro e w11 ⟨rfl, hb⟩; replace BK265 := Aside0.mk (blb BK265 hb); replace HB := bst hb; (try clear hb); (try clear hb2); (try clear hk); (try clear hi)))
   go_meet
   case rel => exact ⟨_, (decide (t267 < 0)), rs_, H', ⟨by first | omega | exact Nat.le_refl _⟩, ⟨by first | exact Kd.S_nil _ _ _ _ _ | exact Kd.N_nil _ _ _ _ _ | exact Kd.V_nil _ _ _ _ _ | exact Kd.Q_nil _ _ _ _ _ | exact Kd.R_nil _ _ _ _ _⟩, ⟨bkp BK265⟩, ⟨bel⟩⟩
  replace c6 := Bool.eq_false_iff.mpr c6
  subst c6
  have H1 : (spec_Held.j0 k a1 ([] : List (List Int)) true a0_0 l0_1 l0_2 a0_3 l0_4 l0_5) = some r := by rw [if_neg (show ¬ (false = true) by decide)] at H; exact H
  clear H
  have H := H1
  clear H1
  have H' := Aside0.mk H
  clear H
  obtain ⟨C12_0, C12_1, C12_2, C12_3, C12_4, C12_5, -⟩ := cells_6 BK265.out trivial
  obtain ⟨F12_0, F12_1, F12_2, F12_3, F12_4, F12_5, -⟩ := frz_6 BK265.out
  go_wp2_with (first | ((with_reducible refine gate_callee (f := 16) rfl ?_); refine gl_ (some 8) Try.func16 #[.agg #[.int .i64 a0_0, .slice A0_1 l0_1.length c0_1, .slice A0_2 l0_2.length c0_2, .int .i64 a0_3, .slice A0_4 l0_4.length c0_4, .slice A0_5 l0_5.length c0_5]] (h := ?_); (with_reducible refine (spec_StateOk.calls k a0_0 _ _ l0_1 _ _ l0_2 a0_3 _ _ l0_4 _ _ l0_5 false _ ?side1 ?side2 ?side3 ?side4 ?side5 ?side6 ?side7 ?side8 A5.out).mono ?_); (case side1 => exact kcb); (case side2 => exact HC0_1.out); (case side3 => exact kcb); (case side4 => exact HC0_2.out); (case side5 => exact kcb); (case side6 => exact HC0_4.out); (case side7 => exact kcb); (case side8 => exact HC0_5.out); rintro e w13 ⟨rfl, hb⟩; refine ⟨_, rfl, ?_⟩; replace BK265 := Aside0.mk (blb BK265 hb); replace HB := bst hb; (try clear hb); (try clear hb2); (try clear hk); (try clear hi)))
  go_meet
  case rel => exact ⟨_, (true), rs_, H', ⟨by first | omega | exact Nat.le_refl _⟩, ⟨by first | exact Kd.S_nil _ _ _ _ _ | exact Kd.N_nil _ _ _ _ _ | exact Kd.V_nil _ _ _ _ _ | exact Kd.Q_nil _ _ _ _ _ | exact Kd.R_nil _ _ _ _ _⟩, ⟨bkp BK265⟩, ⟨bel⟩⟩
 case rest =>
  clear HC3
  try clear c1; try clear p2; try clear c5; try clear c6; try clear C10_0 C10_1 C10_2 C10_3 C10_4 C10_5; try clear C12_0 C12_1 C12_2 C12_3 C12_4 C12_5; try clear C8_0 C8_1 C8_2 C8_3 C8_4 C8_5; try clear F10_0 F10_1 F10_2 F10_3 F10_4 F10_5; try clear F12_0 F12_1 F12_2 F12_3 F12_4 F12_5; try clear F8_0 F8_1 F8_2 F8_3 F8_4 F8_5
  obtain ⟨kq, x15_2, rfl, HA, HJ2, HO_5, BK265, HB⟩ := hcut
  cases kq with
  | zero => exact absurd HA.out (by simp [spec_Held.j0])
  | succ kj2 =>
   have H := HA.out
   clear HA
   simp only [spec_Held.j0] at H
   by_cases c14 : x15_2 = true
   ·subst c14
    have H1 : (some ([] : List (List Int))) = some r := by rw [if_pos rfl] at H; exact H
    clear H
    have H := H1
    clear H1
    obtain rfl := Option.some.inj H
    go_wp2
    go_ret
    exact ⟨_, rz_, by first | exact Kd.S_nil _ _ _ _ _ | exact Kd.N_nil _ _ _ _ _ | exact Kd.V_nil _ _ _ _ _ | exact Kd.Q_nil _ _ _ _ _ | exact Kd.R_nil _ _ _ _ _, bel⟩
   replace c14 := Bool.eq_false_iff.mpr c14
   subst c14
   have H1 : (spec_Held.l0 kj2 a1 ([] : List (List Int)) 0 a0_0 l0_1 l0_2 a0_3 l0_4 l0_5) = some r := by rw [if_neg (show ¬ (false = true) by decide)] at H; exact H
   clear H
   have H := H1
   clear H1
   have H' := Aside0.mk H
   clear H
   go_wp2
   go_loopg [5, 6] kj2 (fun kq v5 v6 w' => ∃ (x5_2 : List (List Int)) (x6_2 : Int), v6 = .int .i64 x6_2 ∧ Aside0 (spec_Held.l0 kq a1 x5_2 x6_2 a0_0 l0_1 l0_2 a0_3 l0_4 l0_5 = some r) ∧ Aside0 (kq ≤ kj2) ∧ Aside0 (Kd.S (Kd.slice 5 (Kd.int .u8)) 52 w' w.heap.size (fun _ => True) v5 x5_2) ∧ Aside0 (w'.heap[gb265]? = some (.cells #[.int .i64 a0_0, (.slice A0_1 l0_1.length c0_1), (.slice A0_2 l0_2.length c0_2), .int .i64 a0_3, (.slice A0_4 l0_4.length c0_4), (.slice A0_5 l0_5.length c0_5)] 35 (0, 0))) ∧ Aside0 (Below w.heap.size w w'))
   case atStart => exact ⟨(([] : List (List Int))), (0), rs_, H', ⟨Nat.le_refl _⟩, ⟨skp HO_5⟩, ⟨bkp BK265⟩, ⟨bel⟩⟩
   case round =>
    clear H'
    try clear c1; try clear p2; try clear c5; try clear c6; try clear c14; try clear C10_0 C10_1 C10_2 C10_3 C10_4 C10_5; try clear C12_0 C12_1 C12_2 C12_3 C12_4 C12_5; try clear C8_0 C8_1 C8_2 C8_3 C8_4 C8_5; try clear F10_0 F10_1 F10_2 F10_3 F10_4 F10_5; try clear F12_0 F12_1 F12_2 F12_3 F12_4 F12_5; try clear F8_0 F8_1 F8_2 F8_3 F8_4 F8_5; try clear p2
    obtain ⟨x5_2, x6_2, rfl, HA, HK2, HO_5, BK265, HB⟩ := hrel
    cases gk with
    | zero => exact absurd HA.out (by simp [spec_Held.l0])
    | succ k2 =>
     have H := HA.out
     clear HA
     simp only [spec_Held.l0] at H
     by_cases c15 : x6_2 < (l0_1.length : Int)
     ·rw [if_pos c15] at H
      have c15b0 : decide (x6_2 < (l0_1.length : Int)) = true := decide_eq_true c15
      clear c15
      by_cases c16 : 0 ≤ x6_2
      ·rw [if_pos c16] at H
       have c16b0 : decide (0 ≤ x6_2) = true := decide_eq_true c16
       clear c16
       by_cases c17 : ((rd_T92 l0_1 x6_2).f3) = a1
       ·rw [if_pos c17] at H
        have c17b0 : (((rd_T92 l0_1 x6_2).f3) == a1) = true := beq_iff_eq.mpr c17
        have c17b1 : (((rd_T92 l0_1 x6_2).f3) != a1) = false := bne_eq_false_iff_eq.mpr c17
        clear c17
        obtain ⟨y269, hy269⟩ : ∃ y_ : List Int, y_ = (([] : List Int)) := ⟨_, rfl⟩
        replace H : (if y269.length + ((rd_T92 l0_1 x6_2).f0).length < 140737488355328 then (if x5_2.length < 5864062014805 then (spec_Held.l0 k2 a1 (x5_2 ++ [(y269 ++ ((rd_T92 l0_1 x6_2).f0))]) (wrap64 (x6_2 + 1)) a0_0 l0_1 l0_2 a0_3 l0_4 l0_5) else (none)) else (none)) = some r := by first | (rw [hy269]; with_reducible exact H) | (have H2_ := (Option.bind_some _ _).symm.trans H; rw [hy269]; with_reducible exact H2_) | (have H2_ := (Option.bind_some _ _).symm.trans H; with_reducible exact H2_) | with_reducible exact H | (rw [hy269]; exact H) | exact H
        have Ny269 := Aside0.mk hy269
        clear hy269
        by_cases c18 : y269.length + ((rd_T92 l0_1 x6_2).f0).length < 140737488355328
        ·rw [if_pos c18] at H
         have LMc18 := Aside0.mk c18
         clear c18
         obtain ⟨y273, hy273⟩ : ∃ y_ : List Int, y_ = (y269 ++ ((rd_T92 l0_1 x6_2).f0)) := ⟨_, rfl⟩
         replace H : (if x5_2.length < 5864062014805 then (spec_Held.l0 k2 a1 (x5_2 ++ [y273]) (wrap64 (x6_2 + 1)) a0_0 l0_1 l0_2 a0_3 l0_4 l0_5) else (none)) = some r := by first | (rw [hy273]; with_reducible exact H) | (have H2_ := (Option.bind_some _ _).symm.trans H; rw [hy273]; with_reducible exact H2_) | (have H2_ := (Option.bind_some _ _).symm.trans H; with_reducible exact H2_) | with_reducible exact H | (rw [hy273]; exact H) | exact H
         have Ny273 := Aside0.mk hy273
         clear hy273
         by_cases c19 : x5_2.length < 5864062014805
         ·rw [if_pos c19] at H
          have LMc19 := Aside0.mk c19
          clear c19
          obtain ⟨y276, hy276⟩ : ∃ y_ : List (List Int), y_ = (x5_2 ++ [y273]) := ⟨_, rfl⟩
          replace H : (spec_Held.l0 k2 a1 y276 (wrap64 (x6_2 + 1)) a0_0 l0_1 l0_2 a0_3 l0_4 l0_5) = some r := by first | (rw [hy276]; with_reducible exact H) | (have H2_ := (Option.bind_some _ _).symm.trans H; rw [hy276]; with_reducible exact H2_) | (have H2_ := (Option.bind_some _ _).symm.trans H; with_reducible exact H2_) | with_reducible exact H | (rw [hy276]; exact H) | exact H
          have Ny276 := Aside0.mk hy276
          clear hy276
          have H' := Aside0.mk H
          clear H
          obtain ⟨C20_0, C20_1, C20_2, C20_3, C20_4, C20_5, -⟩ := cells_6 BK265.out trivial
          obtain ⟨F20_0, F20_1, F20_2, F20_3, F20_4, F20_5, -⟩ := frz_6 BK265.out
          have p268 : 0 ≤ (x6_2 : Int) := od
          have q268 : x6_2 < (l0_1.length : Int) := od
          obtain ⟨ad268, A268_0, c268_0, A268_1, c268_1, e268, hx268_0, hx268_1, hx268_2, hx268_3, hl268_0, hi268_0, hl268_1, hi268_1⟩ := at_T92 HR0_1.out x6_2 p268 q268
          cases e268
          replace hx268_0 := hxb HB hx268_0
          replace hx268_1 := hxb HB hx268_1
          replace hx268_2 := hxb HB hx268_2
          replace hx268_3 := hxb HB hx268_3
          have HR268_0 := Aside0.mk hi268_0
          have HC268_0 := Aside0.mk hl268_0
          clear hi268_0 hl268_0
          have HR268_1 := Aside0.mk hi268_1
          have HC268_1 := Aside0.mk hl268_1
          clear hi268_1 hl268_1
          replace p268 := eq_true p268
          replace q268 := eq_true q268
          go_wp2_with (first | ((with_reducible refine gate_dst (N := 32) rfl ?_); refine Kd.R_lit (Kd.int .u8) _ 5 ?hg (N := 32) ?hd (xs := ([] : List Int)) (inner := []) (ok := fun _ => True) (okp := fun _ => True) ?hr ?hp (fun _ hk => hk) trivial (Below.refl _ _) (Nat.le_refl _) (by simp) ?_; (case hd => rfl); (case hg => rfl); (case hr => first | (go_simp; done) | (go_simp; rfl)); (case hp => exact (Reps.none _ _)); intro v270 w21 ho22 hb hg_ hnew_; clear hg_ hnew_; (first | rw [← Ny269.out] at ho22 | (simp only [Int.reduceToNat] at ho22; rw [← Ny269.out] at ho22)); have HO271 := Aside0.mk (Kd.R_lower ho22 (below_size bel)); replace HO_5 := Aside0.mk (Kd.S_elder' (skp HO_5) (Kd.R_base ho22) hb); replace BK265 := Aside0.mk (blb BK265 hb); replace HB := bst hb; clear hb ho22; obtain ⟨C23_0, C23_1, C23_2, C23_3, C23_4, C23_5, -⟩ := cells_6 BK265.out trivial; obtain ⟨F23_0, F23_1, F23_2, F23_3, F23_4, F23_5, -⟩ := frz_6 BK265.out; have p272 : 0 ≤ (x6_2 : Int) := od; have q272 : x6_2 < (l0_1.length : Int) := od; obtain ⟨ad272, A272_0, c272_0, A272_1, c272_1, e272, hx272_0, hx272_1, hx272_2, hx272_3, hl272_0, hi272_0, hl272_1, hi272_1⟩ := at_T92 HR0_1.out x6_2 p272 q272; obtain rfl : ad268 = ad272 := (by injection e272); replace hx272_0 := hxb HB hx272_0; replace hx272_1 := hxb HB hx272_1; replace hx272_2 := hxb HB hx272_2; replace hx272_3 := hxb HB hx272_3; have HR272_0 := Aside0.mk hi272_0; have HC272_0 := Aside0.mk hl272_0; clear hi272_0 hl272_0; have HR272_1 := Aside0.mk hi272_1; have HC272_1 := Aside0.mk hl272_1; clear hi272_1 hl272_1; replace p272 := eq_true p272; replace q272 := eq_true q272) | ((with_reducible refine gate_builtin (b := .append) (xs := #[.tmp 32, .tmp 38]) rfl ?_); at_builtin; refine Kd.R_append_rows (Kd.int .u8) (w0 := w) w.heap.size rfl (.tmp 32) (.tmp 38) 52 5 (.int .u8 0) 1 rfl Try.underlying52 info5 rfl (by decide) (by omega) v270 y269 ((rd_T92 l0_1 x6_2).f0) _ _ _ (fun _ => True) (fun _ => False) rfl rfl ?aO ?aR (fun _ _ h => h) (fun _ h => h.elim) ?aF ?aB ?aS ?aL ?_; (case aR => repeat (first | exact (Kd.C_below HR272_0.out HB.out) | (with_reducible refine Kd.C_alloc ?_ _) | (with_reducible refine Kd.C_drewN ?_ _) | (with_reducible refine Kd.C_drew ?_))); (case aB => exact bel); (case aF => exact (fun _ _ => trivial)); (case aO => exact (rkp HO271)); (case aS => exact (below_size bel)); (case aL => have := LMc18.out; omega); intro v274 w24 ho hb hg hat; rw [← Ny273.out] at ho; have n0_ := Aside0.mk (Kd.S_after (ok := (fun _ => True)) (skp HO_5) hg hat); have n1_ := Aside0.mk (blk_grown (g := gb265) (o := .cells #[.int .i64 a0_0, .slice (some ad268) l0_1.length c0_1, .slice A0_2 l0_2.length c0_2, .int .i64 a0_3, .slice A0_4 l0_4.length c0_4, .slice A0_5 l0_5.length c0_5] 35 (0, 0)) (bkp BK265) hg (Kd.R_ne HO271.out BK265.out (by decide))); have n2_ := Aside0.mk (hb); have n3_ := Aside0.mk (ho); clear HO_5; clear BK265; clear HB; clear HO271; have HO_5 := n0_; have BK265 := n1_; have HB := n2_; have HO275 := n3_; clear n0_ n1_ n2_ n3_; clear ho hb hg hat; obtain ⟨Ao26, co26, eo26⟩ := Kd.R_slice HO275.out; subst eo26) | ((with_reducible refine gate_builtin (b := .append) (xs := #[.tmp 31, .tmp 40]) rfl ?_); at_builtin; refine Kd.S_append (Kd.slice 5 (Kd.int .u8)) (w0 := w) w.heap.size rfl (.tmp 31) (.tmp 40) 84 52 (.slice none 0 0) 24 rfl Try.underlying84 info52 rfl (by decide) (by omega) u5 x5_2 y273 [.slice Ao26 y273.length co26] (fun _ => True) (fun k_ => some k_ = (.slice Ao26 y273.length co26 : Value).ownBlock) rfl rfl ?aP (fun k_ hk_ => ((Kd.R_mono (ok' := fun k_ => ((fun _ => True)) k_ ∧ some k_ ≠ (u5 : Value).ownBlock) (Kd.R_apart' (HO275.out) (Kd.S_typed HO_5.out) (by decide)) (fun k_ hk => ⟨trivial, hk.2⟩))).1 k_ hk_.symm) ?aF ?aO ?aB ?aS ?aL ?_; (case aP => exact Kd.M_row (Kd.R_mono (Kd.R_tight rfl (Kd.R_mono (ok' := fun k_ => ((fun _ => True)) k_ ∧ some k_ ≠ (u5 : Value).ownBlock) (Kd.R_apart' (HO275.out) (Kd.S_typed HO_5.out) (by decide)) (fun k_ hk => ⟨trivial, hk.2⟩))) (fun _ h_ => h_))); (case aB => exact bel); (case aF => exact (fun _ _ => trivial)); (case aO => exact (by (with_reducible repeat (first | apply Kd.S_alloc | apply Kd.S_drewN | apply Kd.S_drew)); exact Kd.S_mono HO_5.out (fun k_ hk => ⟨trivial, fun e_ => hk.2 e_⟩))); (case aS => exact (below_size bel)); (case aL => have := LMc19.out; omega); intro v277 w25 ho hb hg hat; rw [← Ny276.out] at ho; have n0_ := Aside0.mk (blk_grown (g := gb265) (o := .cells #[.int .i64 a0_0, .slice (some ad268) l0_1.length c0_1, .slice A0_2 l0_2.length c0_2, .int .i64 a0_3, .slice A0_4 l0_4.length c0_4, .slice A0_5 l0_5.length c0_5] 35 (0, 0)) (bkp BK265) hg (Kd.S_ne HO_5.out BK265.out (by decide))); have n1_ := Aside0.mk (hb); have n2_ := Aside0.mk (ho); clear BK265; clear HB; clear HO_5; clear HO275; have BK265 := n0_; have HB := n1_; have HO278 := n2_; clear n0_ n1_ n2_; clear ho hb hg hat))
          go_roundg k2
          case measure => have := HJ2.out; have := HK2.out; omega
          case rel => exact ⟨(y276), (wrap64 (x6_2 + 1)), rs_, H', ⟨by have := HJ2.out; have := HK2.out; omega⟩, ⟨skp HO278⟩, ⟨bkp BK265⟩, ⟨bel⟩⟩
         rw [if_neg c19] at H
         exact absurd H (by simp)
        rw [if_neg c18] at H
        exact absurd H (by simp)
       rw [if_neg c17] at H
       have c17b0 : (((rd_T92 l0_1 x6_2).f3) == a1) = false := beq_eq_false_iff_ne.mpr c17
       have c17b1 : (((rd_T92 l0_1 x6_2).f3) != a1) = true := bne_iff_ne.mpr c17
       have H' := Aside0.mk H
       clear H
       obtain ⟨C27_0, C27_1, C27_2, C27_3, C27_4, C27_5, -⟩ := cells_6 BK265.out trivial
       obtain ⟨F27_0, F27_1, F27_2, F27_3, F27_4, F27_5, -⟩ := frz_6 BK265.out
       have p268 : 0 ≤ (x6_2 : Int) := od
       have q268 : x6_2 < (l0_1.length : Int) := od
       obtain ⟨ad268, A268_0, c268_0, A268_1, c268_1, e268, hx268_0, hx268_1, hx268_2, hx268_3, hl268_0, hi268_0, hl268_1, hi268_1⟩ := at_T92 HR0_1.out x6_2 p268 q268
       cases e268
       replace hx268_0 := hxb HB hx268_0
       replace hx268_1 := hxb HB hx268_1
       replace hx268_2 := hxb HB hx268_2
       replace hx268_3 := hxb HB hx268_3
       have HR268_0 := Aside0.mk hi268_0
       have HC268_0 := Aside0.mk hl268_0
       clear hi268_0 hl268_0
       have HR268_1 := Aside0.mk hi268_1
       have HC268_1 := Aside0.mk hl268_1
       clear hi268_1 hl268_1
       replace p268 := eq_true p268
       replace q268 := eq_true q268
       go_wp2
       go_roundg k2
       case measure => have := HJ2.out; have := HK2.out; omega
       case rel => exact ⟨(x5_2), (wrap64 (x6_2 + 1)), rs_, H', ⟨by have := HJ2.out; have := HK2.out; omega⟩, ⟨skp HO_5⟩, ⟨bkp BK265⟩, ⟨bel⟩⟩
      rw [if_neg c16] at H
      exact absurd H (by simp)
     rw [if_neg c15] at H
     have c15b0 : decide (x6_2 < (l0_1.length : Int)) = false := decide_eq_false c15
     clear c15
     obtain rfl := Option.some.inj H
     obtain ⟨C28_0, C28_1, C28_2, C28_3, C28_4, C28_5, -⟩ := cells_6 BK265.out trivial
     obtain ⟨F28_0, F28_1, F28_2, F28_3, F28_4, F28_5, -⟩ := frz_6 BK265.out
     go_wp2
     go_ret
     exact ⟨_, rz_, by (with_reducible repeat (first | apply Kd.S_alloc | apply Kd.S_drewN | apply Kd.S_drew)); exact HO_5.out, bel⟩

/-! ### impl_within: function 81 -/
def impl_within.f (a0 : Int) (a1 : Int) (a2 : Int) : Option (Bool) := if a1 ≤ a0 then (some (decide (a0 ≤ a2))) else (some false)
set_option maxHeartbeats 8000000 in
set_option maxRecDepth 100000 in
theorem impl_within.calls (a0 : Int) (a1 : Int) (a2 : Int) (r : Bool) (w : World) (h : impl_within.f a0 a1 a2 = some r) :
  Calls Try.prog 81 #[.int .i64 a0, .int .i64 a1, .int .i64 a2] w fun e w' => e = .returned (.bool r) ∧ Drawn0 w w' := by
 have H : (if a1 ≤ a0 then (some (decide (a0 ≤ a2))) else (some false)) = some r := h
 clear h
 by_cases c4 : a1 ≤ a0
 ·rw [if_pos c4] at H
  have c4b0 : decide (a1 ≤ a0) = true := decide_eq_true c4
  clear c4
  obtain rfl := Option.some.inj H
  go_enter Try.func81, Try.ntmps81
  go_wp2
  go_ret
  exact ⟨by first | rfl | (simp; done) | (simp [*]; done), by repeat (first | exact Drawn0.refl _ | apply Drawn0.step)⟩
 rw [if_neg c4] at H
 have c4b0 : decide (a1 ≤ a0) = false := decide_eq_false c4
 clear c4
 obtain rfl := Option.some.inj H
 go_enter Try.func81, Try.ntmps81
 go_wp2
 go_ret
 exact ⟨by first | rfl | (simp; done) | (simp [*]; done), by repeat (first | exact Drawn0.refl _ | apply Drawn0.step)⟩

/-! ### impl_KeyOk: function 47 -/
def impl_KeyOk.l0 : Nat → List Int → List Int → Int → Int → Option (Bool)
 | 0, _, _, _, _ => none
 | k + 1, x0, x5, x6, x7 => if x7 < x6 then (if 0 ≤ x7 then (if x7 < (x5.length : Int) then (if (rd x5 x7) < 97 then (if (rd x5 x7) = 47 then (impl_KeyOk.l0 k x0 x5 x6 (wrap64 (x7 + 1))) else (some false)) else (if (rd x5 x7) > 122 then (if (rd x5 x7) = 47 then (impl_KeyOk.l0 k x0 x5 x6 (wrap64 (x7 + 1))) else (some false)) else (impl_KeyOk.l0 k x0 x5 x6 (wrap64 (x7 + 1))))) else (none)) else (none)) else ((impl_within.f (x0.length : Int) 1 20).bind fun t280 => (some t280))
def impl_KeyOk.f (k : Nat) (l0 : List Int) : Option (Bool) := impl_KeyOk.l0 k l0 l0 (l0.length : Int) 0
set_option maxHeartbeats 8000000 in
set_option maxRecDepth 100000 in
theorem impl_KeyOk.calls (k : Nat) (A0 : Option Addr) (c0 : Nat) (l0 : List Int) (r : Bool) (w : World) (hr0 : Kd.C (Kd.int .u8) w A0 l0.length l0) (hc0 : l0.length ≤ c0) (h : impl_KeyOk.f k l0 = some r) :
  Calls Try.prog 47 #[.slice A0 l0.length c0] w fun e w' => e = .returned (.bool r) ∧ Drawn0 w w' := by
 have HR0 := Aside0.mk hr0
 have HC0 := Aside0.mk hc0
 clear hr0 hc0
 have H : (impl_KeyOk.l0 k l0 l0 (l0.length : Int) 0) = some r := h
 clear h
 have H' := Aside0.mk H
 clear H
 go_enter Try.func47, Try.ntmps47
 go_wp2
 go_loopg [7] k (fun kq v7 w' => ∃ (x7_1 : Int), v7 = .int .i64 x7_1 ∧ Aside0 (impl_KeyOk.l0 kq l0 l0 (l0.length : Int) x7_1 = some r) ∧ Aside0 (kq ≤ k) ∧ Drawn0 w w')
 case atStart => exact ⟨(0), rs_, H', ⟨Nat.le_refl _⟩, by repeat (first | exact Drawn0.refl _ | apply Drawn0.step)⟩
 case round =>
  clear H'
  obtain ⟨x7_1, rfl, HA, HK1, ⟨m1, rfl⟩⟩ := hrel
  cases gk with
  | zero => exact absurd HA.out (by simp [impl_KeyOk.l0])
  | succ k1 =>
   have H := HA.out
   clear HA
   simp only [impl_KeyOk.l0] at H
   by_cases c2 : x7_1 < (l0.length : Int)
   ·rw [if_pos c2] at H
    have c2b0 : decide (x7_1 < (l0.length : Int)) = true := decide_eq_true c2
    clear c2
    by_cases c3 : 0 ≤ x7_1
    ·rw [if_pos c3] at H
     have c3b0 : decide (0 ≤ x7_1) = true := decide_eq_true c3
     clear c3
     by_cases c4 : x7_1 < (l0.length : Int)
     ·rw [if_pos c4] at H
      have c4b0 : decide (x7_1 < (l0.length : Int)) = true := decide_eq_true c4
      clear c4
      by_cases c5 : (rd l0 x7_1) < 97
      ·rw [if_pos c5] at H
       have c5b0 : decide ((rd l0 x7_1) < 97) = true := decide_eq_true c5
       clear c5
       by_cases c6 : (rd l0 x7_1) = 47
       ·rw [if_pos c6] at H
        have c6b0 : ((rd l0 x7_1) == 47) = true := beq_iff_eq.mpr c6
        have c6b1 : ((rd l0 x7_1) != 47) = false := bne_eq_false_iff_eq.mpr c6
        clear c6
        have H' := Aside0.mk H
        clear H
        have p279 : 0 ≤ (x7_1 : Int) := od
        have q279 : x7_1 < (l0.length : Int) := od
        obtain ⟨ad279, e279, hx279_0⟩ := Kd.at_int HR0.out x7_1 p279 q279
        cases e279
        replace p279 := eq_true p279
        replace q279 := eq_true q279
        go_wp2
        go_roundg k1
        case measure => have := HK1.out; omega
        case rel => exact ⟨(wrap64 (x7_1 + 1)), rs_, H', ⟨by have := HK1.out; omega⟩, by repeat (first | exact Drawn0.refl _ | apply Drawn0.step)⟩
       rw [if_neg c6] at H
       have c6b0 : ((rd l0 x7_1) == 47) = false := beq_eq_false_iff_ne.mpr c6
       have c6b1 : ((rd l0 x7_1) != 47) = true := bne_iff_ne.mpr c6
       obtain rfl := Option.some.inj H
       have p279 : 0 ≤ (x7_1 : Int) := od
       have q279 : x7_1 < (l0.length : Int) := od
       obtain ⟨ad279, e279, hx279_0⟩ := Kd.at_int HR0.out x7_1 p279 q279
       cases e279
       replace p279 := eq_true p279
       replace q279 := eq_true q279
       go_wp2
       go_ret
       exact ⟨by first | rfl | (simp; done) | (simp [*]; done), by repeat (first | exact Drawn0.refl _ | apply Drawn0.step)⟩
      rw [if_neg c5] at H
      have c5b0 : decide ((rd l0 x7_1) < 97) = false := decide_eq_false c5
      clear c5
      by_cases c7 : (rd l0 x7_1) > 122
      ·rw [if_pos c7] at H
       have c7b0 : decide (122 < (rd l0 x7_1)) = true := decide_eq_true c7
       clear c7
       by_cases c8 : (rd l0 x7_1) = 47
       ·rw [if_pos c8] at H
        have c8b0 : ((rd l0 x7_1) == 47) = true := beq_iff_eq.mpr c8
        have c8b1 : ((rd l0 x7_1) != 47) = false := bne_eq_false_iff_eq.mpr c8
        clear c8
        have H' := Aside0.mk H
        clear H
        have p279 : 0 ≤ (x7_1 : Int) := od
        have q279 : x7_1 < (l0.length : Int) := od
        obtain ⟨ad279, e279, hx279_0⟩ := Kd.at_int HR0.out x7_1 p279 q279
        cases e279
        replace p279 := eq_true p279
        replace q279 := eq_true q279
        go_wp2
        go_roundg k1
        case measure => have := HK1.out; omega
        case rel => exact ⟨(wrap64 (x7_1 + 1)), rs_, H', ⟨by have := HK1.out; omega⟩, by repeat (first | exact Drawn0.refl _ | apply Drawn0.step)⟩
       rw [if_neg c8] at H
       have c8b0 : ((rd l0 x7_1) == 47) = false := beq_eq_false_iff_ne.mpr c8
       have c8b1 : ((rd l0 x7_1) != 47) = true := bne_iff_ne.mpr c8
       obtain rfl := Option.some.inj H
       have p279 : 0 ≤ (x7_1 : Int) := od
       have q279 : x7_1 < (l0.length : Int) := od
       obtain ⟨ad279, e279, hx279_0⟩ := Kd.at_int HR0.out x7_1 p279 q279
       cases e279
       replace p279 := eq_true p279
       replace q279 := eq_true q279
       go_wp2
       go_ret
       exact ⟨by first | rfl | (simp; done) | (simp [*]; done), by repeat (first | exact Drawn0.refl _ | apply Drawn0.step)⟩
      rw [if_neg c7] at H
      have c7b0 : decide (122 < (rd l0 x7_1)) = false := decide_eq_false c7
      clear c7
      have H' := Aside0.mk H
      clear H
      have p279 : 0 ≤ (x7_1 : Int) := od
      have q279 : x7_1 < (l0.length : Int) := od
      obtain ⟨ad279, e279, hx279_0⟩ := Kd.at_int HR0.out x7_1 p279 q279
      cases e279
      replace p279 := eq_true p279
      replace q279 := eq_true q279
      go_wp2
      go_roundg k1
      case measure => have := HK1.out; omega
      case rel => exact ⟨(wrap64 (x7_1 + 1)), rs_, H', ⟨by have := HK1.out; omega⟩, by repeat (first | exact Drawn0.refl _ | apply Drawn0.step)⟩
     rw [if_neg c4] at H
     exact absurd H (by simp)
    rw [if_neg c3] at H
    exact absurd H (by simp)
   rw [if_neg c2] at H
   have c2b0 : decide (x7_1 < (l0.length : Int)) = false := decide_eq_false c2
   clear c2
   replace H := Option.bind_eq_some_iff.mp H
   obtain ⟨t280, A90, H⟩ := H
   replace H : (some t280) = some r := H
   have A9 := Aside0.mk A90
   clear A90
   obtain rfl := Option.some.inj H
   go_wp2_with (first | ((with_reducible refine gate_callee (f := 81) rfl ?_); refine gl_ (some 24) Try.func81 #[.int .i64 (l0.length : Int), .int .i64 1, .int .i64 20] (h := ?_); (with_reducible refine (impl_within.calls (l0.length : Int) 1 20 t280 _ A9.out).mono ?_); rintro e w' ⟨rfl, ⟨nd, rfl⟩⟩; refine ⟨_, rfl, ?_⟩))
   go_ret
   exact ⟨by first | rfl | (simp; done) | (simp [*]; done), by repeat (first | exact Drawn0.refl _ | apply Drawn0.step)⟩

/-! ### impl_isValue: function 82 -/
def impl_isValue.f (l0 : List Int) : Option (Bool) := some (decide ((l0.length : Int) ≤ 20))
set_option maxHeartbeats 8000000 in
set_option maxRecDepth 100000 in
theorem impl_isValue.calls (A0 : Option Addr) (c0 : Nat) (l0 : List Int) (r : Bool) (w : World) (hr0 : Kd.C (Kd.int .u8) w A0 l0.length l0) (hc0 : l0.length ≤ c0) (h : impl_isValue.f l0 = some r) :
  Calls Try.prog 82 #[.slice A0 l0.length c0] w fun e w' => e = .returned (.bool r) ∧ Drawn0 w w' := by
 have HR0 := Aside0.mk hr0
 have HC0 := Aside0.mk hc0
 clear hr0 hc0
 have H : (some (decide ((l0.length : Int) ≤ 20))) = some r := h
 clear h
 obtain rfl := Option.some.inj H
 go_enter Try.func82, Try.ntmps82
 go_wp2
 go_ret
 exact ⟨by first | rfl | (simp; done) | (simp [*]; done), by repeat (first | exact Drawn0.refl _ | apply Drawn0.step)⟩

/-! ### impl_State_session: function 83 -/
def impl_State_session.find (id : Int) : List (S109) → Int → Int
 | [], _ => -1
 | x :: xs, i => if x.f0 = id then i else impl_State_session.find id xs (i + 1)
def impl_State_session.f (a0_0 : Int) (l0_1 : List (S92)) (l0_2 : List (S94)) (a0_3 : Int) (l0_4 : List (S109)) (l0_5 : List (S75)) (a1 : Int) : Option Int := if l0_4.length < 140737488355328 then some (impl_State_session.find a1 l0_4 0) else none
set_option maxHeartbeats 4000000 in
theorem impl_State_session.pred (id a : Int) (b : Bool) (gb : Nat) (W : World) (hc : W.cell? ⟨gb, 0, none⟩ = some (.int .i64 id)) :
  Calls Try.prog 149 #[.agg #[.int .i64 a, .bool b], .pointer (some ⟨gb, 0, none⟩)] W fun e w' => e = .returned (.bool (decide (a = id))) ∧ Below W.heap.size W w' := by
 have hB : gb < W.heap.size := World.block_lt_of_cell? W _ hc
 have hne : gb ≠ W.heap.size := by omega
 have hu := Try.underlying109
 go_enter Try.func149, Try.ntmps149
 go_wp2
 all_goals (go_ret; exact ⟨by first | (simp_all; done) | (simp_all; rfl), (Below.refl _ W).alloc (Nat.le_refl _) _⟩)
set_option maxHeartbeats 8000000 in
set_option maxRecDepth 100000 in
theorem impl_State_session.index (A0 : Option Addr) (c0 : Nat) (l0 : List (S109)) (id : Int) (gb : Nat) (w : World) (hr0 : Kd.C k109 w A0 l0.length l0) (hl : l0.length < 140737488355328) (hc : w.cell? ⟨gb, 0, none⟩ = some (.int .i64 id)) :
  Calls Try.prog 148 #[.slice A0 l0.length c0, .func (.func 149) #[] #[.pointer (some ⟨gb, 0, none⟩)]] w fun e w' => e = .returned (.int .i64 (impl_State_session.find id l0 0)) ∧ Below w.heap.size w w' := by
 have hu := Try.underlying109
 have HR0 := Aside0.mk hr0
 have HC := Aside0.mk hc
 clear hr0 hc
 have eg : ∀ args w, (callFunc 149 args).run Try.prog w = .ok (.enter 149 args) w := by
  intro args w
  have h1 : ¬ Try.f149.name = "runtime.NumGoroutine" := by simp [Try.f149]
  obtain ⟨c, hb⟩ : ∃ c, Try.f149.body = some c := ⟨_, rfl⟩
  simp [callFunc, Try.func149, h1, hb, mark]
 go_enter Try.func148, Try.ntmps148
 go_wp2
 go_loopg [5, 8] l0.length (fun gg _ s8 wr => ∃ x : Int, s8 = .int .i64 x ∧ 0 ≤ x ∧ x ≤ (l0.length : Int) ∧ l0.length - x.toNat ≤ gg ∧ Aside (Below w.heap.size w wr) ∧ Aside (impl_State_session.find id l0 0 = impl_State_session.find id (l0.drop x.toNat) x))
 case atStart => exact ⟨0, rfl, by omega, by omega, by omega, Below.refl _ w, rfl⟩
 case round =>
  obtain ⟨x, rfl, hx0, hx1, hg, BW, A⟩ := hrel
  by_cases hlt : x < (l0.length : Int)
  ·obtain ⟨ad, e, h0, h1⟩ := at_T109 (Kd.C_below HR0.out BW.out) x hx0 hlt
   cases e
   have hcall := impl_State_session.pred id (rd_T109 l0 x).f0 (rd_T109 l0 x).f1 gb wr ((BW.out.cell (World.block_lt_of_cell? w _ HC.out)).trans HC.out)
   have hd : l0.drop x.toNat = rd_T109 l0 x :: l0.drop (x.toNat + 1) := by
    rw [List.drop_eq_getElem_cons (by omega)]
    congr 1
    unfold rd_T109
    simp [List.getD, show x.toNat < l0.length by omega]
   have HD := Aside0.mk hd
   clear hd
   by_cases hq : (rd_T109 l0 x).f0 = id
   ·rw [decide_eq_true hq] at hcall
    have HQ := Aside0.mk hq
    clear hq
    go_wp2_with (refine hcall.mono ?_; rintro e w' ⟨rfl, hb'⟩)
    go_ret
    refine ⟨?_, BW.out.trans (hb'.mono BW.out.size)⟩
    rw [A.out, HD.out, impl_State_session.find, if_pos HQ.out]
    rfl
   rw [decide_eq_false hq] at hcall
   have HQ := Aside0.mk hq
   clear hq
   go_wp2_with (refine hcall.mono ?_; rintro e w' ⟨rfl, hb'⟩)
   go_roundg (l0.length - (x.toNat + 1))
   case measure => omega
   case rel =>
    have ex : (x + 1).toNat = x.toNat + 1 := by omega
    refine ⟨x + 1, by go_num, by omega, by omega, by omega, BW.out.trans (hb'.mono BW.out.size), ?_⟩
    show Aside _
    rw [A.out, HD.out, impl_State_session.find, if_neg HQ.out, ex]
    exact rfl
  have hx : x.toNat = l0.length := by omega
  go_wp2
  go_ret
  refine ⟨?_, BW.out⟩
  rw [A.out, hx, List.drop_length, impl_State_session.find]
  rfl
set_option maxHeartbeats 8000000 in
set_option maxRecDepth 100000 in
theorem impl_State_session.calls (a0_0 : Int) (A0_1 : Option Addr) (c0_1 : Nat) (l0_1 : List (S92)) (A0_2 : Option Addr) (c0_2 : Nat) (l0_2 : List (S94)) (a0_3 : Int) (A0_4 : Option Addr) (c0_4 : Nat) (l0_4 : List (S109)) (A0_5 : Option Addr) (c0_5 : Nat) (l0_5 : List (S75)) (a1 : Int) (r : Int) (w : World) (hr0_1 : Kd.C k92 w A0_1 l0_1.length l0_1) (hc0_1 : l0_1.length ≤ c0_1) (hr0_2 : Kd.C k94 w A0_2 l0_2.length l0_2) (hc0_2 : l0_2.length ≤ c0_2) (hr0_4 : Kd.C k109 w A0_4 l0_4.length l0_4) (hc0_4 : l0_4.length ≤ c0_4) (hr0_5 : Kd.C k75 w A0_5 l0_5.length l0_5) (hc0_5 : l0_5.length ≤ c0_5) (h : impl_State_session.f a0_0 l0_1 l0_2 a0_3 l0_4 l0_5 a1 = some r) :
  Calls Try.prog 83 #[.agg #[.int .i64 a0_0, .slice A0_1 l0_1.length c0_1, .slice A0_2 l0_2.length c0_2, .int .i64 a0_3, .slice A0_4 l0_4.length c0_4, .slice A0_5 l0_5.length c0_5], .int .i64 a1] w fun e w' => e = .returned (.int .i64 r) ∧ Below w.heap.size w w' := by
 unfold impl_State_session.f at h
 by_cases hl : l0_4.length < 140737488355328
 ·rw [if_pos hl] at h
  obtain rfl := Option.some.inj h
  clear h
  have hu := Try.underlying35
  have HL := Aside0.mk hl
  have HR := Aside0.mk hr0_4
  clear hl hr0_1 hc0_1 hr0_2 hc0_2 hr0_4 hc0_4 hr0_5 hc0_5
  have HB := Aside0.mk (Below.refl w.heap.size w)
  go_enter Try.func83, Try.ntmps83
  go_wp2_with (first
   | ((with_reducible refine gate_dst (N := 2) rfl ?_); refine bx_ 2 #[.int .i64 a0_0, .slice A0_1 l0_1.length c0_1, .slice A0_2 l0_2.length c0_2, .int .i64 a0_3, .slice A0_4 l0_4.length c0_4, .slice A0_5 l0_5.length c0_5] 35 (h := ?_); intro gb1 hg w1 hbox hb; have BK1 := Aside0.mk (hbox); have GW1 := Aside0.mk ((by rw [hg]; exact (below_size bel) : w.heap.size ≤ gb1)); replace HB := bst hb; clear hb hbox hg)
   | ((with_reducible refine gate_dst (N := 3) rfl ?_); refine bx_ 3 #[.int .i64 a1] 3 (h := ?_); intro gb2 hg w2 hbox hb; have BK2 := Aside0.mk (hbox); replace BK1 := Aside0.mk (blb BK1 hb); replace HB := bst hb; clear hb hbox hg; have C1_0 : w2.cell? ⟨gb1, 0, none⟩ = some (.int .i64 a0_0) := (blk_cell BK1.out 0).trans rfl; have C1_1 : w2.cell? ⟨gb1, 1, none⟩ = some (.slice A0_1 l0_1.length c0_1) := (blk_cell BK1.out 1).trans rfl; have C1_2 : w2.cell? ⟨gb1, 2, none⟩ = some (.slice A0_2 l0_2.length c0_2) := (blk_cell BK1.out 2).trans rfl; have C1_3 : w2.cell? ⟨gb1, 3, none⟩ = some (.int .i64 a0_3) := (blk_cell BK1.out 3).trans rfl; have C1_4 : w2.cell? ⟨gb1, 4, none⟩ = some (.slice A0_4 l0_4.length c0_4) := (blk_cell BK1.out 4).trans rfl; have C1_5 : w2.cell? ⟨gb1, 5, none⟩ = some (.slice A0_5 l0_5.length c0_5) := (blk_cell BK1.out 5).trans rfl)
   | (go_at_call 148; (refine (impl_State_session.index A0_4 c0_4 l0_4 a1 gb2 _ ?s1 ?s2 ?s3).mono ?_); (case s1 => exact (Kd.C_below HR.out HB.out)); (case s2 => exact HL.out); (case s3 => exact ((blk_cell BK2.out 0).trans rfl)); rintro e w3 ⟨rfl, hb⟩; replace HB := bst hb; clear hb))
  go_ret
  exact ⟨rfl, HB.out⟩
 rw [if_neg hl] at h
 exact absurd h (by simp)

/-! ### bytes_Compare: function 84 -/
def bytes_Compare.u8of (l : List Int) : List UInt8 := l.map fun x => x.toNat.toUInt8
def bytes_Compare.cmp : List Int → List Int → Int
 | [], [] => 0
 | [], _ :: _ => -1
 | _ :: _, [] => 1
 | x :: xs, y :: ys => if x < y then -1 else if y < x then 1 else bytes_Compare.cmp xs ys
def bytes_Compare.f (l0 : List Int) (l1 : List Int) : Option Int := if (∀ x ∈ l0, 0 ≤ x ∧ x ≤ 255) ∧ (∀ x ∈ l1, 0 ≤ x ∧ x ≤ 255) then some (bytes_Compare.cmp l0 l1) else none
theorem bytes_Compare.run_loadBytes {P : Program} (w : World) (n : Nat) : ∀ (a : Addr) (l : List Int) (acc : ByteArray), l.length = n → (∀ i, i < n → w.cell? (a.add i) = some (.int .u8 (l.getD i 0))) →
  (Extern.Bytes.loadBytes a n acc).run P w = .ok (⟨acc.data ++ (bytes_Compare.u8of l).toArray⟩) w := by
 induction n with
 | zero =>
  intro a l acc hl _
  obtain rfl := List.eq_nil_of_length_eq_zero hl
  simp [Extern.Bytes.loadBytes, bytes_Compare.u8of]
 | succ n ih =>
  intro a l acc hl hc
  cases l with
  | nil => simp at hl
  | cons x xs =>
   have h0 := hc 0 (by omega)
   rw [Addr.add_zero'] at h0
   have h := ih (a.add 1) xs (acc.push x.toNat.toUInt8) (by simpa using hl) (fun i hi => by
    have h2 := hc (i + 1) (by omega)
    have e : (a.add 1).add i = a.add (i + 1) := by
     have e2 : (a.add 1).add i = a.add (1 + i) := by first | exact Go.RowKit.add_add _ _ _ | exact Addr.add_add _ _ _ | (unfold Addr.add; split <;> simp_all <;> omega)
     rw [e2, Nat.add_comm]
    rw [e]
    simpa using h2)
   simp only [Extern.Bytes.loadBytes, Sem.run_bind, run_load]
   simp [h0] at *
   rw [h]
   simp [bytes_Compare.u8of]
theorem bytes_Compare.run_bytesOf {P : Program} {w : World} {A : Option Addr} {c : Nat} {l : List Int} (h : Kd.C (Kd.int .u8) w A l.length l) : (Extern.Bytes.bytesOf (.slice A l.length c)).run P w = .ok ⟨(bytes_Compare.u8of l).toArray⟩ w := by
 cases A with
 | none =>
  have hz : l.length = 0 := by
   rcases Nat.eq_zero_or_pos l.length with h2 | h2
   ·exact h2
   ·obtain ⟨ad, e, _⟩ := h.2.2 h2
    cases e
  obtain rfl := List.eq_nil_of_length_eq_zero hz
  simp [Extern.Bytes.bytesOf, bytes_Compare.u8of, ByteArray.empty, ByteArray.emptyWithCapacity]
  rfl
 | some ad =>
  have hl := bytes_Compare.run_loadBytes (P := P) w l.length ad l .empty rfl (fun i hi => by
   obtain ⟨ad', e, hx⟩ := Kd.at_int h (i : Int) (by omega) (by omega)
   cases e
   rw [Int.toNat_natCast] at hx
   rw [hx]
   unfold rd
   rw [Int.toNat_natCast])
  simp only [Extern.Bytes.bytesOf]
  rw [hl]
  simp [ByteArray.empty, ByteArray.emptyWithCapacity]
  rfl
theorem bytes_Compare.cmp_eq : ∀ l0 l1 : List Int, (∀ x ∈ l0, 0 ≤ x ∧ x ≤ 255) → (∀ x ∈ l1, 0 ≤ x ∧ x ≤ 255) → Lib.compareBytes (bytes_Compare.u8of l0) (bytes_Compare.u8of l1) = bytes_Compare.cmp l0 l1
 | [], [], _, _ => rfl
 | [], _ :: _, _, _ => rfl
 | _ :: _, [], _, _ => rfl
 | x :: xs, y :: ys, h0, h1 => by
  have ih := bytes_Compare.cmp_eq xs ys (fun z hz => h0 z (List.mem_cons_of_mem _ hz)) (fun z hz => h1 z (List.mem_cons_of_mem _ hz))
  have a := h0 x (List.mem_cons_self ..)
  have b := h1 y (List.mem_cons_self ..)
  have ea : x.toNat.toUInt8.toNat = x.toNat := by
   rw [Nat.toUInt8, UInt8.toNat_ofNat']
   omega
  have eb : y.toNat.toUInt8.toNat = y.toNat := by
   rw [Nat.toUInt8, UInt8.toNat_ofNat']
   omega
  show (if x.toNat.toUInt8 < y.toNat.toUInt8 then (-1 : Int) else if y.toNat.toUInt8 < x.toNat.toUInt8 then 1 else Lib.compareBytes (bytes_Compare.u8of xs) (bytes_Compare.u8of ys)) = if x < y then -1 else if y < x then 1 else bytes_Compare.cmp xs ys
  have e1 : x.toNat.toUInt8 < y.toNat.toUInt8 ↔ x < y := by
   rw [UInt8.lt_iff_toNat_lt, ea, eb]
   omega
  have e2 : y.toNat.toUInt8 < x.toNat.toUInt8 ↔ y < x := by
   rw [UInt8.lt_iff_toNat_lt, ea, eb]
   omega
  simp only [e1, e2, ih]
set_option maxHeartbeats 8000000 in
set_option maxRecDepth 100000 in
theorem bytes_Compare.calls (A0 : Option Addr) (c0 : Nat) (l0 : List Int) (A1 : Option Addr) (c1 : Nat) (l1 : List Int) (r : Int) (w : World) (hr0 : Kd.C (Kd.int .u8) w A0 l0.length l0) (hc0 : l0.length ≤ c0) (hr1 : Kd.C (Kd.int .u8) w A1 l1.length l1) (hc1 : l1.length ≤ c1) (h : bytes_Compare.f l0 l1 = some r) :
  Calls Try.prog 84 #[.slice A0 l0.length c0, .slice A1 l1.length c1] w fun e w' => e = .returned (.int .i64 r) ∧ Drawn0 w w' := by
 clear hc0 hc1
 unfold bytes_Compare.f at h
 by_cases hb : (∀ x ∈ l0, 0 ≤ x ∧ x ≤ 255) ∧ (∀ x ∈ l1, 0 ≤ x ∧ x ≤ 255)
 case neg =>
  rw [if_neg hb] at h
  exact absurd h (by simp)
 rw [if_pos hb] at h
 obtain rfl := Option.some.inj h
 clear h
 have hx : (callFunc 150 #[.slice A0 l0.length c0, .slice A1 l1.length c1]).run Try.prog w = .ok (.value (.int .i64 (bytes_Compare.cmp l0 l1))) w := by
  rw [run_callFunc_extern (e := Extern.BytealgCompare.compare) Try.func150 (by kernel_rfl) (by rfl) (by kernel_rfl) (by rfl)]
  have hr : (Extern.BytealgCompare.compare #[.slice A0 l0.length c0, .slice A1 l1.length c1]).run Try.prog w = .ok (.int .i64 (bytes_Compare.cmp l0 l1)) w := by
   change Sem.run _ (do pure (goInt (Extern.BytealgCompare.cmp (← Extern.Bytes.bytesOf (.slice A0 l0.length c0)) (← Extern.Bytes.bytesOf (.slice A1 l1.length c1))))) w = _
   simp only [Sem.run_bind, bytes_Compare.run_bytesOf hr0, bytes_Compare.run_bytesOf hr1, Result.andThen, Sem.run_pure, Lib.cmp_eq, bytes_Compare.cmp_eq l0 l1 hb.1 hb.2]
   rfl
  rw [hr]
  rfl
 clear hr0 hr1 hb
 generalize bytes_Compare.cmp l0 l1 = q at hx ⊢
 go_enter Try.func84, Try.ntmps84
 go_wp2
 go_ret
 exact ⟨rfl, Drawn0.refl _⟩

/-! ### impl_State_row_1: function 152 -/
def impl_State_row_1.f (l0_0 : List Int) (l0_1 : List Int) (a0_2 : Int) (a0_3 : Int) (l1 : List Int) : Option (Int) := (bytes_Compare.f l0_0 l1).bind fun t282 => (some t282)
set_option maxHeartbeats 8000000 in
set_option maxRecDepth 100000 in
theorem impl_State_row_1.calls (A0_0 : Option Addr) (c0_0 : Nat) (l0_0 : List Int) (A0_1 : Option Addr) (c0_1 : Nat) (l0_1 : List Int) (a0_2 : Int) (a0_3 : Int) (A1 : Option Addr) (c1 : Nat) (l1 : List Int) (r : Int) (w : World) (hr0_0 : Kd.C (Kd.int .u8) w A0_0 l0_0.length l0_0) (hc0_0 : l0_0.length ≤ c0_0) (hr0_1 : Kd.C (Kd.int .u8) w A0_1 l0_1.length l0_1) (hc0_1 : l0_1.length ≤ c0_1) (hr1 : Kd.C (Kd.int .u8) w A1 l1.length l1) (hc1 : l1.length ≤ c1) (h : impl_State_row_1.f l0_0 l0_1 a0_2 a0_3 l1 = some r) :
  Calls Try.prog 152 #[.agg #[.slice A0_0 l0_0.length c0_0, .slice A0_1 l0_1.length c0_1, .int .i64 a0_2, .int .i64 a0_3], .slice A1 l1.length c1] w fun e w' => e = .returned (.int .i64 r) ∧ Below w.heap.size w w' := by
 have hu92 := Try.underlying92
 have HR0_0 := Aside0.mk hr0_0
 have HC0_0 := Aside0.mk hc0_0
 clear hr0_0 hc0_0
 have HR0_1 := Aside0.mk hr0_1
 have HC0_1 := Aside0.mk hc0_1
 clear hr0_1 hc0_1
 have HR1 := Aside0.mk hr1
 have HC1 := Aside0.mk hc1
 clear hr1 hc1
 have HB := Aside0.mk (Below.refl w.heap.size w)
 have H : ((bytes_Compare.f l0_0 l1).bind fun t282 => (some t282)) = some r := h
 clear h
 replace H := Option.bind_eq_some_iff.mp H
 obtain ⟨t282, A30, H⟩ := H
 replace H : (some t282) = some r := H
 have A3 := Aside0.mk A30
 clear A30
 obtain rfl := Option.some.inj H
 go_enter Try.func152, Try.ntmps152
 go_wp2_with (first | ((with_reducible refine gate_dst (N := 2) rfl ?_); refine bx_ 2 #[.slice A0_0 l0_0.length c0_0, .slice A0_1 l0_1.length c0_1, .int .i64 a0_2, .int .i64 a0_3] 92 (h := ?_); intro gb281 hg w4 hbox hb; have BK281 := Aside0.mk (hbox); have GW281 := Aside0.mk ((by rw [hg]; exact (below_size bel) : w.heap.size ≤ gb281)); have GE281 := GW281; replace HB := bst hb; clear hb hbox hg; obtain ⟨C5_0, C5_1, C5_2, C5_3, -⟩ := cells_4 BK281.out trivial; obtain ⟨F5_0, F5_1, F5_2, F5_3, -⟩ := frz_4 BK281.out) | ((with_reducible refine gate_callee (f := 84) rfl ?_); refine gl_ (some 8) Try.func84 #[.slice A0_0 l0_0.length c0_0, .slice A1 l1.length c1] (h := ?_); (with_reducible refine (bytes_Compare.calls _ _ l0_0 _ _ l1 t282 _ ?side1 ?side2 ?side3 ?side4 A3.out).mono ?_); (case side1 => exact kcb); (case side2 => exact HC0_0.out); (case side3 => exact kcb); (case side4 => exact HC1.out); rintro e w' ⟨rfl, ⟨nd, rfl⟩⟩; refine ⟨_, rfl, ?_⟩))
 go_ret
 exact ⟨rz_, bel⟩

end Go.Proofs.Ytdgegnakiljfjaa.PH
