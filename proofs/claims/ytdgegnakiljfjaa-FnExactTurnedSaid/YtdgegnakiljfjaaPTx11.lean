-- Written for this claim by the session's program pp.py, out of the kit's print and the seat's translation.
import Derived.Test.YtdgegnakiljfjaaPTx0
import Derived.Test.YtdgegnakiljfjaaPTx10
namespace Go.Proofs.Ytdgegnakiljfjaa.PT
open Go.RowKit Go.Proofs.YtdgegnakiljfjaaW.PrintWords Go.Proofs.YtdgegnakiljfjaaW.PrintLast Go.Proofs.YtdgegnakiljfjaaW.PrintMore
attribute [local go_sem] max2_int min2_int max_two min_two max_three min_three max_four min_four   -- for this text's walks alone
set_option linter.unusedVariables false
set_option linter.unusedSimpArgs false

/-! ### spec_Turned: function 66 -/
mutual
def spec_Turned.j0 : Nat → Int → List (List Int) → Bool → Int → List (S92) → List (S94) → Int → List (S109) → List (S75) → Option ((List (List Int)) × Bool)
 | 0, _, _, _, _, _, _, _, _, _ => none
 | k + 1, x1, x6, x17, x339000, x339001, x339002, x339003, x339004, x339005 => if x17 = true then (some (([] : List (List Int)), false)) else (spec_Turned.l0 k x1 x6 0 x339000 x339001 x339002 x339003 x339004 x339005)
def spec_Turned.l0 : Nat → Int → List (List Int) → Int → Int → List (S92) → List (S94) → Int → List (S109) → List (S75) → Option ((List (List Int)) × Bool)
 | 0, _, _, _, _, _, _, _, _, _ => none
 | k + 1, x1, x6, x7, x339000, x339001, x339002, x339003, x339004, x339005 => if x7 < (x339001.length : Int) then (if 0 ≤ x7 then (if ((rd_T92 x339001 x7).f2) > x1 then ((some (([] : List Int) : List Int)).bind fun y341 => (if y341.length + ((rd_T92 x339001 x7).f0).length < 140737488355328 then (if x6.length < 5864062014805 then (spec_Turned.l0 k x1 (x6 ++ [(y341 ++ ((rd_T92 x339001 x7).f0))]) (wrap64 (x7 + 1)) x339000 x339001 x339002 x339003 x339004 x339005) else (none)) else (none))) else (spec_Turned.l0 k x1 x6 (wrap64 (x7 + 1)) x339000 x339001 x339002 x339003 x339004 x339005)) else (none)) else (spec_Turned.l1 k x1 x6 0 x339000 x339001 x339002 x339003 x339004 x339005)
def spec_Turned.l1 : Nat → Int → List (List Int) → Int → Int → List (S92) → List (S94) → Int → List (S109) → List (S75) → Option ((List (List Int)) × Bool)
 | 0, _, _, _, _, _, _, _, _, _ => none
 | k + 1, x1, x6, x8, x339000, x339001, x339002, x339003, x339004, x339005 => if x8 < (x339002.length : Int) then (if 0 ≤ x8 then (if ((rd_T94 x339002 x8).f1) > x1 then ((some (([] : List Int) : List Int)).bind fun y352 => (if y352.length + ((rd_T94 x339002 x8).f0).length < 140737488355328 then (if x6.length < 5864062014805 then (spec_Turned.l1 k x1 (x6 ++ [(y352 ++ ((rd_T94 x339002 x8).f0))]) (wrap64 (x8 + 1)) x339000 x339001 x339002 x339003 x339004 x339005) else (none)) else (none))) else (spec_Turned.l1 k x1 x6 (wrap64 (x8 + 1)) x339000 x339001 x339002 x339003 x339004 x339005)) else (none)) else (some (x6, true))
end
def spec_Turned.f (k : Nat) (a0_0 : Int) (l0_1 : List (S92)) (l0_2 : List (S94)) (a0_3 : Int) (l0_4 : List (S109)) (l0_5 : List (S75)) (a1 : Int) : Option ((List (List Int)) × Bool) := (spec_StateOk.f k a0_0 l0_1 l0_2 a0_3 l0_4 l0_5).bind fun t339 => (if t339 = true then (spec_Turned.j0 k a1 ([] : List (List Int)) (decide (a1 < a0_3)) a0_0 l0_1 l0_2 a0_3 l0_4 l0_5) else (spec_Turned.j0 k a1 ([] : List (List Int)) true a0_0 l0_1 l0_2 a0_3 l0_4 l0_5))
set_option maxHeartbeats 8000000 in
set_option maxRecDepth 100000 in
theorem spec_Turned.calls (k : Nat) (a0_0 : Int) (A0_1 : Option Addr) (c0_1 : Nat) (l0_1 : List (S92)) (A0_2 : Option Addr) (c0_2 : Nat) (l0_2 : List (S94)) (a0_3 : Int) (A0_4 : Option Addr) (c0_4 : Nat) (l0_4 : List (S109)) (A0_5 : Option Addr) (c0_5 : Nat) (l0_5 : List (S75)) (a1 : Int) (r1 : List (List Int)) (r2 : Bool) (w : World) (hr0_1 : Kd.C k92 w A0_1 l0_1.length l0_1) (hc0_1 : l0_1.length ≤ c0_1) (hr0_2 : Kd.C k94 w A0_2 l0_2.length l0_2) (hc0_2 : l0_2.length ≤ c0_2) (hr0_4 : Kd.C k109 w A0_4 l0_4.length l0_4) (hc0_4 : l0_4.length ≤ c0_4) (hr0_5 : Kd.C k75 w A0_5 l0_5.length l0_5) (hc0_5 : l0_5.length ≤ c0_5) (h : spec_Turned.f k a0_0 l0_1 l0_2 a0_3 l0_4 l0_5 a1 = some (r1, r2)) :
  Calls Try.prog 66 #[.agg #[.int .i64 a0_0, .slice A0_1 l0_1.length c0_1, .slice A0_2 l0_2.length c0_2, .int .i64 a0_3, .slice A0_4 l0_4.length c0_4, .slice A0_5 l0_5.length c0_5], .int .i64 a1] w fun e w' => ∃ v0_ : Value, e = .returned (.tuple #[v0_, .bool r2]) ∧ Kd.S (Kd.slice 5 (Kd.int .u8)) 52 w' w.heap.size (fun _ => True) v0_ r1 ∧ Below w.heap.size w w' := by
 have hu35 := Try.underlying35
 have HR0_1 := Aside0.mk hr0_1
 have HC0_1 := Aside0.mk hc0_1
 clear hr0_1 hc0_1
 have HR0_2 := Aside0.mk hr0_2
 have HC0_2 := Aside0.mk hc0_2
 clear hr0_2 hc0_2
 have HR0_4 := Aside0.mk hr0_4
 have HC0_4 := Aside0.mk hc0_4
 clear hr0_4 hc0_4
 have HR0_5 := Aside0.mk hr0_5
 have HC0_5 := Aside0.mk hc0_5
 clear hr0_5 hc0_5
 have HB := Aside0.mk (Below.refl w.heap.size w)
 have H : ((spec_StateOk.f k a0_0 l0_1 l0_2 a0_3 l0_4 l0_5).bind fun t339 => (if t339 = true then (spec_Turned.j0 k a1 ([] : List (List Int)) (decide (a1 < a0_3)) a0_0 l0_1 l0_2 a0_3 l0_4 l0_5) else (spec_Turned.j0 k a1 ([] : List (List Int)) true a0_0 l0_1 l0_2 a0_3 l0_4 l0_5))) = some (r1, r2) := h
 clear h
 have HC3 := Aside0.mk H
 clear H
 go_enter Try.func66, Try.ntmps66
 go_upto_region 2 with (first | ((with_reducible refine gate_dst (N := 2) rfl ?_); refine bx_ 2 #[.int .i64 a0_0, .slice A0_1 l0_1.length c0_1, .slice A0_2 l0_2.length c0_2, .int .i64 a0_3, .slice A0_4 l0_4.length c0_4, .slice A0_5 l0_5.length c0_5] 35 (h := ?_); intro gb338 hg w4 hbox hb; have BK338 := Aside0.mk (hbox); have GW338 := Aside0.mk ((by rw [hg]; exact (below_size bel) : w.heap.size ≤ gb338)); have GE338 := GW338; replace HB := bst hb; clear hb hbox hg))
 (try simp only [Act.put, List.setIfInBounds_toArray, List.set_cons_zero, List.set_cons_succ])
 go_cut [17] (fun v17 wc => ∃ (kq : Nat) (x17_2 : Bool), v17 = .bool x17_2 ∧ Aside0 (spec_Turned.j0 kq a1 ([] : List (List Int)) x17_2 a0_0 l0_1 l0_2 a0_3 l0_4 l0_5 = some (r1, r2)) ∧ Aside0 (kq ≤ k) ∧ Aside0 (Kd.S (Kd.slice 5 (Kd.int .u8)) 52 wc w.heap.size (fun _ => True) (.slice none 0 0) ([] : List (List Int))) ∧ Aside0 (wc.heap[gb338]? = some (.cells #[.int .i64 a0_0, (.slice A0_1 l0_1.length c0_1), (.slice A0_2 l0_2.length c0_2), .int .i64 a0_3, (.slice A0_4 l0_4.length c0_4), (.slice A0_5 l0_5.length c0_5)] 35 (0, 0))) ∧ Aside0 (Below w.heap.size w wc))
 case first =>
  have H := HC3.out
  clear HC3
  replace H := Option.bind_eq_some_iff.mp H
  obtain ⟨t339, A50, H⟩ := H
  replace H : (if t339 = true then (spec_Turned.j0 k a1 ([] : List (List Int)) (decide (a1 < a0_3)) a0_0 l0_1 l0_2 a0_3 l0_4 l0_5) else (spec_Turned.j0 k a1 ([] : List (List Int)) true a0_0 l0_1 l0_2 a0_3 l0_4 l0_5)) = some (r1, r2) := H
  have A5 := Aside0.mk A50
  clear A50
  by_cases c6 : t339 = true
  ·subst c6
   have H1 : (spec_Turned.j0 k a1 ([] : List (List Int)) (decide (a1 < a0_3)) a0_0 l0_1 l0_2 a0_3 l0_4 l0_5) = some (r1, r2) := by rw [if_pos rfl] at H; exact H
   clear H
   have H := H1
   clear H1
   have H' := Aside0.mk H
   clear H
   obtain ⟨C7_0, C7_1, C7_2, C7_3, C7_4, C7_5, -⟩ := cells_6 BK338.out trivial
   obtain ⟨F7_0, F7_1, F7_2, F7_3, F7_4, F7_5, -⟩ := frz_6 BK338.out
   go_wp2_with (first | ((with_reducible refine gate_callee (f := 16) rfl ?_); refine gl_ (some 10) Try.func16 #[.agg #[.int .i64 a0_0, .slice A0_1 l0_1.length c0_1, .slice A0_2 l0_2.length c0_2, .int .i64 a0_3, .slice A0_4 l0_4.length c0_4, .slice A0_5 l0_5.length c0_5]] (h := ?_); (with_reducible refine (spec_StateOk.calls k a0_0 _ _ l0_1 _ _ l0_2 a0_3 _ _ l0_4 _ _ l0_5 true _ ?side1 ?side2 ?side3 ?side4 ?side5 ?side6 ?side7 ?side8 A5.out).mono ?_); (case side1 => exact kcb); (case side2 => exact HC0_1.out); (case side3 => exact kcb); (case side4 => exact HC0_2.out); (case side5 => exact kcb); (case side6 => exact HC0_4.out); (case side7 => exact kcb); (case side8 => exact HC0_5.out); rintro e w8 ⟨rfl, hb⟩; refine ⟨_, rfl, ?_⟩; replace BK338 := Aside0.mk (blb BK338 hb); replace HB := bst hb; (try clear hb); (try clear hb2); (try clear hk); (try clear hi); obtain ⟨C9_0, C9_1, C9_2, C9_3, C9_4, C9_5, -⟩ := cells_6 BK338.out trivial; obtain ⟨F9_0, F9_1, F9_2, F9_3, F9_4, F9_5, -⟩ := frz_6 BK338.out))
   go_meet
   case rel => exact ⟨_, (decide (a1 < a0_3)), rs_, H', ⟨by first | omega | exact Nat.le_refl _⟩, ⟨by first | exact Kd.S_nil _ _ _ _ _ | exact Kd.N_nil _ _ _ _ _ | exact Kd.V_nil _ _ _ _ _ | exact Kd.Q_nil _ _ _ _ _ | exact Kd.R_nil _ _ _ _ _⟩, ⟨bkp BK338⟩, ⟨bel⟩⟩
  replace c6 := Bool.eq_false_iff.mpr c6
  subst c6
  have H1 : (spec_Turned.j0 k a1 ([] : List (List Int)) true a0_0 l0_1 l0_2 a0_3 l0_4 l0_5) = some (r1, r2) := by rw [if_neg (show ¬ (false = true) by decide)] at H; exact H
  clear H
  have H := H1
  clear H1
  have H' := Aside0.mk H
  clear H
  obtain ⟨C10_0, C10_1, C10_2, C10_3, C10_4, C10_5, -⟩ := cells_6 BK338.out trivial
  obtain ⟨F10_0, F10_1, F10_2, F10_3, F10_4, F10_5, -⟩ := frz_6 BK338.out
  go_wp2_with (first | ((with_reducible refine gate_callee (f := 16) rfl ?_); refine gl_ (some 10) Try.func16 #[.agg #[.int .i64 a0_0, .slice A0_1 l0_1.length c0_1, .slice A0_2 l0_2.length c0_2, .int .i64 a0_3, .slice A0_4 l0_4.length c0_4, .slice A0_5 l0_5.length c0_5]] (h := ?_); (with_reducible refine (spec_StateOk.calls k a0_0 _ _ l0_1 _ _ l0_2 a0_3 _ _ l0_4 _ _ l0_5 false _ ?side1 ?side2 ?side3 ?side4 ?side5 ?side6 ?side7 ?side8 A5.out).mono ?_); (case side1 => exact kcb); (case side2 => exact HC0_1.out); (case side3 => exact kcb); (case side4 => exact HC0_2.out); (case side5 => exact kcb); (case side6 => exact HC0_4.out); (case side7 => exact kcb); (case side8 => exact HC0_5.out); rintro e w11 ⟨rfl, hb⟩; refine ⟨_, rfl, ?_⟩; replace BK338 := Aside0.mk (blb BK338 hb); replace HB := bst hb; (try clear hb); (try clear hb2); (try clear hk); (try clear hi)))
  go_meet
  case rel => exact ⟨_, (true), rs_, H', ⟨by first | omega | exact Nat.le_refl _⟩, ⟨by first | exact Kd.S_nil _ _ _ _ _ | exact Kd.N_nil _ _ _ _ _ | exact Kd.V_nil _ _ _ _ _ | exact Kd.Q_nil _ _ _ _ _ | exact Kd.R_nil _ _ _ _ _⟩, ⟨bkp BK338⟩, ⟨bel⟩⟩
 case rest =>
  clear HC3
  try clear c1; try clear p2; try clear c6; try clear C10_0 C10_1 C10_2 C10_3 C10_4 C10_5; try clear C7_0 C7_1 C7_2 C7_3 C7_4 C7_5; try clear C9_0 C9_1 C9_2 C9_3 C9_4 C9_5; try clear F10_0 F10_1 F10_2 F10_3 F10_4 F10_5; try clear F7_0 F7_1 F7_2 F7_3 F7_4 F7_5; try clear F9_0 F9_1 F9_2 F9_3 F9_4 F9_5
  obtain ⟨kq, x17_2, rfl, HA, HJ2, HO_6, BK338, HB⟩ := hcut
  cases kq with
  | zero => exact absurd HA.out (by simp [spec_Turned.j0])
  | succ kj2 =>
   have H := HA.out
   clear HA
   simp only [spec_Turned.j0] at H
   by_cases c12 : x17_2 = true
   ·subst c12
    have H1 : (some (([] : List (List Int)), false)) = some (r1, r2) := by rw [if_pos rfl] at H; exact H
    clear H
    have H := H1
    clear H1
    simp only [Option.some.injEq, Prod.mk.injEq] at H
    obtain ⟨rfl, rfl⟩ := H
    go_wp2
    go_ret2
    exact ⟨_, rz_, by first | exact Kd.S_nil _ _ _ _ _ | exact Kd.N_nil _ _ _ _ _ | exact Kd.V_nil _ _ _ _ _ | exact Kd.Q_nil _ _ _ _ _ | exact Kd.R_nil _ _ _ _ _, bel⟩
   replace c12 := Bool.eq_false_iff.mpr c12
   subst c12
   have H1 : (spec_Turned.l0 kj2 a1 ([] : List (List Int)) 0 a0_0 l0_1 l0_2 a0_3 l0_4 l0_5) = some (r1, r2) := by rw [if_neg (show ¬ (false = true) by decide)] at H; exact H
   clear H
   have H := H1
   clear H1
   have H' := Aside0.mk H
   clear H
   go_wp2
   go_loopg [6, 7] kj2 (fun kq v6 v7 w' => ∃ (x6_2 : List (List Int)) (x7_2 : Int), v7 = .int .i64 x7_2 ∧ Aside0 (spec_Turned.l0 kq a1 x6_2 x7_2 a0_0 l0_1 l0_2 a0_3 l0_4 l0_5 = some (r1, r2)) ∧ Aside0 (kq ≤ kj2) ∧ Aside0 (Kd.S (Kd.slice 5 (Kd.int .u8)) 52 w' w.heap.size (fun _ => True) v6 x6_2) ∧ Aside0 (w'.heap[gb338]? = some (.cells #[.int .i64 a0_0, (.slice A0_1 l0_1.length c0_1), (.slice A0_2 l0_2.length c0_2), .int .i64 a0_3, (.slice A0_4 l0_4.length c0_4), (.slice A0_5 l0_5.length c0_5)] 35 (0, 0))) ∧ Aside0 (Below w.heap.size w w'))
   case atStart => exact ⟨(([] : List (List Int))), (0), rs_, H', ⟨Nat.le_refl _⟩, ⟨skp HO_6⟩, ⟨bkp BK338⟩, ⟨bel⟩⟩
   case round =>
    clear H'
    try clear c1; try clear p2; try clear c6; try clear c12; try clear C10_0 C10_1 C10_2 C10_3 C10_4 C10_5; try clear C7_0 C7_1 C7_2 C7_3 C7_4 C7_5; try clear C9_0 C9_1 C9_2 C9_3 C9_4 C9_5; try clear F10_0 F10_1 F10_2 F10_3 F10_4 F10_5; try clear F7_0 F7_1 F7_2 F7_3 F7_4 F7_5; try clear F9_0 F9_1 F9_2 F9_3 F9_4 F9_5; try clear p2
    obtain ⟨x6_2, x7_2, rfl, HA, HK2, HO_6, BK338, HB⟩ := hrel
    cases gk with
    | zero => exact absurd HA.out (by simp [spec_Turned.l0])
    | succ k2 =>
     have H := HA.out
     clear HA
     simp only [spec_Turned.l0] at H
     by_cases c13 : x7_2 < (l0_1.length : Int)
     ·rw [if_pos c13] at H
      have c13b0 : decide (x7_2 < (l0_1.length : Int)) = true := decide_eq_true c13
      clear c13
      by_cases c14 : 0 ≤ x7_2
      ·rw [if_pos c14] at H
       have c14b0 : decide (0 ≤ x7_2) = true := decide_eq_true c14
       clear c14
       by_cases c15 : ((rd_T92 l0_1 x7_2).f2) > a1
       ·rw [if_pos c15] at H
        have c15b0 : decide (a1 < ((rd_T92 l0_1 x7_2).f2)) = true := decide_eq_true c15
        clear c15
        obtain ⟨y341, hy341⟩ : ∃ y_ : List Int, y_ = (([] : List Int)) := ⟨_, rfl⟩
        replace H : (if y341.length + ((rd_T92 l0_1 x7_2).f0).length < 140737488355328 then (if x6_2.length < 5864062014805 then (spec_Turned.l0 k2 a1 (x6_2 ++ [(y341 ++ ((rd_T92 l0_1 x7_2).f0))]) (wrap64 (x7_2 + 1)) a0_0 l0_1 l0_2 a0_3 l0_4 l0_5) else (none)) else (none)) = some (r1, r2) := by first | (rw [hy341]; with_reducible exact H) | (have H2_ := (Option.bind_some _ _).symm.trans H; rw [hy341]; with_reducible exact H2_) | (have H2_ := (Option.bind_some _ _).symm.trans H; with_reducible exact H2_) | with_reducible exact H | (rw [hy341]; exact H) | exact H
        have Ny341 := Aside0.mk hy341
        clear hy341
        by_cases c16 : y341.length + ((rd_T92 l0_1 x7_2).f0).length < 140737488355328
        ·rw [if_pos c16] at H
         have LMc16 := Aside0.mk c16
         clear c16
         obtain ⟨y345, hy345⟩ : ∃ y_ : List Int, y_ = (y341 ++ ((rd_T92 l0_1 x7_2).f0)) := ⟨_, rfl⟩
         replace H : (if x6_2.length < 5864062014805 then (spec_Turned.l0 k2 a1 (x6_2 ++ [y345]) (wrap64 (x7_2 + 1)) a0_0 l0_1 l0_2 a0_3 l0_4 l0_5) else (none)) = some (r1, r2) := by first | (rw [hy345]; with_reducible exact H) | (have H2_ := (Option.bind_some _ _).symm.trans H; rw [hy345]; with_reducible exact H2_) | (have H2_ := (Option.bind_some _ _).symm.trans H; with_reducible exact H2_) | with_reducible exact H | (rw [hy345]; exact H) | exact H
         have Ny345 := Aside0.mk hy345
         clear hy345
         by_cases c17 : x6_2.length < 5864062014805
         ·rw [if_pos c17] at H
          have LMc17 := Aside0.mk c17
          clear c17
          obtain ⟨y348, hy348⟩ : ∃ y_ : List (List Int), y_ = (x6_2 ++ [y345]) := ⟨_, rfl⟩
          replace H : (spec_Turned.l0 k2 a1 y348 (wrap64 (x7_2 + 1)) a0_0 l0_1 l0_2 a0_3 l0_4 l0_5) = some (r1, r2) := by first | (rw [hy348]; with_reducible exact H) | (have H2_ := (Option.bind_some _ _).symm.trans H; rw [hy348]; with_reducible exact H2_) | (have H2_ := (Option.bind_some _ _).symm.trans H; with_reducible exact H2_) | with_reducible exact H | (rw [hy348]; exact H) | exact H
          have Ny348 := Aside0.mk hy348
          clear hy348
          have H' := Aside0.mk H
          clear H
          obtain ⟨C18_0, C18_1, C18_2, C18_3, C18_4, C18_5, -⟩ := cells_6 BK338.out trivial
          obtain ⟨F18_0, F18_1, F18_2, F18_3, F18_4, F18_5, -⟩ := frz_6 BK338.out
          have p340 : 0 ≤ (x7_2 : Int) := od
          have q340 : x7_2 < (l0_1.length : Int) := od
          obtain ⟨ad340, A340_0, c340_0, A340_1, c340_1, e340, hx340_0, hx340_1, hx340_2, hx340_3, hl340_0, hi340_0, hl340_1, hi340_1⟩ := at_T92 HR0_1.out x7_2 p340 q340
          cases e340
          replace hx340_0 := hxb HB hx340_0
          replace hx340_1 := hxb HB hx340_1
          replace hx340_2 := hxb HB hx340_2
          replace hx340_3 := hxb HB hx340_3
          have HR340_0 := Aside0.mk hi340_0
          have HC340_0 := Aside0.mk hl340_0
          clear hi340_0 hl340_0
          have HR340_1 := Aside0.mk hi340_1
          have HC340_1 := Aside0.mk hl340_1
          clear hi340_1 hl340_1
          replace p340 := eq_true p340
          replace q340 := eq_true q340
          go_wp2_with (first | ((with_reducible refine gate_dst (N := 34) rfl ?_); refine Kd.R_lit (Kd.int .u8) _ 5 ?hg (N := 34) ?hd (xs := ([] : List Int)) (inner := []) (ok := fun _ => True) (okp := fun _ => True) ?hr ?hp (fun _ hk => hk) trivial (Below.refl _ _) (Nat.le_refl _) (by simp) ?_; (case hd => rfl); (case hg => rfl); (case hr => first | (go_simp; done) | (go_simp; rfl)); (case hp => exact (Reps.none _ _)); intro v342 w19 ho20 hb hg_ hnew_; clear hg_ hnew_; (first | rw [← Ny341.out] at ho20 | (simp only [Int.reduceToNat] at ho20; rw [← Ny341.out] at ho20)); have HO343 := Aside0.mk (Kd.R_lower ho20 (below_size bel)); replace HO_6 := Aside0.mk (Kd.S_elder' (skp HO_6) (Kd.R_base ho20) hb); replace BK338 := Aside0.mk (blb BK338 hb); replace HB := bst hb; clear hb ho20; obtain ⟨C21_0, C21_1, C21_2, C21_3, C21_4, C21_5, -⟩ := cells_6 BK338.out trivial; obtain ⟨F21_0, F21_1, F21_2, F21_3, F21_4, F21_5, -⟩ := frz_6 BK338.out; have p344 : 0 ≤ (x7_2 : Int) := od; have q344 : x7_2 < (l0_1.length : Int) := od; obtain ⟨ad344, A344_0, c344_0, A344_1, c344_1, e344, hx344_0, hx344_1, hx344_2, hx344_3, hl344_0, hi344_0, hl344_1, hi344_1⟩ := at_T92 HR0_1.out x7_2 p344 q344; obtain rfl : ad340 = ad344 := (by injection e344); replace hx344_0 := hxb HB hx344_0; replace hx344_1 := hxb HB hx344_1; replace hx344_2 := hxb HB hx344_2; replace hx344_3 := hxb HB hx344_3; have HR344_0 := Aside0.mk hi344_0; have HC344_0 := Aside0.mk hl344_0; clear hi344_0 hl344_0; have HR344_1 := Aside0.mk hi344_1; have HC344_1 := Aside0.mk hl344_1; clear hi344_1 hl344_1; replace p344 := eq_true p344; replace q344 := eq_true q344) | ((with_reducible refine gate_builtin (b := .append) (xs := #[.tmp 34, .tmp 40]) rfl ?_); at_builtin; refine Kd.R_append_rows (Kd.int .u8) (w0 := w) w.heap.size rfl (.tmp 34) (.tmp 40) 52 5 (.int .u8 0) 1 rfl Try.underlying52 info5 rfl (by decide) (by omega) v342 y341 ((rd_T92 l0_1 x7_2).f0) _ _ _ (fun _ => True) (fun _ => False) rfl rfl ?aO ?aR (fun _ _ h => h) (fun _ h => h.elim) ?aF ?aB ?aS ?aL ?_; (case aR => repeat (first | exact (Kd.C_below HR344_0.out HB.out) | (with_reducible refine Kd.C_alloc ?_ _) | (with_reducible refine Kd.C_drewN ?_ _) | (with_reducible refine Kd.C_drew ?_))); (case aB => exact bel); (case aF => exact (fun _ _ => trivial)); (case aO => exact (rkp HO343)); (case aS => exact (below_size bel)); (case aL => have := LMc16.out; omega); intro v346 w22 ho hb hg hat; rw [← Ny345.out] at ho; have n0_ := Aside0.mk (Kd.S_after (ok := (fun _ => True)) (skp HO_6) hg hat); have n1_ := Aside0.mk (blk_grown (g := gb338) (o := .cells #[.int .i64 a0_0, .slice (some ad340) l0_1.length c0_1, .slice A0_2 l0_2.length c0_2, .int .i64 a0_3, .slice A0_4 l0_4.length c0_4, .slice A0_5 l0_5.length c0_5] 35 (0, 0)) (bkp BK338) hg (Kd.R_ne HO343.out BK338.out (by decide))); have n2_ := Aside0.mk (hb); have n3_ := Aside0.mk (ho); clear HO_6; clear BK338; clear HB; clear HO343; have HO_6 := n0_; have BK338 := n1_; have HB := n2_; have HO347 := n3_; clear n0_ n1_ n2_ n3_; clear ho hb hg hat; obtain ⟨Ao24, co24, eo24⟩ := Kd.R_slice HO347.out; subst eo24) | ((with_reducible refine gate_builtin (b := .append) (xs := #[.tmp 33, .tmp 42]) rfl ?_); at_builtin; refine Kd.S_append (Kd.slice 5 (Kd.int .u8)) (w0 := w) w.heap.size rfl (.tmp 33) (.tmp 42) 84 52 (.slice none 0 0) 24 rfl Try.underlying84 info52 rfl (by decide) (by omega) u6 x6_2 y345 [.slice Ao24 y345.length co24] (fun _ => True) (fun k_ => some k_ = (.slice Ao24 y345.length co24 : Value).ownBlock) rfl rfl ?aP (fun k_ hk_ => ((Kd.R_mono (ok' := fun k_ => ((fun _ => True)) k_ ∧ some k_ ≠ (u6 : Value).ownBlock) (Kd.R_apart' (HO347.out) (Kd.S_typed HO_6.out) (by decide)) (fun k_ hk => ⟨trivial, hk.2⟩))).1 k_ hk_.symm) ?aF ?aO ?aB ?aS ?aL ?_; (case aP => exact Kd.M_row (Kd.R_mono (Kd.R_tight rfl (Kd.R_mono (ok' := fun k_ => ((fun _ => True)) k_ ∧ some k_ ≠ (u6 : Value).ownBlock) (Kd.R_apart' (HO347.out) (Kd.S_typed HO_6.out) (by decide)) (fun k_ hk => ⟨trivial, hk.2⟩))) (fun _ h_ => h_))); (case aB => exact bel); (case aF => exact (fun _ _ => trivial)); (case aO => exact (by (with_reducible repeat (first | apply Kd.S_alloc | apply Kd.S_drewN | apply Kd.S_drew)); exact Kd.S_mono HO_6.out (fun k_ hk => ⟨trivial, fun e_ => hk.2 e_⟩))); (case aS => exact (below_size bel)); (case aL => have := LMc17.out; omega); intro v349 w23 ho hb hg hat; rw [← Ny348.out] at ho; have n0_ := Aside0.mk (blk_grown (g := gb338) (o := .cells #[.int .i64 a0_0, .slice (some ad340) l0_1.length c0_1, .slice A0_2 l0_2.length c0_2, .int .i64 a0_3, .slice A0_4 l0_4.length c0_4, .slice A0_5 l0_5.length c0_5] 35 (0, 0)) (bkp BK338) hg (Kd.S_ne HO_6.out BK338.out (by decide))); have n1_ := Aside0.mk (hb); have n2_ := Aside0.mk (ho); clear BK338; clear HB; clear HO_6; clear HO347; have BK338 := n0_; have HB := n1_; have HO350 := n2_; clear n0_ n1_ n2_; clear ho hb hg hat))
          go_roundg k2
          case measure => have := HJ2.out; have := HK2.out; omega
          case rel => exact ⟨(y348), (wrap64 (x7_2 + 1)), rs_, H', ⟨by have := HJ2.out; have := HK2.out; omega⟩, ⟨skp HO350⟩, ⟨bkp BK338⟩, ⟨bel⟩⟩
         rw [if_neg c17] at H
         exact absurd H (by simp)
        rw [if_neg c16] at H
        exact absurd H (by simp)
       rw [if_neg c15] at H
       have c15b0 : decide (a1 < ((rd_T92 l0_1 x7_2).f2)) = false := decide_eq_false c15
       clear c15
       have H' := Aside0.mk H
       clear H
       obtain ⟨C25_0, C25_1, C25_2, C25_3, C25_4, C25_5, -⟩ := cells_6 BK338.out trivial
       obtain ⟨F25_0, F25_1, F25_2, F25_3, F25_4, F25_5, -⟩ := frz_6 BK338.out
       have p340 : 0 ≤ (x7_2 : Int) := od
       have q340 : x7_2 < (l0_1.length : Int) := od
       obtain ⟨ad340, A340_0, c340_0, A340_1, c340_1, e340, hx340_0, hx340_1, hx340_2, hx340_3, hl340_0, hi340_0, hl340_1, hi340_1⟩ := at_T92 HR0_1.out x7_2 p340 q340
       cases e340
       replace hx340_0 := hxb HB hx340_0
       replace hx340_1 := hxb HB hx340_1
       replace hx340_2 := hxb HB hx340_2
       replace hx340_3 := hxb HB hx340_3
       have HR340_0 := Aside0.mk hi340_0
       have HC340_0 := Aside0.mk hl340_0
       clear hi340_0 hl340_0
       have HR340_1 := Aside0.mk hi340_1
       have HC340_1 := Aside0.mk hl340_1
       clear hi340_1 hl340_1
       replace p340 := eq_true p340
       replace q340 := eq_true q340
       go_wp2
       go_roundg k2
       case measure => have := HJ2.out; have := HK2.out; omega
       case rel => exact ⟨(x6_2), (wrap64 (x7_2 + 1)), rs_, H', ⟨by have := HJ2.out; have := HK2.out; omega⟩, ⟨skp HO_6⟩, ⟨bkp BK338⟩, ⟨bel⟩⟩
      rw [if_neg c14] at H
      exact absurd H (by simp)
     rw [if_neg c13] at H
     have c13b0 : decide (x7_2 < (l0_1.length : Int)) = false := decide_eq_false c13
     clear c13
     have H' := Aside0.mk H
     clear H
     obtain ⟨C26_0, C26_1, C26_2, C26_3, C26_4, C26_5, -⟩ := cells_6 BK338.out trivial
     obtain ⟨F26_0, F26_1, F26_2, F26_3, F26_4, F26_5, -⟩ := frz_6 BK338.out
     go_wp2
     go_loopg [6, 8] k2 (fun kq v6 v8 w' => ∃ (x6_3 : List (List Int)) (x8_3 : Int), v8 = .int .i64 x8_3 ∧ Aside0 (spec_Turned.l1 kq a1 x6_3 x8_3 a0_0 l0_1 l0_2 a0_3 l0_4 l0_5 = some (r1, r2)) ∧ Aside0 (kq ≤ k2) ∧ Aside0 (Kd.S (Kd.slice 5 (Kd.int .u8)) 52 w' w.heap.size (fun _ => True) v6 x6_3) ∧ Aside0 (w'.heap[gb338]? = some (.cells #[.int .i64 a0_0, (.slice A0_1 l0_1.length c0_1), (.slice A0_2 l0_2.length c0_2), .int .i64 a0_3, (.slice A0_4 l0_4.length c0_4), (.slice A0_5 l0_5.length c0_5)] 35 (0, 0))) ∧ Aside0 (Below w.heap.size w w'))
     case atStart => exact ⟨(x6_2), (0), rs_, H', ⟨Nat.le_refl _⟩, ⟨skp HO_6⟩, ⟨bkp BK338⟩, ⟨bel⟩⟩
     case round =>
      clear H'
      try clear c1; try clear p2; try clear c3; try clear p3; try clear q3; try clear hx3; try clear c6; try clear p6; try clear c12; try clear c13; try clear c13b0; try clear c14; try clear c14b0; try clear c15; try clear c15b0; try clear c16; try clear c17; try clear C10_0 C10_1 C10_2 C10_3 C10_4 C10_5; try clear C18_0 C18_1 C18_2 C18_3 C18_4 C18_5; try clear C21_0 C21_1 C21_2 C21_3 C21_4 C21_5; try clear C25_0 C25_1 C25_2 C25_3 C25_4 C25_5; try clear C26_0 C26_1 C26_2 C26_3 C26_4 C26_5; try clear C7_0 C7_1 C7_2 C7_3 C7_4 C7_5; try clear C9_0 C9_1 C9_2 C9_3 C9_4 C9_5; try clear F10_0 F10_1 F10_2 F10_3 F10_4 F10_5; try clear F18_0 F18_1 F18_2 F18_3 F18_4 F18_5; try clear F21_0 F21_1 F21_2 F21_3 F21_4 F21_5; try clear F25_0 F25_1 F25_2 F25_3 F25_4 F25_5; try clear F26_0 F26_1 F26_2 F26_3 F26_4 F26_5; try clear F7_0 F7_1 F7_2 F7_3 F7_4 F7_5; try clear F9_0 F9_1 F9_2 F9_3 F9_4 F9_5; try clear hx340_0; try clear hx340_1; try clear hx340_2; try clear hx340_3; try clear hx344_0; try clear hx344_1; try clear hx344_2; try clear hx344_3; try clear p2; try clear p340; try clear p344; try clear q340; try clear q344
      obtain ⟨x6_3, x8_3, rfl, HA, HK3, HO_6, BK338, HB⟩ := hrel
      cases gk with
      | zero => exact absurd HA.out (by simp [spec_Turned.l1])
      | succ k3 =>
       have H := HA.out
       clear HA
       simp only [spec_Turned.l1] at H
       by_cases c27 : x8_3 < (l0_2.length : Int)
       ·rw [if_pos c27] at H
        have c27b0 : decide (x8_3 < (l0_2.length : Int)) = true := decide_eq_true c27
        clear c27
        by_cases c28 : 0 ≤ x8_3
        ·rw [if_pos c28] at H
         have c28b0 : decide (0 ≤ x8_3) = true := decide_eq_true c28
         clear c28
         by_cases c29 : ((rd_T94 l0_2 x8_3).f1) > a1
         ·rw [if_pos c29] at H
          have c29b0 : decide (a1 < ((rd_T94 l0_2 x8_3).f1)) = true := decide_eq_true c29
          clear c29
          obtain ⟨y352, hy352⟩ : ∃ y_ : List Int, y_ = (([] : List Int)) := ⟨_, rfl⟩
          replace H : (if y352.length + ((rd_T94 l0_2 x8_3).f0).length < 140737488355328 then (if x6_3.length < 5864062014805 then (spec_Turned.l1 k3 a1 (x6_3 ++ [(y352 ++ ((rd_T94 l0_2 x8_3).f0))]) (wrap64 (x8_3 + 1)) a0_0 l0_1 l0_2 a0_3 l0_4 l0_5) else (none)) else (none)) = some (r1, r2) := by first | (rw [hy352]; with_reducible exact H) | (have H2_ := (Option.bind_some _ _).symm.trans H; rw [hy352]; with_reducible exact H2_) | (have H2_ := (Option.bind_some _ _).symm.trans H; with_reducible exact H2_) | with_reducible exact H | (rw [hy352]; exact H) | exact H
          have Ny352 := Aside0.mk hy352
          clear hy352
          by_cases c30 : y352.length + ((rd_T94 l0_2 x8_3).f0).length < 140737488355328
          ·rw [if_pos c30] at H
           have LMc30 := Aside0.mk c30
           clear c30
           obtain ⟨y356, hy356⟩ : ∃ y_ : List Int, y_ = (y352 ++ ((rd_T94 l0_2 x8_3).f0)) := ⟨_, rfl⟩
           replace H : (if x6_3.length < 5864062014805 then (spec_Turned.l1 k3 a1 (x6_3 ++ [y356]) (wrap64 (x8_3 + 1)) a0_0 l0_1 l0_2 a0_3 l0_4 l0_5) else (none)) = some (r1, r2) := by first | (rw [hy356]; with_reducible exact H) | (have H2_ := (Option.bind_some _ _).symm.trans H; rw [hy356]; with_reducible exact H2_) | (have H2_ := (Option.bind_some _ _).symm.trans H; with_reducible exact H2_) | with_reducible exact H | (rw [hy356]; exact H) | exact H
           have Ny356 := Aside0.mk hy356
           clear hy356
           by_cases c31 : x6_3.length < 5864062014805
           ·rw [if_pos c31] at H
            have LMc31 := Aside0.mk c31
            clear c31
            obtain ⟨y359, hy359⟩ : ∃ y_ : List (List Int), y_ = (x6_3 ++ [y356]) := ⟨_, rfl⟩
            replace H : (spec_Turned.l1 k3 a1 y359 (wrap64 (x8_3 + 1)) a0_0 l0_1 l0_2 a0_3 l0_4 l0_5) = some (r1, r2) := by first | (rw [hy359]; with_reducible exact H) | (have H2_ := (Option.bind_some _ _).symm.trans H; rw [hy359]; with_reducible exact H2_) | (have H2_ := (Option.bind_some _ _).symm.trans H; with_reducible exact H2_) | with_reducible exact H | (rw [hy359]; exact H) | exact H
            have Ny359 := Aside0.mk hy359
            clear hy359
            have H' := Aside0.mk H
            clear H
            obtain ⟨C32_0, C32_1, C32_2, C32_3, C32_4, C32_5, -⟩ := cells_6 BK338.out trivial
            obtain ⟨F32_0, F32_1, F32_2, F32_3, F32_4, F32_5, -⟩ := frz_6 BK338.out
            have p351 : 0 ≤ (x8_3 : Int) := od
            have q351 : x8_3 < (l0_2.length : Int) := od
            obtain ⟨ad351, A351_0, c351_0, e351, hx351_0, hx351_1, hl351_0, hi351_0⟩ := at_T94 HR0_2.out x8_3 p351 q351
            cases e351
            replace hx351_0 := hxb HB hx351_0
            replace hx351_1 := hxb HB hx351_1
            have HR351_0 := Aside0.mk hi351_0
            have HC351_0 := Aside0.mk hl351_0
            clear hi351_0 hl351_0
            replace p351 := eq_true p351
            replace q351 := eq_true q351
            go_wp2_with (first | ((with_reducible refine gate_dst (N := 60) rfl ?_); refine Kd.R_lit (Kd.int .u8) _ 5 ?hg (N := 60) ?hd (xs := ([] : List Int)) (inner := []) (ok := fun _ => True) (okp := fun _ => True) ?hr ?hp (fun _ hk => hk) trivial (Below.refl _ _) (Nat.le_refl _) (by simp) ?_; (case hd => rfl); (case hg => rfl); (case hr => first | (go_simp; done) | (go_simp; rfl)); (case hp => exact (Reps.none _ _)); intro v353 w33 ho34 hb hg_ hnew_; clear hg_ hnew_; (first | rw [← Ny352.out] at ho34 | (simp only [Int.reduceToNat] at ho34; rw [← Ny352.out] at ho34)); have HO354 := Aside0.mk (Kd.R_lower ho34 (below_size bel)); replace HO_6 := Aside0.mk (Kd.S_elder' (skp HO_6) (Kd.R_base ho34) hb); replace BK338 := Aside0.mk (blb BK338 hb); replace HB := bst hb; clear hb ho34; obtain ⟨C35_0, C35_1, C35_2, C35_3, C35_4, C35_5, -⟩ := cells_6 BK338.out trivial; obtain ⟨F35_0, F35_1, F35_2, F35_3, F35_4, F35_5, -⟩ := frz_6 BK338.out; have p355 : 0 ≤ (x8_3 : Int) := od; have q355 : x8_3 < (l0_2.length : Int) := od; obtain ⟨ad355, A355_0, c355_0, e355, hx355_0, hx355_1, hl355_0, hi355_0⟩ := at_T94 HR0_2.out x8_3 p355 q355; obtain rfl : ad351 = ad355 := (by injection e355); replace hx355_0 := hxb HB hx355_0; replace hx355_1 := hxb HB hx355_1; have HR355_0 := Aside0.mk hi355_0; have HC355_0 := Aside0.mk hl355_0; clear hi355_0 hl355_0; replace p355 := eq_true p355; replace q355 := eq_true q355) | ((with_reducible refine gate_builtin (b := .append) (xs := #[.tmp 60, .tmp 66]) rfl ?_); at_builtin; refine Kd.R_append_rows (Kd.int .u8) (w0 := w) w.heap.size rfl (.tmp 60) (.tmp 66) 52 5 (.int .u8 0) 1 rfl Try.underlying52 info5 rfl (by decide) (by omega) v353 y352 ((rd_T94 l0_2 x8_3).f0) _ _ _ (fun _ => True) (fun _ => False) rfl rfl ?aO ?aR (fun _ _ h => h) (fun _ h => h.elim) ?aF ?aB ?aS ?aL ?_; (case aR => repeat (first | exact (Kd.C_below HR355_0.out HB.out) | (with_reducible refine Kd.C_alloc ?_ _) | (with_reducible refine Kd.C_drewN ?_ _) | (with_reducible refine Kd.C_drew ?_))); (case aB => exact bel); (case aF => exact (fun _ _ => trivial)); (case aO => exact (rkp HO354)); (case aS => exact (below_size bel)); (case aL => have := LMc30.out; omega); intro v357 w36 ho hb hg hat; rw [← Ny356.out] at ho; have n0_ := Aside0.mk (Kd.S_after (ok := (fun _ => True)) (skp HO_6) hg hat); have n1_ := Aside0.mk (blk_grown (g := gb338) (o := .cells #[.int .i64 a0_0, .slice A0_1 l0_1.length c0_1, .slice (some ad351) l0_2.length c0_2, .int .i64 a0_3, .slice A0_4 l0_4.length c0_4, .slice A0_5 l0_5.length c0_5] 35 (0, 0)) (bkp BK338) hg (Kd.R_ne HO354.out BK338.out (by decide))); have n2_ := Aside0.mk (hb); have n3_ := Aside0.mk (ho); clear HO_6; clear BK338; clear HB; clear HO354; have HO_6 := n0_; have BK338 := n1_; have HB := n2_; have HO358 := n3_; clear n0_ n1_ n2_ n3_; clear ho hb hg hat; obtain ⟨Ao38, co38, eo38⟩ := Kd.R_slice HO358.out; subst eo38) | ((with_reducible refine gate_builtin (b := .append) (xs := #[.tmp 59, .tmp 68]) rfl ?_); at_builtin; refine Kd.S_append (Kd.slice 5 (Kd.int .u8)) (w0 := w) w.heap.size rfl (.tmp 59) (.tmp 68) 84 52 (.slice none 0 0) 24 rfl Try.underlying84 info52 rfl (by decide) (by omega) u6 x6_3 y356 [.slice Ao38 y356.length co38] (fun _ => True) (fun k_ => some k_ = (.slice Ao38 y356.length co38 : Value).ownBlock) rfl rfl ?aP (fun k_ hk_ => ((Kd.R_mono (ok' := fun k_ => ((fun _ => True)) k_ ∧ some k_ ≠ (u6 : Value).ownBlock) (Kd.R_apart' (HO358.out) (Kd.S_typed HO_6.out) (by decide)) (fun k_ hk => ⟨trivial, hk.2⟩))).1 k_ hk_.symm) ?aF ?aO ?aB ?aS ?aL ?_; (case aP => exact Kd.M_row (Kd.R_mono (Kd.R_tight rfl (Kd.R_mono (ok' := fun k_ => ((fun _ => True)) k_ ∧ some k_ ≠ (u6 : Value).ownBlock) (Kd.R_apart' (HO358.out) (Kd.S_typed HO_6.out) (by decide)) (fun k_ hk => ⟨trivial, hk.2⟩))) (fun _ h_ => h_))); (case aB => exact bel); (case aF => exact (fun _ _ => trivial)); (case aO => exact (by (with_reducible repeat (first | apply Kd.S_alloc | apply Kd.S_drewN | apply Kd.S_drew)); exact Kd.S_mono HO_6.out (fun k_ hk => ⟨trivial, fun e_ => hk.2 e_⟩))); (case aS => exact (below_size bel)); (case aL => have := LMc31.out; omega); intro v360 w37 ho hb hg hat; rw [← Ny359.out] at ho; have n0_ := Aside0.mk (blk_grown (g := gb338) (o := .cells #[.int .i64 a0_0, .slice A0_1 l0_1.length c0_1, .slice (some ad351) l0_2.length c0_2, .int .i64 a0_3, .slice A0_4 l0_4.length c0_4, .slice A0_5 l0_5.length c0_5] 35 (0, 0)) (bkp BK338) hg (Kd.S_ne HO_6.out BK338.out (by decide))); have n1_ := Aside0.mk (hb); have n2_ := Aside0.mk (ho); clear BK338; clear HB; clear HO_6; clear HO358; have BK338 := n0_; have HB := n1_; have HO361 := n2_; clear n0_ n1_ n2_; clear ho hb hg hat))
            go_roundg k3
            case measure => have := HJ2.out; have := HK2.out; have := HK3.out; omega
            case rel => exact ⟨(y359), (wrap64 (x8_3 + 1)), rs_, H', ⟨by have := HJ2.out; have := HK2.out; have := HK3.out; omega⟩, ⟨skp HO361⟩, ⟨bkp BK338⟩, ⟨bel⟩⟩
           rw [if_neg c31] at H
           exact absurd H (by simp)
          rw [if_neg c30] at H
          exact absurd H (by simp)
         rw [if_neg c29] at H
         have c29b0 : decide (a1 < ((rd_T94 l0_2 x8_3).f1)) = false := decide_eq_false c29
         clear c29
         have H' := Aside0.mk H
         clear H
         obtain ⟨C39_0, C39_1, C39_2, C39_3, C39_4, C39_5, -⟩ := cells_6 BK338.out trivial
         obtain ⟨F39_0, F39_1, F39_2, F39_3, F39_4, F39_5, -⟩ := frz_6 BK338.out
         have p351 : 0 ≤ (x8_3 : Int) := od
         have q351 : x8_3 < (l0_2.length : Int) := od
         obtain ⟨ad351, A351_0, c351_0, e351, hx351_0, hx351_1, hl351_0, hi351_0⟩ := at_T94 HR0_2.out x8_3 p351 q351
         cases e351
         replace hx351_0 := hxb HB hx351_0
         replace hx351_1 := hxb HB hx351_1
         have HR351_0 := Aside0.mk hi351_0
         have HC351_0 := Aside0.mk hl351_0
         clear hi351_0 hl351_0
         replace p351 := eq_true p351
         replace q351 := eq_true q351
         go_wp2
         go_roundg k3
         case measure => have := HJ2.out; have := HK2.out; have := HK3.out; omega
         case rel => exact ⟨(x6_3), (wrap64 (x8_3 + 1)), rs_, H', ⟨by have := HJ2.out; have := HK2.out; have := HK3.out; omega⟩, ⟨skp HO_6⟩, ⟨bkp BK338⟩, ⟨bel⟩⟩
        rw [if_neg c28] at H
        exact absurd H (by simp)
       rw [if_neg c27] at H
       have c27b0 : decide (x8_3 < (l0_2.length : Int)) = false := decide_eq_false c27
       clear c27
       simp only [Option.some.injEq, Prod.mk.injEq] at H
       obtain ⟨rfl, rfl⟩ := H
       obtain ⟨C40_0, C40_1, C40_2, C40_3, C40_4, C40_5, -⟩ := cells_6 BK338.out trivial
       obtain ⟨F40_0, F40_1, F40_2, F40_3, F40_4, F40_5, -⟩ := frz_6 BK338.out
       go_wp2
       go_ret2
       exact ⟨_, rz_, by (with_reducible repeat (first | apply Kd.S_alloc | apply Kd.S_drewN | apply Kd.S_drew)); exact HO_6.out, bel⟩

end Go.Proofs.Ytdgegnakiljfjaa.PT
