-- Written for this claim by the session's program pp.py, out of the kit's print and the seat's translation.
import Derived.Test.YtmnjdmmljkahgaaDoorPEx0
import Derived.Test.YtmnjdmmljkahgaaDoorPEx1
namespace Go.Proofs.YtmnjdmmljkahgaaDoor.PE
open Go.RowKit Go.Proofs.YtmnjdmmljkahgaaDoorW.PrintWords Go.Proofs.YtmnjdmmljkahgaaDoorW.PrintLast Go.Proofs.YtmnjdmmljkahgaaDoorW.PrintMore
attribute [local go_sem] max2_int min2_int max_two min_two max_three min_three max_four min_four   -- for this text's walks alone
set_option linter.unusedVariables false
set_option linter.unusedSimpArgs false

/-! ### impl_quoted: function 32 -/
def impl_quoted.l0 : Nat → List Int → List Int → Int → Int → Option (List Int)
 | 0, _, _, _, _ => none
 | k + 1, x3, x7, x8, x9 => if x9 < x8 then (if 0 ≤ x9 then (if x9 < (x7.length : Int) then ((impl_isBare.f (rd x7 x9)).bind fun t131 => (if t131 = true then (if x3.length < 140737488355328 then (impl_quoted.l0 k (x3 ++ [rd x7 x9]) x7 x8 (wrap64 (x9 + 1))) else (none)) else (if 0 ≤ ((rd x7 x9) / 16) then (if ((rd x7 x9) / 16) < 16 then (if 0 ≤ (Go.bits .and .u8 (rd x7 x9) 15) then (if (Go.bits .and .u8 (rd x7 x9) 15) < 16 then ((some (([37, bt (⟨#[48, 49, 50, 51, 52, 53, 54, 55, 56, 57, 97, 98, 99, 100, 101, 102]⟩ : ByteArray) ((rd x7 x9) / 16), bt (⟨#[48, 49, 50, 51, 52, 53, 54, 55, 56, 57, 97, 98, 99, 100, 101, 102]⟩ : ByteArray) (Go.bits .and .u8 (rd x7 x9) 15)] : List Int) : List Int)).bind fun y135 => (if x3.length + y135.length < 140737488355328 then (impl_quoted.l0 k (x3 ++ y135) x7 x8 (wrap64 (x9 + 1))) else (none))) else (none)) else (none)) else (none)) else (none)))) else (none)) else (none)) else (if x3.length < 140737488355328 then (some (x3 ++ [34])) else (none))
def impl_quoted.f (k : Nat) (l0 : List Int) : Option (List Int) := impl_quoted.l0 k (([34] : List Int)) l0 (l0.length : Int) 0
def impl_quoted.T7 : Bool × List (List Nat × List Nat) := (true, [([], []), ([], []), ([1], [1]), ([2], [2]), ([], []), ([4], [4]), ([5], [5]), ([3, 6], [3, 6]), ([0, 7], [0, 7]), ([8, 8, 0, 1, 2, 3, 4, 5, 6, 7, 8], [0, 8])])
def impl_quoted.B7 : List Nat := [0, 0, 2, 6, 0, 16, 48, 126, 255, 511]
theorem impl_quoted.tab7 : rtab .any (opsOf Tryd.f32 7) = impl_quoted.T7 := by kernel_rfl
theorem impl_quoted.bits7 : waitsOk impl_quoted.T7.2 impl_quoted.B7 = true := by kernel_rfl
set_option maxHeartbeats 8000000 in
set_option maxRecDepth 100000 in
theorem impl_quoted.calls (k : Nat) (A0 : Option Addr) (c0 : Nat) (l0 : List Int) (r : List Int) (w : World) (hr0 : Kd.C (Kd.int .u8) w A0 l0.length l0) (hc0 : l0.length ≤ c0) (h : impl_quoted.f k l0 = some r) :
  Calls Tryd.prog 32 #[.slice A0 l0.length c0] w fun e w' => ∃ v0_ : Value, e = .returned (v0_) ∧ Kd.R (Kd.int .u8) 5 w' w.heap.size (fun _ => True) v0_ r ∧ Below w.heap.size w w' := by
 have HR0 := Aside0.mk hr0
 have HC0 := Aside0.mk hc0
 clear hr0 hc0
 have HB := Aside0.mk (Below.refl w.heap.size w)
 have H : (impl_quoted.l0 k (([34] : List Int)) l0 (l0.length : Int) 0) = some r := h
 clear h
 obtain ⟨y127, hy127⟩ : ∃ y_ : List Int, y_ = (([34] : List Int)) := ⟨_, rfl⟩
 replace H : (impl_quoted.l0 k y127 l0 (l0.length : Int) 0) = some r := by first | (rw [hy127]; with_reducible exact H) | (have H2_ := (Option.bind_some _ _).symm.trans H; rw [hy127]; with_reducible exact H2_) | (have H2_ := (Option.bind_some _ _).symm.trans H; with_reducible exact H2_) | with_reducible exact H | (rw [hy127]; exact H) | exact H
 have Ny127 := Aside0.mk hy127
 clear hy127
 have H' := Aside0.mk H
 clear H
 go_enter Tryd.func32, Tryd.ntmps32
 go_wp2_with (first | ((with_reducible refine gate_dst (N := 6) rfl ?_); refine Kd.R_lit (Kd.int .u8) _ 5 ?hg (N := 6) ?hd (xs := ([34] : List Int)) (inner := [.int .u8 34]) (ok := fun _ => True) (okp := fun _ => True) ?hr ?hp (fun _ hk => hk) trivial (Below.refl _ _) (Nat.le_refl _) (by simp) ?_; (case hd => rfl); (case hg => rfl); (case hr => first | (go_simp; done) | (go_simp; rfl)); (case hp => exact (Reps.one (show Kd.M (Kd.int .u8) _ _ _ 34 [.int .u8 34] from rfl) (Reps.none _ _))); intro v128 w2 ho3 hb hg_ hnew_; clear hg_ hnew_; (first | rw [← Ny127.out] at ho3 | (simp only [Int.reduceToNat] at ho3; rw [← Ny127.out] at ho3)); have HO129 := Aside0.mk (Kd.R_lower ho3 (below_size bel)); replace HB := bst hb; clear hb ho3))
 go_loopg [3, 9] k (fun kq v3 v9 w' => ∃ (x3_1 : List Int) (x9_1 : Int), v9 = .int .i64 x9_1 ∧ Aside0 (impl_quoted.l0 kq x3_1 l0 (l0.length : Int) x9_1 = some r) ∧ Aside0 (kq ≤ k) ∧ Aside0 (Kd.R (Kd.int .u8) 5 w' w.heap.size (fun _ => True) v3 x3_1) ∧ Aside0 (Below w.heap.size w w'))
 case atStart => exact ⟨(y127), (0), rs_, H', ⟨Nat.le_refl _⟩, ⟨rkp HO129⟩, ⟨bel⟩⟩
 case round =>
  clear H'
  try clear p2; try clear c3
  obtain ⟨x3_1, x9_1, rfl, HA, HK1, HO_3, HB⟩ := hrel
  cases gk with
  | zero => exact absurd HA.out (by simp [impl_quoted.l0])
  | succ k1 =>
   have H := HA.out
   clear HA
   simp only [impl_quoted.l0] at H
   by_cases c4 : x9_1 < (l0.length : Int)
   ·rw [if_pos c4] at H
    have c4b0 : decide (x9_1 < (l0.length : Int)) = true := decide_eq_true c4
    clear c4
    by_cases c5 : 0 ≤ x9_1
    ·rw [if_pos c5] at H
     have c5b0 : decide (0 ≤ x9_1) = true := decide_eq_true c5
     clear c5
     by_cases c6 : x9_1 < (l0.length : Int)
     ·rw [if_pos c6] at H
      have c6b0 : decide (x9_1 < (l0.length : Int)) = true := decide_eq_true c6
      clear c6
      replace H := Option.bind_eq_some_iff.mp H
      obtain ⟨t131, A70, H⟩ := H
      replace H : (if t131 = true then (if x3_1.length < 140737488355328 then (impl_quoted.l0 k1 (x3_1 ++ [rd l0 x9_1]) l0 (l0.length : Int) (wrap64 (x9_1 + 1))) else (none)) else (if 0 ≤ ((rd l0 x9_1) / 16) then (if ((rd l0 x9_1) / 16) < 16 then (if 0 ≤ (Go.bits .and .u8 (rd l0 x9_1) 15) then (if (Go.bits .and .u8 (rd l0 x9_1) 15) < 16 then ((some (([37, bt (⟨#[48, 49, 50, 51, 52, 53, 54, 55, 56, 57, 97, 98, 99, 100, 101, 102]⟩ : ByteArray) ((rd l0 x9_1) / 16), bt (⟨#[48, 49, 50, 51, 52, 53, 54, 55, 56, 57, 97, 98, 99, 100, 101, 102]⟩ : ByteArray) (Go.bits .and .u8 (rd l0 x9_1) 15)] : List Int) : List Int)).bind fun y135 => (if x3_1.length + y135.length < 140737488355328 then (impl_quoted.l0 k1 (x3_1 ++ y135) l0 (l0.length : Int) (wrap64 (x9_1 + 1))) else (none))) else (none)) else (none)) else (none)) else (none))) = some r := H
      have A7 := Aside0.mk A70
      clear A70
      by_cases c8 : t131 = true
      ·subst c8
       have H1 : (if x3_1.length < 140737488355328 then (impl_quoted.l0 k1 (x3_1 ++ [rd l0 x9_1]) l0 (l0.length : Int) (wrap64 (x9_1 + 1))) else (none)) = some r := by rw [if_pos rfl] at H; exact H
       clear H
       have H := H1
       clear H1
       by_cases c9 : x3_1.length < 140737488355328
       ·rw [if_pos c9] at H
        have LMc9 := Aside0.mk c9
        clear c9
        obtain ⟨y132, hy132⟩ : ∃ y_ : List Int, y_ = (x3_1 ++ [rd l0 x9_1]) := ⟨_, rfl⟩
        replace H : (impl_quoted.l0 k1 y132 l0 (l0.length : Int) (wrap64 (x9_1 + 1))) = some r := by first | (rw [hy132]; with_reducible exact H) | (have H2_ := (Option.bind_some _ _).symm.trans H; rw [hy132]; with_reducible exact H2_) | (have H2_ := (Option.bind_some _ _).symm.trans H; with_reducible exact H2_) | with_reducible exact H | (rw [hy132]; exact H) | exact H
        have Ny132 := Aside0.mk hy132
        clear hy132
        have H' := Aside0.mk H
        clear H
        have p130 : 0 ≤ (x9_1 : Int) := od
        have q130 : x9_1 < (l0.length : Int) := od
        obtain ⟨ad130, e130, hx130_0⟩ := Kd.at_int HR0.out x9_1 p130 q130
        cases e130
        replace hx130_0 := hxb HB hx130_0
        replace p130 := eq_true p130
        replace q130 := eq_true q130
        go_wp2_with (first | ((with_reducible refine gate_callee (f := 57) rfl ?_); refine gl_ (some 14) Tryd.func57 #[.int .u8 (rd l0 x9_1)] (h := ?_); (with_reducible refine (impl_isBare.calls (rd l0 x9_1) true _ A7.out).mono ?_); rintro e w' ⟨rfl, ⟨nd, rfl⟩⟩; refine ⟨_, rfl, ?_⟩) | ((with_reducible refine gate_builtin (b := .append) (xs := #[.tmp 15, .tmp 17]) rfl ?_); at_builtin; refine Kd.R_append (Kd.int .u8) (w0 := w) w.heap.size rfl (.tmp 15) (.tmp 17) 22 5 (.int .u8 0) 1 rfl Tryd.underlying22 info5 rfl (by decide) (by omega) u3 x3_1 (rd l0 x9_1) [.int .u8 (rd l0 x9_1)] (fun _ => True) (fun _ => False) rfl rfl ?aP (fun _ hk => hk.elim) ?aF ?aO ?aB ?aS ?aL ?_; (case aP => exact rfl); (case aB => exact bel); (case aF => exact (fun _ _ => trivial)); (case aO => exact (rkp HO_3)); (case aS => exact (below_size bel)); (case aL => have := LMc9.out; omega); intro v133 w10 ho hb hg hat; rw [← Ny132.out] at ho; have n0_ := Aside0.mk (hb); have n1_ := Aside0.mk (ho); clear HB; clear HO_3; have HB := n0_; have HO134 := n1_; clear n0_ n1_; clear ho hb hg hat))
        go_roundg k1
        case measure => have := HK1.out; omega
        case rel => exact ⟨(y132), (wrap64 (x9_1 + 1)), rs_, H', ⟨by have := HK1.out; omega⟩, ⟨rkp HO134⟩, ⟨bel⟩⟩
       rw [if_neg c9] at H
       exact absurd H (by simp)
      replace c8 := Bool.eq_false_iff.mpr c8
      subst c8
      have H1 : (if 0 ≤ ((rd l0 x9_1) / 16) then (if ((rd l0 x9_1) / 16) < 16 then (if 0 ≤ (Go.bits .and .u8 (rd l0 x9_1) 15) then (if (Go.bits .and .u8 (rd l0 x9_1) 15) < 16 then ((some (([37, bt (⟨#[48, 49, 50, 51, 52, 53, 54, 55, 56, 57, 97, 98, 99, 100, 101, 102]⟩ : ByteArray) ((rd l0 x9_1) / 16), bt (⟨#[48, 49, 50, 51, 52, 53, 54, 55, 56, 57, 97, 98, 99, 100, 101, 102]⟩ : ByteArray) (Go.bits .and .u8 (rd l0 x9_1) 15)] : List Int) : List Int)).bind fun y135 => (if x3_1.length + y135.length < 140737488355328 then (impl_quoted.l0 k1 (x3_1 ++ y135) l0 (l0.length : Int) (wrap64 (x9_1 + 1))) else (none))) else (none)) else (none)) else (none)) else (none)) = some r := by rw [if_neg (show ¬ (false = true) by decide)] at H; exact H
      clear H
      have H := H1
      clear H1
      obtain ⟨ji11, hji11⟩ : ∃ j_ : Int, ((rd l0 x9_1) / 16) = j_ := ⟨_, rfl⟩
      replace H : (if 0 ≤ (ji11) then (if (ji11) < 16 then (if 0 ≤ (Go.bits .and .u8 (rd l0 x9_1) 15) then (if (Go.bits .and .u8 (rd l0 x9_1) 15) < 16 then ((some (([37, bt (⟨#[48, 49, 50, 51, 52, 53, 54, 55, 56, 57, 97, 98, 99, 100, 101, 102]⟩ : ByteArray) (ji11), bt (⟨#[48, 49, 50, 51, 52, 53, 54, 55, 56, 57, 97, 98, 99, 100, 101, 102]⟩ : ByteArray) (Go.bits .and .u8 (rd l0 x9_1) 15)] : List Int) : List Int)).bind fun y135 => (if x3_1.length + y135.length < 140737488355328 then (impl_quoted.l0 k1 (x3_1 ++ y135) l0 (l0.length : Int) (wrap64 (x9_1 + 1))) else (none))) else (none)) else (none)) else (none)) else (none)) = some r := by first | (rw [hji11] at H; exact H) | (simp only [hji11] at H ⊢; exact H)
      (try rw [hji11] at A7)
      by_cases c12 : 0 ≤ (ji11)
      ·rw [if_pos c12] at H
       have c12b0 : decide (0 ≤ (ji11)) = true := decide_eq_true c12
       clear c12
       by_cases c13 : (ji11) < 16
       ·rw [if_pos c13] at H
        have c13b0 : decide ((ji11) < 16) = true := decide_eq_true c13
        clear c13
        by_cases c15 : 0 ≤ (Go.bits .and .u8 (rd l0 x9_1) 15)
        ·rw [if_pos c15] at H
         have c15b0 : decide (0 ≤ (Go.bits .and .u8 (rd l0 x9_1) 15)) = true := decide_eq_true c15
         clear c15
         by_cases c16 : (Go.bits .and .u8 (rd l0 x9_1) 15) < 16
         ·rw [if_pos c16] at H
          have c16b0 : decide ((Go.bits .and .u8 (rd l0 x9_1) 15) < 16) = true := decide_eq_true c16
          clear c16
          obtain ⟨y135, hy135⟩ : ∃ y_ : List Int, y_ = (([37, bt (⟨#[48, 49, 50, 51, 52, 53, 54, 55, 56, 57, 97, 98, 99, 100, 101, 102]⟩ : ByteArray) (ji11), bt (⟨#[48, 49, 50, 51, 52, 53, 54, 55, 56, 57, 97, 98, 99, 100, 101, 102]⟩ : ByteArray) (Go.bits .and .u8 (rd l0 x9_1) 15)] : List Int)) := ⟨_, rfl⟩
          replace H : (if x3_1.length + y135.length < 140737488355328 then (impl_quoted.l0 k1 (x3_1 ++ y135) l0 (l0.length : Int) (wrap64 (x9_1 + 1))) else (none)) = some r := by first | (rw [hy135]; with_reducible exact H) | (have H2_ := (Option.bind_some _ _).symm.trans H; rw [hy135]; with_reducible exact H2_) | (have H2_ := (Option.bind_some _ _).symm.trans H; with_reducible exact H2_) | with_reducible exact H | (rw [hy135]; exact H) | exact H
          have Ny135 := Aside0.mk hy135
          clear hy135
          by_cases c18 : x3_1.length + y135.length < 140737488355328
          ·rw [if_pos c18] at H
           have LMc18 := Aside0.mk c18
           clear c18
           obtain ⟨y138, hy138⟩ : ∃ y_ : List Int, y_ = (x3_1 ++ y135) := ⟨_, rfl⟩
           replace H : (impl_quoted.l0 k1 y138 l0 (l0.length : Int) (wrap64 (x9_1 + 1))) = some r := by first | (rw [hy138]; with_reducible exact H) | (have H2_ := (Option.bind_some _ _).symm.trans H; rw [hy138]; with_reducible exact H2_) | (have H2_ := (Option.bind_some _ _).symm.trans H; with_reducible exact H2_) | with_reducible exact H | (rw [hy138]; exact H) | exact H
           have Ny138 := Aside0.mk hy138
           clear hy138
           have H' := Aside0.mk H
           clear H
           have p130 : 0 ≤ (x9_1 : Int) := od
           have q130 : x9_1 < (l0.length : Int) := od
           obtain ⟨ad130, e130, hx130_0⟩ := Kd.at_int HR0.out x9_1 p130 q130
           cases e130
           replace hx130_0 := hxb HB hx130_0
           replace p130 := eq_true p130
           replace q130 := eq_true q130
           try go_wp2_with (first | ((with_reducible refine gate_callee (f := 57) rfl ?_); refine gl_ (some 14) Tryd.func57 #[.int .u8 (rd l0 x9_1)] (h := ?_); (with_reducible refine (impl_isBare.calls (rd l0 x9_1) false _ A7.out).mono ?_); rintro e w' ⟨rfl, ⟨nd, rfl⟩⟩; refine ⟨_, rfl, ?_⟩))
           (try (rw [drewN_self wr]; generalize hq_ : World.drewN wr _ = wr; have n0_ : Aside0 (Kd.R (Kd.int .u8) 5 wr w.heap.size (fun _ => True) u3 x3_1) := ⟨by rw [← hq_]; exact (rkp HO_3)⟩; have n1_ : Aside0 (Below w.heap.size w wr) := ⟨by rw [← hq_]; exact bel⟩; clear HO_3 HB hq_; have HO_3 := n0_; have HB := n1_; clear n0_ n1_))
           replace HO_3 := Aside0.mk (Kd.R_drew HO_3.out)
           replace HB := Aside0.mk (below_drew1 HB.out)
           have p14 : 0 ≤ ((ji11) : Int) := od
           have q14 : (ji11) < (16 : Int) := od
           have hx14 := bt_at (⟨#[48, 49, 50, 51, 52, 53, 54, 55, 56, 57, 97, 98, 99, 100, 101, 102]⟩ : ByteArray) (ji11)
           replace p14 := eq_true p14
           replace q14 := eq_true q14
           have p17 : 0 ≤ ((Go.bits .and .u8 (rd l0 x9_1) 15) : Int) := od
           have q17 : (Go.bits .and .u8 (rd l0 x9_1) 15) < (16 : Int) := od
           have hx17 := bt_at (⟨#[48, 49, 50, 51, 52, 53, 54, 55, 56, 57, 97, 98, 99, 100, 101, 102]⟩ : ByteArray) (Go.bits .and .u8 (rd l0 x9_1) 15)
           replace p17 := eq_true p17
           replace q17 := eq_true q17
           refine start_ (n := 10) (S := fun w' => True) (ds := []) (tf 0 10) (by kernel_rfl) rfl rfl trivial (fun hHeld => ?_); refine with_tabW impl_quoted.tab7 impl_quoted.bits7 (fun HT_ HW_ => ?_)
           generalize wr.drew = w19 at HO_3 HB hHeld ⊢
           iterate 3 (refine pvn_ HT_ (h := ?_))
           refine pv_ HT_ 4 (some 23) (tb 10 23) (h := ?_)
           refine pv_ HT_ 5 (some 24) (tb 10 55) (h := ?_)
           refine take_ (i := 3) (N := some 22) (v := ?_) (a' := ?_) (tf 6 4) rfl rfl (take_ofW HT_.out HW_.out (by kernel_rfl)) (fun _ _ _ h => h) (Or.inl ⟨by rfl, ?_⟩) hHeld ?_ ?_
           rotate_left
           ·intro w' _
            go_simp
            with_reducible rfl
           rotate_left
           ·simp only [Act.put, List.setIfInBounds_toArray, List.set_cons_zero, List.set_cons_succ, i64_w, i32_w]
            rfl
           refine take_ (i := 6) (N := some 25) (v := ?_) (a' := ?_) (tf 7 3) rfl rfl (take_ofW HT_.out HW_.out (by kernel_rfl)) (fun _ _ _ h => h) (Or.inl ⟨by rfl, ?_⟩) hHeld ?_ ?_
           rotate_left
           ·intro w' _
            go_simp
            with_reducible rfl
           rotate_left
           ·simp only [Act.put, List.setIfInBounds_toArray, List.set_cons_zero, List.set_cons_succ, i64_w, i32_w]
            rfl
           refine one_ (i := 7) (N := some 26) (tf 8 2) rfl rfl (one_of HT_.out (by kernel_rfl)) (by decide) (fun K hK => ?_)
           refine Kd.R_lit_step (Kd.int .u8) _ 5 ?hg (N := 26) ?hd (xs := ([37, bt (⟨#[48, 49, 50, 51, 52, 53, 54, 55, 56, 57, 97, 98, 99, 100, 101, 102]⟩ : ByteArray) (ji11), bt (⟨#[48, 49, 50, 51, 52, 53, 54, 55, 56, 57, 97, 98, 99, 100, 101, 102]⟩ : ByteArray) (Go.bits .and .u8 (rd l0 x9_1) 15)] : List Int)) (inner := [.int .u8 37, .int .u8 (bt (⟨#[48, 49, 50, 51, 52, 53, 54, 55, 56, 57, 97, 98, 99, 100, 101, 102]⟩ : ByteArray) (ji11)), .int .u8 (bt (⟨#[48, 49, 50, 51, 52, 53, 54, 55, 56, 57, 97, 98, 99, 100, 101, 102]⟩ : ByteArray) (Go.bits .and .u8 (rd l0 x9_1) 15))]) (ok := fun _ => True) (okp := fun _ => True) ?hr ?hp (fun _ hk => hk) trivial (Below.refl _ _) (Nat.le_refl _) (by simp) ?_; (case hd => rfl); (case hg => rfl); (case hr => first | (go_simp; done) | (go_simp; rfl)); (case hp => exact (Reps.one (show Kd.M (Kd.int .u8) _ _ _ 37 [.int .u8 37] from rfl) (Reps.one (show Kd.M (Kd.int .u8) _ _ _ (bt (⟨#[48, 49, 50, 51, 52, 53, 54, 55, 56, 57, 97, 98, 99, 100, 101, 102]⟩ : ByteArray) (ji11)) [.int .u8 (bt (⟨#[48, 49, 50, 51, 52, 53, 54, 55, 56, 57, 97, 98, 99, 100, 101, 102]⟩ : ByteArray) (ji11))] from rfl) (Reps.one (show Kd.M (Kd.int .u8) _ _ _ (bt (⟨#[48, 49, 50, 51, 52, 53, 54, 55, 56, 57, 97, 98, 99, 100, 101, 102]⟩ : ByteArray) (Go.bits .and .u8 (rd l0 x9_1) 15)) [.int .u8 (bt (⟨#[48, 49, 50, 51, 52, 53, 54, 55, 56, 57, 97, 98, 99, 100, 101, 102]⟩ : ByteArray) (Go.bits .and .u8 (rd l0 x9_1) 15))] from rfl) (Reps.none _ _)))))
           intro v136 w20 ho21 hb hg_ hnew_
           clear hg_ hnew_
           (first | rw [← Ny135.out] at ho21 | (simp only [Int.reduceToNat] at ho21; rw [← Ny135.out] at ho21))
           have HO137 := Aside0.mk (Kd.R_lower (Kd.R_new' ho21 (Kd.R_lt (rkp HO_3))) (below_size bel))
           replace HO_3 := Aside0.mk (Kd.R_elder' (rkp HO_3) (Kd.R_base ho21) hb)
           replace HB := bst hb
           clear hb ho21
           obtain ⟨Ao23, co23, eo23⟩ := Kd.R_slice HO137.out
           (first | subst eo23 | (injection eo23 with f1_ f2_ f3_; have f4_ := f1_.symm; have f5_ := f3_.symm; clear f1_ f2_ f3_; subst f4_; subst f5_))
           refine hK.out _ _ trivial (fun hHeld => ?_)
           clear hK K
           refine nrm_ (some 26) (h := ?_)
           refine one_ (i := 8) (N := some 27) (tf 9 1) rfl rfl (one_of HT_.out (by kernel_rfl)) (by decide) (fun K hK => ?_)
           refine Kd.R_append_rows_step (Kd.int .u8) (w0 := w) w.heap.size (by rfl) (.tmp 19) (.tmp 26) 22 5 (.int .u8 0) 1 rfl Tryd.underlying22 info5 rfl (by decide) (by omega) u3 x3_1 y135 _ _ _ (fun k_ => some k_ ≠ (.slice Ao23 y135.length co23 : Value).ownBlock) (fun _ => False) rfl rfl ?aO ?aR (fun _ _ h => h) (fun _ h => h.elim) ?aF ?aB ?aS ?aL ?_
           (case aR => repeat (first | exact (Kd.R_reads' HO137.out).2.2 | (with_reducible refine Kd.C_alloc ?_ _) | (with_reducible refine Kd.C_drewN ?_ _) | (with_reducible refine Kd.C_drew ?_)))
           (case aB => exact bel)
           (case aF => exact (fun k_ hk => Kd.fresh' (Kd.R_lt (rkp HO137)) k_ hk))
           (case aO => exact (by (with_reducible repeat (first | apply Kd.R_alloc | apply Kd.R_drewN | apply Kd.R_drew)); exact Kd.R_mono HO_3.out (fun _ hk => hk.2)))
           (case aS => exact (below_size bel))
           (case aL => have := LMc18.out; omega)
           intro v139 w22 ho hb hg hat
           rw [← Ny138.out] at ho
           have n0_ := Aside0.mk (Kd.R_after (ok := (fun _ => True)) (rkp HO137) hg hat)
           have n1_ := Aside0.mk (hb)
           have n2_ := Aside0.mk (ho)
           clear HO137
           clear HB
           clear HO_3
           have HO137 := n0_
           have HB := n1_
           have HO140 := n2_
           clear n0_ n1_ n2_
           clear ho hb hg hat
           refine hK.out _ _ trivial (fun hHeld => ?_)
           clear hK K
           refine nrm_ (some 27) (h := ?_)
           refine pv_ HT_ 9 (some 3) (tf 10 0) (h := ?_)
           refine done_ (done_of HT_.out (by kernel_rfl)) ?_
           try go_wp2
           go_roundg k1
           case measure => have := HK1.out; omega
           case rel => exact ⟨(y138), (wrap64 (x9_1 + 1)), rs_, H', ⟨by have := HK1.out; omega⟩, ⟨by (with_reducible repeat (first | apply Kd.R_alloc | apply Kd.R_drewN | apply Kd.R_drew)); exact Kd.R_mono HO140.out (fun _ hk => trivial)⟩, ⟨bel⟩⟩
          rw [if_neg c18] at H
          exact absurd H (by simp)
         rw [if_neg c16] at H
         exact absurd H (by simp)
        rw [if_neg c15] at H
        exact absurd H (by simp)
       rw [if_neg c13] at H
       exact absurd H (by simp)
      rw [if_neg c12] at H
      exact absurd H (by simp)
     rw [if_neg c6] at H
     exact absurd H (by simp)
    rw [if_neg c5] at H
    exact absurd H (by simp)
   rw [if_neg c4] at H
   have c4b0 : decide (x9_1 < (l0.length : Int)) = false := decide_eq_false c4
   clear c4
   by_cases c24 : x3_1.length < 140737488355328
   ·rw [if_pos c24] at H
    have LMc24 := Aside0.mk c24
    clear c24
    obtain ⟨y141, hy141⟩ : ∃ y_ : List Int, y_ = (x3_1 ++ [34]) := ⟨_, rfl⟩
    replace H : (some y141) = some r := by first | (rw [hy141]; with_reducible exact H) | (have H2_ := (Option.bind_some _ _).symm.trans H; rw [hy141]; with_reducible exact H2_) | (have H2_ := (Option.bind_some _ _).symm.trans H; with_reducible exact H2_) | with_reducible exact H | (rw [hy141]; exact H) | exact H
    have Ny141 := Aside0.mk hy141
    clear hy141
    obtain rfl := Option.some.inj H
    go_wp2_with (first | ((with_reducible refine gate_builtin (b := .append) (xs := #[.tmp 29, .tmp 30]) rfl ?_); at_builtin; refine Kd.R_append (Kd.int .u8) (w0 := w) w.heap.size rfl (.tmp 29) (.tmp 30) 22 5 (.int .u8 0) 1 rfl Tryd.underlying22 info5 rfl (by decide) (by omega) u3 x3_1 34 [.int .u8 34] (fun _ => True) (fun _ => False) rfl rfl ?aP (fun _ hk => hk.elim) ?aF ?aO ?aB ?aS ?aL ?_; (case aP => exact rfl); (case aB => exact bel); (case aF => exact (fun _ _ => trivial)); (case aO => exact (rkp HO_3)); (case aS => exact (below_size bel)); (case aL => have := LMc24.out; omega); intro v142 w25 ho hb hg hat; rw [← Ny141.out] at ho; have n0_ := Aside0.mk (hb); have n1_ := Aside0.mk (ho); clear HB; clear HO_3; have HB := n0_; have HO143 := n1_; clear n0_ n1_; clear ho hb hg hat))
    go_ret
    exact ⟨_, rz_, by (with_reducible repeat (first | apply Kd.R_alloc | apply Kd.R_drewN | apply Kd.R_drew)); exact HO143.out, bel⟩
   rw [if_neg c24] at H
   exact absurd H (by simp)

/-! ### impl_decimal: function 33 -/
def impl_decimal.f (a0 : Int) : Option (List Int) := if 0 ≤ a0 ∧ a0 ≤ 9223372036854775807 ∧ (Lib.itoa a0).length ≤ 1000000 then some ((Lib.itoa a0).map (fun b => (b.toNat : Int))) else none
set_option maxHeartbeats 8000000 in
set_option maxRecDepth 100000 in
theorem impl_decimal.calls (a0 : Int) (r : List Int) (w : World) (htab : Lib.TabIs Tryd.prog w "internal/strconv.uint64pow10" .u64 Lib.pow10Tab) (h : impl_decimal.f a0 = some r) :
  Calls Tryd.prog 33 #[.int .i64 a0] w fun e w' => ∃ v0_ : Value, e = .returned (v0_) ∧ Kd.V (Kd.int .u8) 5 w' w.heap.size (fun k_ => (w.heap.size ≤ k_)) v0_ r ∧ Below w.heap.size w w' := by
 unfold impl_decimal.f at h
 by_cases c : 0 ≤ a0 ∧ a0 ≤ 9223372036854775807 ∧ (Lib.itoa a0).length ≤ 1000000
 ·rw [if_pos c] at h
  obtain rfl := Option.some.inj h
  obtain ⟨c1, c2, c3⟩ := c
  have HT := Aside0.mk htab
  have A1 := Aside0.mk c1
  have A2 := Aside0.mk c2
  have A3 := Aside0.mk c3
  clear htab c1 c2 c3 h
  have hcv := fun (w : World) (s : ByteArray) => Lib.run_convert_string_bytes (P := Tryd.prog) w 9 22 5 s Tryd.underlying9 Tryd.underlying22 Tryd.underlying5
  go_enter Tryd.func33, Tryd.ntmps33
  go_wp2_with (first | ((with_reducible refine gate_callee (f := 58) rfl ?_); refine gl_ (some 4) Tryd.func58 #[.int .i64 a0] (h := ?_); (refine (Tryd.strconv_Itoa a0 (by have := A1.out; omega) A2.out _ HT.out).mono ?_); rintro e w1 ⟨rfl, nd, os, rfl⟩; refine ⟨_, rfl, ?_⟩; generalize hw : Sort.grow (w.drewN nd) os = w1; generalize hs : (⟨(Lib.itoa a0).toArray⟩ : ByteArray) = s))
  go_ret
  have hb : Below w.heap.size w w1 := by
   rw [← hw]
   exact Lib.below_grow _ w (Nat.le_refl _) nd os
  have hs2 : s.size ≤ 1000000 := by
   rw [← hs]
   exact A3.out
  have hv := Kd.V_bytes w1 s hs2
  rw [show s.data.toList = Lib.itoa a0 by rw [← hs]] at hv
  exact ⟨_, rfl, Kd.V_mono (Kd.V_lower hv hb.size) (fun _ hk => Nat.le_trans hb.size hk), hb.trans ((RM_bel _ 5 _).mono hb.size)⟩
 rw [if_neg c] at h
 exact absurd h (by simp)

/-! ### impl_spaced: function 34 -/
theorem Kd.N_plain {α : Type} {d : Kd α} {e : Nat} {w : World} {base : Nat} {ok : Nat → Prop} {A : Option Addr} {n c : Nat} {xs : List α} (h : Kd.N d e w base ok (.slice A n c) xs) : ∀ ad, A = some ad → ∃ b o, ad = ⟨b, o, none⟩ := by
 rintro ad rfl
 obtain ⟨_, rows, _, hr, _⟩ := h
 obtain ⟨g, hg⟩ := Kd.R_head hr
 exact ⟨g, 0, hg⟩
theorem impl_spaced.holds {w : World} {A : Option Addr} {c : Nat} {q : List Int} (h : Kd.C (Kd.int .u8) w A q.length q) (hq : ∀ z ∈ q, 0 ≤ z ∧ z < 256) : Lib.HoldsBytes w (.slice A q.length c) (Lib.bytesOf q) := by
 have hl : (Lib.bytesOf q).length = q.length := by simp [Lib.bytesOf]
 refine ⟨A, c, by rw [hl], ?_, ?_⟩
 ·rintro rfl
  rcases Nat.eq_zero_or_pos q.length with h0 | h0
  ·exact List.eq_nil_of_length_eq_zero (hl.trans h0)
  ·obtain ⟨_, e, _⟩ := h.2.2 h0
   cases e
 ·rintro a rfl i x hx
  have hi : i < q.length := by
   have := (List.getElem?_eq_some_iff.1 hx).1
   omega
  obtain ⟨ad, e, hc⟩ := h.2.2 (by omega)
  injection e with e
  subst e
  obtain ⟨cs, _, hK, hcell⟩ := hc i _ (List.getElem?_eq_getElem hi)
  have hK2 : cs = [.int .u8 q[i]] := hK
  have := hcell 0 (.int .u8 q[i]) (by rw [hK2]; rfl)
  rw [show (Kd.int .u8).sz = 1 from rfl, Nat.mul_one, Nat.add_zero] at this
  rw [this]
  simp only [Lib.bytesOf, List.getElem?_map, List.getElem?_eq_getElem hi, Option.map_some] at hx
  injection hx with hx
  have hr := hq _ (List.getElem_mem hi)
  rw [← hx]
  congr 2
  simp [UInt8.toNat_ofNat']
  omega
theorem impl_spaced.parts {w : World} {ad : Addr} {l0 : List (List Int)} (h : Kd.C (Kd.slice 5 (Kd.int .u8)) w (some ad) l0.length l0) (hq : ∀ l ∈ l0, ∀ z ∈ l, 0 ≤ z ∧ z < 256) : ∃ vs, Lib.PartsAt w ad vs (l0.map Lib.bytesOf) := by
 obtain ⟨news, hr, hc⟩ := ReadsRow.inner_ h
 have hl : news.length = l0.length := by rw [hr.1]; show _ * 1 = _; rw [Nat.mul_one]
 refine ⟨news, by rw [List.length_map]; exact hl, hc, fun i v l hv hx => ?_⟩
 rw [List.getElem?_map] at hx
 obtain ⟨q, hq2, rfl⟩ := Option.map_eq_some_iff.1 hx
 have h1 := hr.2 i q hq2
 obtain ⟨A, c, he, _, hC⟩ : ∃ A c, (news.drop (i * 1)).take 1 = [.slice A q.length c] ∧ q.length ≤ c ∧ Kd.C (Kd.int .u8) w A q.length q := h1
 have hv2 : (news.drop i)[0]? = some (.slice A q.length c) := by
  rw [Nat.mul_one] at he
  have := congrArg (fun l => l[0]?) he
  simpa using this
 rw [List.getElem?_drop, Nat.add_zero, hv] at hv2
 injection hv2 with hv2
 subst hv2
 exact impl_spaced.holds hC (hq q (List.mem_of_getElem? hq2))
theorem impl_spaced.back (q : List Int) (hq : ∀ z ∈ q, 0 ≤ z ∧ z < 256) : (Lib.bytesOf q).map (fun b => (b.toNat : Int)) = q := by
 unfold Lib.bytesOf
 rw [List.map_map]
 conv => rhs; rw [← List.map_id q]
 apply List.map_congr_left
 intro z hz
 have h := hq z hz
 simp [UInt8.toNat_ofNat']
 omega
def impl_spaced.f (l0 : List (List Int)) : Option (List Int) := if 2 ≤ l0.length ∧ l0.length ≤ 1000 ∧ Lib.lens (l0.map Lib.bytesOf) ≤ 1000000000 ∧ 0 < (Lib.join (l0.map Lib.bytesOf) [32]).length ∧ ∀ l ∈ l0, ∀ z ∈ l, 0 ≤ z ∧ z < 256 then some ((Lib.join (l0.map Lib.bytesOf) [32]).map (fun b => (b.toNat : Int))) else if l0.length = 1 ∧ 0 < (l0.getD 0 []).length ∧ (l0.getD 0 []).length ≤ 1000000 ∧ ∀ l ∈ l0, ∀ z ∈ l, 0 ≤ z ∧ z < 256 then some (l0.getD 0 []) else none
set_option maxHeartbeats 8000000 in
set_option maxRecDepth 100000 in
theorem impl_spaced.calls (A0 : Option Addr) (c0 : Nat) (l0 : List (List Int)) (r : List Int) (w : World) (hr0 : Kd.C (Kd.slice 5 (Kd.int .u8)) w A0 l0.length l0) (hc0 : l0.length ≤ c0) (hA : ∀ ad, A0 = some ad → ∃ b o, ad = ⟨b, o, none⟩) (h : impl_spaced.f l0 = some r) :
  Calls Tryd.prog 34 #[.slice A0 l0.length c0] w fun e w' => ∃ v0_ : Value, e = .returned (v0_) ∧ RMk w' w.heap.size (fun _ => True) v0_ r ∧ Below w.heap.size w w' := by
 unfold impl_spaced.f at h
 by_cases c : 2 ≤ l0.length ∧ l0.length ≤ 1000 ∧ Lib.lens (l0.map Lib.bytesOf) ≤ 1000000000 ∧ 0 < (Lib.join (l0.map Lib.bytesOf) [32]).length ∧ ∀ l ∈ l0, ∀ z ∈ l, 0 ≤ z ∧ z < 256
 ·rw [if_pos c] at h
  obtain rfl := Option.some.inj h
  obtain ⟨c1, c2, c3, c4, c5⟩ := c
  obtain ⟨ad, rfl, _⟩ := hr0.2.2 (by omega)
  obtain ⟨b, o, rfl⟩ := hA _ rfl
  have hb : Below w.heap.size w (w.alloc (.cells #[.int .u8 32] 5)) := below_alloc (Below.refl _ _) _
  obtain ⟨vs, hP⟩ := impl_spaced.parts (Kd.C_below hr0 hb) c5
  have hS : Lib.HoldsBytes (w.alloc (.cells #[.int .u8 32] 5)) (.slice (some ⟨w.heap.size, 0, none⟩) 1 1) [32] := by
   refine ⟨_, 1, rfl, fun e => (by cases e), ?_⟩
   rintro a e i x hx
   injection e with e
   subst e
   match i with
   | 0 =>
    have e2 : x = 32 := by simpa using hx.symm
    subst e2
    rw [add_plain]
    exact (cell_of_row _ _ 0 _ 5 (0, 0) (heap_alloc_new w _)).trans rfl
   | i + 1 => simp at hx
  have HP := Aside0.mk hP
  have HS := Aside0.mk hS
  have A1 := Aside0.mk c1
  have A2 := Aside0.mk c2
  have A3 := Aside0.mk c3
  have A4 := Aside0.mk c4
  have HC := Aside0.mk hc0
  have HW := Aside0.mk hb
  clear hP hS c1 c2 c3 c4 c5 hc0 hr0 hA hb h
  go_enter Tryd.func34, Tryd.ntmps34
  go_wp2_with (first | ((with_reducible refine gate_callee (f := 59) rfl ?_); refine gl_ (some 5) Tryd.func59 #[.slice (some ⟨b, o, none⟩) l0.length c0, .slice (some ⟨w.heap.size, 0, none⟩) 1 1] (h := ?_); (refine (Tryd.bytes_Join_many b o l0.length c0 vs (l0.map Lib.bytesOf) _ [32] _ (by rw [List.length_map]) A1.out HP.out HC.out HS.out (by have := A2.out; omega) (by have := A2.out; have := A3.out; show _ + 1 * _ ≤ _; omega)).mono ?_); rintro e w' ⟨v', rfl, hf, hb2⟩; refine ⟨_, rfl, ?_⟩))
  go_ret
  exact ⟨_, rfl, RMk_lower (RMk_fresh hf A4.out) HW.out.size, HW.out.trans (hb2.mono HW.out.size)⟩
 rw [if_neg c] at h
 by_cases d : l0.length = 1 ∧ 0 < (l0.getD 0 []).length ∧ (l0.getD 0 []).length ≤ 1000000 ∧ ∀ l ∈ l0, ∀ z ∈ l, 0 ≤ z ∧ z < 256
 ·rw [if_pos d] at h
  obtain rfl := Option.some.inj h
  obtain ⟨d1, d2, d3, d4⟩ := d
  obtain ⟨q, rfl⟩ := List.length_eq_one_iff.1 d1
  have dq : ∀ z ∈ q, 0 ≤ z ∧ z < 256 := d4 q (by simp)
  have d2 : 0 < q.length := d2
  have d3 : q.length ≤ 1000000 := d3
  obtain ⟨ad, rfl, _⟩ := hr0.2.2 (by simp)
  obtain ⟨b, o, rfl⟩ := hA _ rfl
  have hb : Below w.heap.size w (w.alloc (.cells #[.int .u8 32] 5)) := below_alloc (Below.refl _ _) _
  obtain ⟨vs, hP⟩ := impl_spaced.parts (Kd.C_below hr0 hb) d4
  have hl : (Lib.bytesOf q).length = q.length := by simp [Lib.bytesOf]
  obtain ⟨v, hv⟩ : ∃ v, vs[0]? = some v := by
   have : 0 < vs.length := by rw [hP.1]; simp
   exact ⟨_, List.getElem?_eq_getElem this⟩
  obtain ⟨p, cap, rfl, hp0, hpc⟩ := hP.2.2 0 v (Lib.bytesOf q) hv rfl
  have hcell := hP.2.1 0 _ hv
  have hz : (⟨b, o, none⟩ : Addr).add 0 = ⟨b, o, none⟩ := by unfold Addr.add; split <;> simp_all
  rw [hz] at hcell
  obtain ⟨ad0, rfl⟩ : ∃ a, p = some a := by
   cases p with
   | none => have := hp0 rfl; rw [this] at hl; simp at hl; omega
   | some a => exact ⟨a, rfl⟩
  have HP := Aside0.mk hcell
  have HS := Aside0.mk (hpc ad0 rfl)
  have A1 := Aside0.mk d2
  have A2 := Aside0.mk d3
  have A3 := Aside0.mk dq
  have HC := Aside0.mk hc0
  have HW := Aside0.mk hb
  clear hP d1 d2 d3 d4 dq hc0 hr0 hA hb h hcell hpc hp0 hv c
  go_enter Tryd.func34, Tryd.ntmps34
  go_wp2_with (first | ((with_reducible refine gate_callee (f := 59) rfl ?_); refine gl_ (some 5) Tryd.func59 #[.slice (some ⟨b, o, none⟩) 1 c0, .slice (some ⟨w.heap.size, 0, none⟩) 1 1] (h := ?_); (refine (Tryd.bytes_Join_one b o c0 ad0 cap (Lib.bytesOf q) _ _ HP.out HS.out (by have := A1.out; omega) (by have := A2.out; omega)).mono ?_); rintro e w' ⟨v', rfl, hf, hb2⟩; refine ⟨_, rfl, ?_⟩))
  go_ret
  have hf2 := RMk_fresh hf (by have := A1.out; omega)
  rw [impl_spaced.back q A3.out] at hf2
  exact ⟨_, rfl, RMk_lower hf2 HW.out.size, HW.out.trans (hb2.mono HW.out.size)⟩
 rw [if_neg d] at h
 exact absurd h (by simp)

/-! ### virtual_more: function 136 -/
/-- Is there a letter more? -/
def virtual_more.f (s : ByteArray) (i : Int) : Option Bool := if 0 ≤ i ∧ s.size ≤ 1000000 then some (decide (i < (s.size : Int))) else none
theorem virtual_more.get {s : ByteArray} {i : Nat} {r : Bool} (h : virtual_more.f s (i : Int) = some r) : s.size ≤ 1000000 ∧ r = decide (i < s.size) := by
 unfold virtual_more.f at h
 by_cases c : 0 ≤ (i : Int) ∧ s.size ≤ 1000000
 ·rw [if_pos c] at h
  injection h with h
  exact ⟨c.2, by rw [← h]; simp⟩
 rw [if_neg c] at h
 cases h

/-! ### virtual_rune: function 137 -/
/-- A letter of a string of plain letters. -/
def virtual_rune.f (s : ByteArray) (i : Int) : Option Int := if 0 ≤ i ∧ i < (s.size : Int) ∧ ∀ b ∈ s.data.toList, b.toNat < 128 then some ((s.data.toList.getD i.toNat 0).toNat : Int) else none
theorem virtual_rune.get {s : ByteArray} {i : Nat} {r : Int} (h : virtual_rune.f s (i : Int) = some r) : ∃ h : i < s.size, (s[i]'h).toNat < 128 ∧ ((s[i]'h).toNat : Int) = r := by
 unfold virtual_rune.f at h
 by_cases c : 0 ≤ (i : Int) ∧ (i : Int) < (s.size : Int) ∧ ∀ b ∈ s.data.toList, b.toNat < 128
 ·rw [if_pos c] at h
  injection h with h
  have hlt : i < s.size := by omega
  have hl : i < s.data.toList.length := by simpa using hlt
  have he : s.data.toList.getD i 0 = s[i]'hlt := by
   rw [List.getD_eq_getElem?_getD, List.getElem?_eq_getElem hl]
   rfl
  rw [Int.toNat_natCast, he] at h
  exact ⟨hlt, by rw [← he, List.getD_eq_getElem?_getD, List.getElem?_eq_getElem hl]; exact c.2.2 _ (List.getElem_mem hl), h⟩
 rw [if_neg c] at h
 cases h

/-! ### impl_OpText: function 8 -/
def impl_OpText.l0 : Nat → List (List Int) → ByteArray → Int → List Int → List Int → Int → Int → Option (List Int × Bool)
 | 0, _, _, _, _, _, _, _ => none
 | k + 1, x4, x16, x145000, x145001, x145002, x145003, x154000 => (virtual_more.f x16 x154000).bind fun t154 => (if t154 = true then ((virtual_rune.f x16 x154000).bind fun t158 => (if t158 = 107 then (if x4.length < 5864062014805 then (impl_OpText.l0 k (x4 ++ [x145001]) x16 x145000 x145001 x145002 x145003 (wrap64 (x154000 + 1))) else (none)) else (if t158 = 118 then ((impl_quoted.f k x145002).bind fun t162 => (if x4.length < 5864062014805 then (impl_OpText.l0 k (x4 ++ [t162]) x16 x145000 x145001 x145002 x145003 (wrap64 (x154000 + 1))) else (none))) else ((impl_decimal.f x145003).bind fun t168 => (if x4.length < 5864062014805 then (impl_OpText.l0 k (x4 ++ [t168]) x16 x145000 x145001 x145002 x145003 (wrap64 (x154000 + 1))) else (none)))))) else ((impl_spaced.f x4).bind fun t155 => (some (t155, true))))
def impl_OpText.f (k : Nat) (a0_0 : Int) (l0_1 : List Int) (l0_2 : List Int) (a0_3 : Int) : Option (List Int × Bool) := (impl_OpOk.f k a0_0 l0_1 l0_2 a0_3).bind fun t145 => (if t145 = true then ((impl_OpName.f a0_0).bind fun t146 => ((impl_parts.f a0_0).bind fun t152 => (impl_OpText.l0 k (([t146] : List (List Int))) t152 a0_0 l0_1 l0_2 a0_3 0))) else (some (([] : List Int), false)))
set_option maxHeartbeats 8000000 in
set_option maxRecDepth 100000 in
theorem impl_OpText.calls (k : Nat) (a0_0 : Int) (P0_1_ : Nat → Prop) (A0_1 : Option Addr) (c0_1 : Nat) (l0_1 : List Int) (A0_2 : Option Addr) (c0_2 : Nat) (l0_2 : List Int) (a0_3 : Int) (r1 : List Int) (r2 : Bool) (w : World) (hs0_1 : Kd.V (Kd.int .u8) 5 w w.heap.size (fun k_ => P0_1_ k_) (.slice A0_1 l0_1.length c0_1) l0_1) (hr0_2 : Kd.C (Kd.int .u8) w A0_2 l0_2.length l0_2) (hc0_2 : l0_2.length ≤ c0_2) (htab : Lib.TabIs Tryd.prog w "internal/strconv.uint64pow10" .u64 Lib.pow10Tab) (h : impl_OpText.f k a0_0 l0_1 l0_2 a0_3 = some (r1, r2)) :
  Calls Tryd.prog 8 #[.agg #[.int .i64 a0_0, .slice A0_1 l0_1.length c0_1, .slice A0_2 l0_2.length c0_2, .int .i64 a0_3]] w fun e w' => ∃ v0_ : Value, e = .returned (.tuple #[v0_, .bool r2]) ∧ RMk w' w.heap.size (fun k_ => (w.heap.size ≤ k_)) v0_ r1 ∧ Below w.heap.size w w' := by
 have HTAB := Aside0.mk htab
 clear htab
 have hu24 := Tryd.underlying24
 have HO0_1 := Aside0.mk (show Kd.V (Kd.int .u8) 5 w w.heap.size (fun k_ => (P0_1_ k_ ∨ w.heap.size ≤ k_)) (.slice A0_1 l0_1.length c0_1) l0_1 from Kd.V_mono hs0_1 (fun k_ hk => .inl hk))
 have HR0_2 := Aside0.mk hr0_2
 have HC0_2 := Aside0.mk hc0_2
 clear hr0_2 hc0_2
 have HB := Aside0.mk (Below.refl w.heap.size w)
 have H : ((impl_OpOk.f k a0_0 l0_1 l0_2 a0_3).bind fun t145 => (if t145 = true then ((impl_OpName.f a0_0).bind fun t146 => ((impl_parts.f a0_0).bind fun t152 => (impl_OpText.l0 k (([t146] : List (List Int))) t152 a0_0 l0_1 l0_2 a0_3 0))) else (some (([] : List Int), false)))) = some (r1, r2) := h
 clear h
 replace H := Option.bind_eq_some_iff.mp H
 obtain ⟨t145, A20, H⟩ := H
 replace H : (if t145 = true then ((impl_OpName.f a0_0).bind fun t146 => ((impl_parts.f a0_0).bind fun t152 => (impl_OpText.l0 k (([t146] : List (List Int))) t152 a0_0 l0_1 l0_2 a0_3 0))) else (some (([] : List Int), false))) = some (r1, r2) := H
 have A2 := Aside0.mk A20
 clear A20
 by_cases c3 : t145 = true
 ·subst c3
  have H1 : ((impl_OpName.f a0_0).bind fun t146 => ((impl_parts.f a0_0).bind fun t152 => (impl_OpText.l0 k (([t146] : List (List Int))) t152 a0_0 l0_1 l0_2 a0_3 0))) = some (r1, r2) := by rw [if_pos rfl] at H; exact H
  clear H
  have H := H1
  clear H1
  replace H := Option.bind_eq_some_iff.mp H
  obtain ⟨t146, A40, H⟩ := H
  replace H : ((impl_parts.f a0_0).bind fun t152 => (impl_OpText.l0 k (([t146] : List (List Int))) t152 a0_0 l0_1 l0_2 a0_3 0)) = some (r1, r2) := H
  have A4 := Aside0.mk A40
  clear A40
  obtain ⟨y149, hy149⟩ : ∃ y_ : List (List Int), y_ = (([t146] : List (List Int))) := ⟨_, rfl⟩
  replace H : ((impl_parts.f a0_0).bind fun t152 => (impl_OpText.l0 k y149 t152 a0_0 l0_1 l0_2 a0_3 0)) = some (r1, r2) := by first | (rw [hy149]; with_reducible exact H) | (have H2_ := (Option.bind_some _ _).symm.trans H; rw [hy149]; with_reducible exact H2_) | (have H2_ := (Option.bind_some _ _).symm.trans H; with_reducible exact H2_) | with_reducible exact H | (rw [hy149]; exact H) | exact H
  have Ny149 := Aside0.mk hy149
  clear hy149
  replace H := Option.bind_eq_some_iff.mp H
  obtain ⟨t152, A50, H⟩ := H
  replace H : (impl_OpText.l0 k y149 t152 a0_0 l0_1 l0_2 a0_3 0) = some (r1, r2) := H
  have A5 := Aside0.mk A50
  clear A50
  have H' := Aside0.mk H
  clear H
  go_enter Tryd.func8, Tryd.ntmps8
  go_wp2_with (first | ((with_reducible refine gate_dst (N := 1) rfl ?_); refine bx_ 1 #[.int .i64 a0_0, .slice A0_1 l0_1.length c0_1, .slice A0_2 l0_2.length c0_2, .int .i64 a0_3] 24 (h := ?_); intro gb144 hg w6 hbox hb; have BK144 := Aside0.mk (hbox); have GW144 := Aside0.mk ((by rw [hg]; exact (below_size bel) : w.heap.size ≤ gb144)); have GE144 := GW144; replace HO0_1 := Aside0.mk (Kd.V_below (Kd.V_elderB (by (with_reducible repeat (first | apply Kd.V_alloc | apply Kd.V_drewN | apply Kd.V_drew)); exact HO0_1.out) gb144 (Nat.le_of_eq hg.symm)) hb); replace HB := bst hb; clear hb hbox hg; obtain ⟨C7_0, C7_1, C7_2, C7_3, -⟩ := cells_4 BK144.out trivial; obtain ⟨F7_0, F7_1, F7_2, F7_3, -⟩ := frz_4 BK144.out) | ((with_reducible refine gate_callee (f := 10) rfl ?_); refine gl_ (some 8) Tryd.func10 #[.agg #[.int .i64 a0_0, .slice A0_1 l0_1.length c0_1, .slice A0_2 l0_2.length c0_2, .int .i64 a0_3]] (h := ?_); (with_reducible refine (impl_OpOk.calls k a0_0 _ _ l0_1 _ _ l0_2 a0_3 true _ ?side1 ?side2 ?side3 ?side4 A2.out).mono ?_); (case side1 => repeat (first | exact (Kd.V_reads' HO0_1.out).2.2 | (with_reducible refine Kd.C_alloc ?_ _) | (with_reducible refine Kd.C_drewN ?_ _) | (with_reducible refine Kd.C_drew ?_))); (case side2 => exact (Kd.V_reads' HO0_1.out).2.1); (case side3 => exact kcb); (case side4 => exact HC0_2.out); rintro e w8 ⟨rfl, hb⟩; refine ⟨_, rfl, ?_⟩; replace HO0_1 := Aside0.mk (Kd.V_below (by (with_reducible repeat (first | apply Kd.V_alloc | apply Kd.V_drewN | apply Kd.V_drew)); exact HO0_1.out) hb); replace BK144 := Aside0.mk (blb BK144 hb); replace HB := bst hb; (try clear hb); (try clear hb2); (try clear hk); (try clear hi); obtain ⟨C9_0, C9_1, C9_2, C9_3, -⟩ := cells_4 BK144.out trivial; obtain ⟨F9_0, F9_1, F9_2, F9_3, -⟩ := frz_4 BK144.out) | ((with_reducible refine gate_callee (f := 30) rfl ?_); refine gl_ (some 12) Tryd.func30 #[.int .i64 a0_0] (h := ?_); (with_reducible refine (impl_OpName.calls a0_0 t146 _ A4.out).mono ?_); rintro e w10 ⟨v147, rfl, ho0, hb⟩; refine ⟨_, rfl, ?_⟩; have HO148 := Aside0.mk (Kd.V_lower (Kd.V_mono (ok' := fun k_ => (P0_1_ k_ ∨ w.heap.size ≤ k_) ∧ k_ ≠ gb144) ho0 (fun k_ hk_ => ⟨(.inr (Nat.le_trans (below_size bel) hk_)), (Kd.freshB (g := gb144) (o := .cells #[.int .i64 a0_0, .slice A0_1 l0_1.length c0_1, .slice A0_2 l0_2.length c0_2, .int .i64 a0_3] 24 (0, 0)) (bkp BK144) k_ hk_)⟩)) (below_size bel)); replace HO0_1 := Aside0.mk (Kd.V_below (by (with_reducible repeat (first | apply Kd.V_alloc | apply Kd.V_drewN | apply Kd.V_drew)); exact HO0_1.out) hb); replace BK144 := Aside0.mk (blb BK144 hb); replace HB := bst hb; (try clear hb); (try clear hb2); (try clear hk); (try clear hi); (try clear ho0); obtain ⟨Ao11, co11, eo11⟩ := Kd.V_slice HO148.out; subst eo11) | ((with_reducible refine gate_dst (N := 13) rfl ?_); refine Kd.N_lit (Kd.slice 5 (Kd.int .u8)) _ 22 ?hg (N' := 13) ?hd (xs := ([t146] : List (List Int))) (inner := [.slice Ao11 t146.length co11]) (ok := (fun k_ => (P0_1_ k_ ∨ w.heap.size ≤ k_) ∧ k_ ≠ gb144)) (okp := (fun k_ => (P0_1_ k_ ∨ w.heap.size ≤ k_) ∧ k_ ≠ gb144)) ?hr ?hp (fun _ hk => hk) ((show ∀ k_, w10.heap.size ≤ k_ → (fun k_ => (P0_1_ k_ ∨ w.heap.size ≤ k_) ∧ k_ ≠ gb144) k_ from fun k_ hk => ⟨(.inr (Nat.le_trans (below_size bel) hk)), Kd.freshB (g := gb144) (o := .cells #[.int .i64 a0_0, .slice A0_1 l0_1.length c0_1, .slice A0_2 l0_2.length c0_2, .int .i64 a0_3] 24 (0, 0)) (bkp BK144) k_ hk⟩) _ (Nat.le_refl _)) (Below.refl _ _) (Nat.le_refl _) (by simp) ?_; (case hd => rfl); (case hg => rfl); (case hr => first | (go_simp; done) | (go_simp; rfl)); (case hp => exact (Reps.one (show Kd.FK (Kd.slice 5 (Kd.int .u8)) _ _ t146 [.slice Ao11 t146.length co11] from (Kd.FK_slice_mk (Kd.V_reads' (Kd.V_mono (ok' := (fun k_ => (P0_1_ k_ ∨ w.heap.size ≤ k_) ∧ k_ ≠ gb144)) (HO148.out) (fun k_ hk => ⟨hk.1, hk.2⟩))).2.1 (Kd.V_F (Kd.V_mono (ok' := (fun k_ => (P0_1_ k_ ∨ w.heap.size ≤ k_) ∧ k_ ≠ gb144)) (HO148.out) (fun k_ hk => ⟨hk.1, hk.2⟩))))) (Reps.none _ _))); intro v150 w12 ho13 hb hg_ hnew_; clear hg_ hnew_; (first | rw [← Ny149.out] at ho13 | (simp only [Int.reduceToNat] at ho13; rw [← Ny149.out] at ho13)); have HO151 := Aside0.mk (Kd.N_lower ho13 (below_size bel)); replace HO0_1 := Aside0.mk (Kd.V_elder' (by (with_reducible repeat (first | apply Kd.V_alloc | apply Kd.V_drewN | apply Kd.V_drew)); exact HO0_1.out) (Kd.N_base ho13) hb); replace HO148 := Aside0.mk (Kd.V_elder' (by (with_reducible repeat (first | apply Kd.V_alloc | apply Kd.V_drewN | apply Kd.V_drew)); exact HO148.out) (Kd.N_base ho13) hb); replace BK144 := Aside0.mk (blb BK144 hb); replace HB := bst hb; clear hb ho13; obtain ⟨C14_0, C14_1, C14_2, C14_3, -⟩ := cells_4 BK144.out trivial; obtain ⟨F14_0, F14_1, F14_2, F14_3, -⟩ := frz_4 BK144.out) | ((with_reducible refine gate_callee (f := 31) rfl ?_); refine gl_ (some 16) Tryd.func31 #[.int .i64 a0_0] (h := ?_); (with_reducible refine (impl_parts.calls a0_0 t152 _ A5.out).mono ?_); rintro e w15 ⟨rfl, hb⟩; refine ⟨_, rfl, ?_⟩; replace HO0_1 := Aside0.mk (Kd.V_below (by (with_reducible repeat (first | apply Kd.V_alloc | apply Kd.V_drewN | apply Kd.V_drew)); exact HO0_1.out) hb); replace HO148 := Aside0.mk (Kd.V_below (by (with_reducible repeat (first | apply Kd.V_alloc | apply Kd.V_drewN | apply Kd.V_drew)); exact HO148.out) hb); replace HO151 := Aside0.mk (Kd.N_below (by (with_reducible repeat (first | apply Kd.N_alloc | apply Kd.N_drewN | apply Kd.N_drew)); exact HO151.out) hb); replace BK144 := Aside0.mk (blb BK144 hb); replace HB := bst hb; (try clear hb); (try clear hb2); (try clear hk); (try clear hi)) | ((with_reducible refine gate_dst (N := 17) rfl ?_); refine rg_ 17 t152 Tryd.underlying9 (h := ?_); intro gb153 hg w16 hbox hb; have BK153 := Aside0.mk (hbox); have GW153 := Aside0.mk ((by rw [hg]; exact (below_size bel) : w.heap.size ≤ gb153)); have GE153 := GW153; have NB144_153 := Aside0.mk ((by rw [hg]; exact Nat.ne_of_lt (blt BK144) : gb144 ≠ gb153)); have NB153_144 := Aside0.mk NB144_153.out.symm; replace HO0_1 := Aside0.mk (Kd.V_below (Kd.V_elderB (by (with_reducible repeat (first | apply Kd.V_alloc | apply Kd.V_drewN | apply Kd.V_drew)); exact HO0_1.out) gb153 (Nat.le_of_eq hg.symm)) hb); replace HO148 := Aside0.mk (Kd.V_below (Kd.V_elderB (by (with_reducible repeat (first | apply Kd.V_alloc | apply Kd.V_drewN | apply Kd.V_drew)); exact HO148.out) gb153 (Nat.le_of_eq hg.symm)) hb); replace HO151 := Aside0.mk (Kd.N_below (Kd.N_elderB (by (with_reducible repeat (first | apply Kd.N_alloc | apply Kd.N_drewN | apply Kd.N_drew)); exact HO151.out) gb153 (Nat.le_of_eq hg.symm)) hb); replace BK144 := Aside0.mk (blb BK144 hb); replace HB := bst hb; clear hb hbox hg))
  (try simp only [Act.put, List.setIfInBounds_toArray, List.set_cons_zero, List.set_cons_succ])
  go_loopg [4] k (fun kq v4 w' => ∃ (x4_1 : List (List Int)) (x17 : Nat), Aside0 (impl_OpText.l0 kq x4_1 t152 a0_0 l0_1 l0_2 a0_3 (x17 : Int) = some (r1, r2)) ∧ Aside0 (kq ≤ k) ∧ Aside0 (Kd.N (Kd.slice 5 (Kd.int .u8)) 22 w' w.heap.size (fun k_ => (P0_1_ k_ ∨ w.heap.size ≤ k_) ∧ k_ ≠ gb144 ∧ k_ ≠ gb153) v4 x4_1) ∧ Aside0 (Kd.V (Kd.int .u8) 5 w' w.heap.size (fun k_ => (P0_1_ k_ ∨ w.heap.size ≤ k_) ∧ some k_ ≠ (v4 : Value).ownBlock ∧ k_ ≠ gb144 ∧ k_ ≠ gb153) (.slice A0_1 l0_1.length c0_1) l0_1) ∧ Aside0 (w'.heap[gb144]? = some (.cells #[.int .i64 a0_0, (.slice A0_1 l0_1.length c0_1), (.slice A0_2 l0_2.length c0_2), .int .i64 a0_3] 24 (0, 0))) ∧ Aside0 (w'.heap[gb153]? = some (.stringIter t152 x17)) ∧ Aside0 (Below w.heap.size w w'))
  case atStart => exact ⟨(y149), 0, H', ⟨Nat.le_refl _⟩, ⟨by (with_reducible repeat (first | apply Kd.N_alloc | apply Kd.N_drewN | apply Kd.N_drew)); exact Kd.N_mono HO151.out (fun _ hk => ⟨hk.1.1, ⟨hk.1.2, hk.2⟩⟩)⟩, ⟨by (with_reducible repeat (first | apply Kd.V_alloc | apply Kd.V_drewN | apply Kd.V_drew)); exact Kd.V_mono HO0_1.out (fun _ hk => ⟨hk.1.1.1, ⟨hk.1.2, ⟨hk.1.1.2, hk.2⟩⟩⟩)⟩, ⟨bkp BK144⟩, ⟨bkp BK153⟩, ⟨bel⟩⟩
  case round =>
   clear H'
   try clear c1; try clear p2; try clear c3; try clear c8; try clear c10; try clear C14_0 C14_1 C14_2 C14_3; try clear C7_0 C7_1 C7_2 C7_3; try clear C9_0 C9_1 C9_2 C9_3; try clear F14_0 F14_1 F14_2 F14_3; try clear F7_0 F7_1 F7_2 F7_3; try clear F9_0 F9_1 F9_2 F9_3
   obtain ⟨x4_1, x17, HA, HK1, HO_4, HO_145001, BK144, BK153, HB⟩ := hrel
   cases gk with
   | zero => exact absurd HA.out (by simp [impl_OpText.l0])
   | succ k1 =>
    have H := HA.out
    clear HA
    simp only [impl_OpText.l0] at H
    replace H := Option.bind_eq_some_iff.mp H
    obtain ⟨t154, A170, H⟩ := H
    replace H : (if t154 = true then ((virtual_rune.f t152 (x17 : Int)).bind fun t158 => (if t158 = 107 then (if x4_1.length < 5864062014805 then (impl_OpText.l0 k1 (x4_1 ++ [l0_1]) t152 a0_0 l0_1 l0_2 a0_3 (wrap64 ((x17 : Int) + 1))) else (none)) else (if t158 = 118 then ((impl_quoted.f k1 l0_2).bind fun t162 => (if x4_1.length < 5864062014805 then (impl_OpText.l0 k1 (x4_1 ++ [t162]) t152 a0_0 l0_1 l0_2 a0_3 (wrap64 ((x17 : Int) + 1))) else (none))) else ((impl_decimal.f a0_3).bind fun t168 => (if x4_1.length < 5864062014805 then (impl_OpText.l0 k1 (x4_1 ++ [t168]) t152 a0_0 l0_1 l0_2 a0_3 (wrap64 ((x17 : Int) + 1))) else (none)))))) else ((impl_spaced.f x4_1).bind fun t155 => (some (t155, true)))) = some (r1, r2) := H
    have A17 := Aside0.mk A170
    clear A170
    obtain ⟨hsz_, hmo_⟩ := virtual_more.get A17.out
    have HW17 := Aside0.mk (show x17 < 1000000 → wrap64 ((x17 : Int) + 1) = ((x17 + 1 : Nat) : Int) from fun h_ => by unfold wrap64; omega)
    have HMO := Aside0.mk hmo_
    have HSZ := Aside0.mk hsz_
    clear hmo_ hsz_
    by_cases c18 : t154 = true
    ·subst c18
     have H1 : ((virtual_rune.f t152 (x17 : Int)).bind fun t158 => (if t158 = 107 then (if x4_1.length < 5864062014805 then (impl_OpText.l0 k1 (x4_1 ++ [l0_1]) t152 a0_0 l0_1 l0_2 a0_3 (wrap64 ((x17 : Int) + 1))) else (none)) else (if t158 = 118 then ((impl_quoted.f k1 l0_2).bind fun t162 => (if x4_1.length < 5864062014805 then (impl_OpText.l0 k1 (x4_1 ++ [t162]) t152 a0_0 l0_1 l0_2 a0_3 (wrap64 ((x17 : Int) + 1))) else (none))) else ((impl_decimal.f a0_3).bind fun t168 => (if x4_1.length < 5864062014805 then (impl_OpText.l0 k1 (x4_1 ++ [t168]) t152 a0_0 l0_1 l0_2 a0_3 (wrap64 ((x17 : Int) + 1))) else (none)))))) = some (r1, r2) := by rw [if_pos rfl] at H; exact H
     clear H
     have H := H1
     clear H1
     replace H := Option.bind_eq_some_iff.mp H
     obtain ⟨t158, A190, H⟩ := H
     replace H : (if t158 = 107 then (if x4_1.length < 5864062014805 then (impl_OpText.l0 k1 (x4_1 ++ [l0_1]) t152 a0_0 l0_1 l0_2 a0_3 (wrap64 ((x17 : Int) + 1))) else (none)) else (if t158 = 118 then ((impl_quoted.f k1 l0_2).bind fun t162 => (if x4_1.length < 5864062014805 then (impl_OpText.l0 k1 (x4_1 ++ [t162]) t152 a0_0 l0_1 l0_2 a0_3 (wrap64 ((x17 : Int) + 1))) else (none))) else ((impl_decimal.f a0_3).bind fun t168 => (if x4_1.length < 5864062014805 then (impl_OpText.l0 k1 (x4_1 ++ [t168]) t152 a0_0 l0_1 l0_2 a0_3 (wrap64 ((x17 : Int) + 1))) else (none))))) = some (r1, r2) := H
     have A19 := Aside0.mk A190
     clear A190
     by_cases c20 : t158 = 107
     ·rw [if_pos c20] at H
      have c20b0 : (t158 == 107) = true := beq_iff_eq.mpr c20
      have c20b1 : (t158 != 107) = false := bne_eq_false_iff_eq.mpr c20
      clear c20
      by_cases c21 : x4_1.length < 5864062014805
      ·rw [if_pos c21] at H
       have LMc21 := Aside0.mk c21
       clear c21
       obtain ⟨y159, hy159⟩ : ∃ y_ : List (List Int), y_ = (x4_1 ++ [l0_1]) := ⟨_, rfl⟩
       replace H : (impl_OpText.l0 k1 y159 t152 a0_0 l0_1 l0_2 a0_3 (wrap64 ((x17 : Int) + 1))) = some (r1, r2) := by first | (rw [hy159]; with_reducible exact H) | (have H2_ := (Option.bind_some _ _).symm.trans H; rw [hy159]; with_reducible exact H2_) | (have H2_ := (Option.bind_some _ _).symm.trans H; with_reducible exact H2_) | with_reducible exact H | (rw [hy159]; exact H) | exact H
       have Ny159 := Aside0.mk hy159
       clear hy159
       have H' := Aside0.mk H
       clear H
       have hnb22 := NB153_144.out
       have hnc22 := NB144_153.out
       go_wp2_with (first | ((with_reducible refine gate_dst (N := 18) rfl ?_); refine nx_ 18 (bkp BK153) (virtual_rune.get A19.out) (h := ?_); intro w9_ hkp_ hit_ hbl_; have n0_ := Aside0.mk (Kd.N_keep HO_4.out hkp_ (fun k_ hk_ => hk_.2.2)); have n1_ := Aside0.mk (Kd.V_keep HO_145001.out hkp_ (fun k_ hk_ => hk_.2.2.2)); have n2_ := Aside0.mk ((hkp_.2 _ (blk_lt BK144.out) NB144_153.out (by simp)).trans BK144.out); have n3_ := Aside0.mk hit_; have n4_ := Aside0.mk (HB.out.trans (hbl_ _ GE153.out)); clear HO_4 HO_145001 BK144 BK153 HB hkp_ hit_ hbl_; have HO_4 := n0_; have HO_145001 := n1_; have BK144 := n2_; have BK153 := n3_; have HB := n4_; clear n0_ n1_ n2_ n3_ n4_; obtain ⟨C9_0, C9_1, C9_2, C9_3, -⟩ := cells_4 BK144.out trivial; obtain ⟨F9_0, F9_1, F9_2, F9_3, -⟩ := frz_4 BK144.out) | ((with_reducible refine gate_builtin (b := .append) (xs := #[.tmp 30, .tmp 33]) rfl ?_); at_builtin; refine Kd.N_append (Kd.slice 5 (Kd.int .u8)) (w0 := w) w.heap.size rfl (.tmp 30) (.tmp 33) 51 22 (.slice none 0 0) 24 rfl Tryd.underlying51 info22 rfl (by decide) (by omega) u4 x4_1 l0_1 [.slice A0_1 l0_1.length c0_1] (fun k_ => (P0_1_ k_ ∨ w.heap.size ≤ k_) ∧ k_ ≠ gb144 ∧ k_ ≠ gb153) (fun k_ => ((fun k_ => (P0_1_ k_ ∨ w.heap.size ≤ k_) ∧ k_ ≠ gb144 ∧ k_ ≠ gb153)) k_ ∧ some k_ ≠ (u4 : Value).ownBlock) rfl rfl ?aP (fun _ hk => hk) ?aF ?aO ?aB ?aS ?aL ?_; (case aP => exact (Kd.FK_slice_mk (Kd.V_reads' (Kd.V_mono (ok' := (fun k_ => ((fun k_ => (P0_1_ k_ ∨ w.heap.size ≤ k_) ∧ k_ ≠ gb144 ∧ k_ ≠ gb153)) k_ ∧ some k_ ≠ (u4 : Value).ownBlock)) (HO_145001.out) (fun k_ hk => ⟨⟨hk.1, ⟨hk.2.2.1, hk.2.2.2⟩⟩, hk.2.1⟩))).2.1 (Kd.V_F (Kd.V_mono (ok' := (fun k_ => ((fun k_ => (P0_1_ k_ ∨ w.heap.size ≤ k_) ∧ k_ ≠ gb144 ∧ k_ ≠ gb153)) k_ ∧ some k_ ≠ (u4 : Value).ownBlock)) (HO_145001.out) (fun k_ hk => ⟨⟨hk.1, ⟨hk.2.2.1, hk.2.2.2⟩⟩, hk.2.1⟩))))); (case aB => exact bel); (case aF => exact (fun k_ hk => ⟨(.inr (Nat.le_trans (below_size bel) hk)), Kd.freshB (g := gb144) (o := .cells #[.int .i64 a0_0, .slice A0_1 l0_1.length c0_1, .slice A0_2 l0_2.length c0_2, .int .i64 a0_3] 24 (0, 0)) (bkp BK144) k_ hk, Kd.freshB (g := gb153) (o := .stringIter t152 (x17 + 1)) (bkp BK153) k_ hk⟩)); (case aO => exact (by (with_reducible repeat (first | apply Kd.N_alloc | apply Kd.N_drewN | apply Kd.N_drew)); exact HO_4.out)); (case aS => exact (below_size bel)); (case aL => have := LMc21.out; omega); intro v160 w26 ho hb hg hat; rw [← Ny159.out] at ho; have n0_ := Aside0.mk (Kd.V_afterv (ok := (fun k_ => (P0_1_ k_ ∨ w.heap.size ≤ k_) ∧ k_ ≠ gb144 ∧ k_ ≠ gb153)) (by (with_reducible repeat (first | apply Kd.V_alloc | apply Kd.V_drewN | apply Kd.V_drew)); exact Kd.V_mono HO_145001.out (fun _ hk => ⟨⟨hk.1, ⟨hk.2.2.1, hk.2.2.2⟩⟩, hk.2.1⟩)) hg hat); have n1_ := Aside0.mk (blk_grown (g := gb144) (o := .cells #[.int .i64 a0_0, .slice A0_1 l0_1.length c0_1, .slice A0_2 l0_2.length c0_2, .int .i64 a0_3] 24 (0, 0)) (bkp BK144) hg (Kd.N_ne HO_4.out BK144.out (by decide))); have n2_ := Aside0.mk (blk_grown (g := gb153) (o := .stringIter t152 (x17 + 1)) (bkp BK153) hg (Kd.N_neI HO_4.out BK153.out)); have n3_ := Aside0.mk (hb); have n4_ := Aside0.mk (ho); clear HO_145001; clear BK144; clear BK153; clear HB; clear HO_4; have HO_145001 := n0_; have BK144 := n1_; have BK153 := n2_; have HB := n3_; have HO161 := n4_; clear n0_ n1_ n2_ n3_ n4_; clear ho hb hg hat))
       go_roundg k1
       case measure => have := HK1.out; omega
       case rel => exact ⟨(y159), x17 + 1, ⟨by have z_ := H'.out; rw [HW17.out (by have h_ := HMO.out; have := HSZ.out; have := of_decide_eq_true h_.symm; omega)] at z_; exact z_⟩, ⟨by have := HK1.out; omega⟩, ⟨by (with_reducible repeat (first | apply Kd.N_alloc | apply Kd.N_drewN | apply Kd.N_drew)); exact HO161.out⟩, ⟨by (with_reducible repeat (first | apply Kd.V_alloc | apply Kd.V_drewN | apply Kd.V_drew)); exact Kd.V_mono HO_145001.out (fun _ hk => ⟨hk.1.1, ⟨hk.2, ⟨hk.1.2.1, hk.1.2.2⟩⟩⟩)⟩, ⟨bkp BK144⟩, ⟨bkp BK153⟩, ⟨bel⟩⟩
      rw [if_neg c21] at H
      exact absurd H (by simp)
     rw [if_neg c20] at H
     have c20b0 : (t158 == 107) = false := beq_eq_false_iff_ne.mpr c20
     have c20b1 : (t158 != 107) = true := bne_iff_ne.mpr c20
     by_cases c27 : t158 = 118
     ·rw [if_pos c27] at H
      have c27b0 : (t158 == 118) = true := beq_iff_eq.mpr c27
      have c27b1 : (t158 != 118) = false := bne_eq_false_iff_eq.mpr c27
      clear c27
      replace H := Option.bind_eq_some_iff.mp H
      obtain ⟨t162, A280, H⟩ := H
      replace H : (if x4_1.length < 5864062014805 then (impl_OpText.l0 k1 (x4_1 ++ [t162]) t152 a0_0 l0_1 l0_2 a0_3 (wrap64 ((x17 : Int) + 1))) else (none)) = some (r1, r2) := H
      have A28 := Aside0.mk A280
      clear A280
      by_cases c29 : x4_1.length < 5864062014805
      ·rw [if_pos c29] at H
       have LMc29 := Aside0.mk c29
       clear c29
       obtain ⟨y165, hy165⟩ : ∃ y_ : List (List Int), y_ = (x4_1 ++ [t162]) := ⟨_, rfl⟩
       replace H : (impl_OpText.l0 k1 y165 t152 a0_0 l0_1 l0_2 a0_3 (wrap64 ((x17 : Int) + 1))) = some (r1, r2) := by first | (rw [hy165]; with_reducible exact H) | (have H2_ := (Option.bind_some _ _).symm.trans H; rw [hy165]; with_reducible exact H2_) | (have H2_ := (Option.bind_some _ _).symm.trans H; with_reducible exact H2_) | with_reducible exact H | (rw [hy165]; exact H) | exact H
       have Ny165 := Aside0.mk hy165
       clear hy165
       have H' := Aside0.mk H
       clear H
       have hnb30 := NB153_144.out
       have hnc30 := NB144_153.out
       go_wp2_with (first | ((with_reducible refine gate_dst (N := 18) rfl ?_); refine nx_ 18 (bkp BK153) (virtual_rune.get A19.out) (h := ?_); intro w9_ hkp_ hit_ hbl_; have n0_ := Aside0.mk (Kd.N_keep HO_4.out hkp_ (fun k_ hk_ => hk_.2.2)); have n1_ := Aside0.mk (Kd.V_keep HO_145001.out hkp_ (fun k_ hk_ => hk_.2.2.2)); have n2_ := Aside0.mk ((hkp_.2 _ (blk_lt BK144.out) NB144_153.out (by simp)).trans BK144.out); have n3_ := Aside0.mk hit_; have n4_ := Aside0.mk (HB.out.trans (hbl_ _ GE153.out)); clear HO_4 HO_145001 BK144 BK153 HB hkp_ hit_ hbl_; have HO_4 := n0_; have HO_145001 := n1_; have BK144 := n2_; have BK153 := n3_; have HB := n4_; clear n0_ n1_ n2_ n3_ n4_; obtain ⟨C9_0, C9_1, C9_2, C9_3, -⟩ := cells_4 BK144.out trivial; obtain ⟨F9_0, F9_1, F9_2, F9_3, -⟩ := frz_4 BK144.out) | ((with_reducible refine gate_callee (f := 32) rfl ?_); refine gl_ (some 40) Tryd.func32 #[.slice A0_2 l0_2.length c0_2] (h := ?_); (with_reducible refine (impl_quoted.calls k1 _ _ l0_2 t162 _ ?side1 ?side2 A28.out).mono ?_); (case side1 => exact Kd.C_below HR0_2.out bel); (case side2 => exact HC0_2.out); rintro e w33 ⟨v163, rfl, ho0, hb⟩; refine ⟨_, rfl, ?_⟩; have HO164 := Aside0.mk (Kd.R_lower (Kd.R_newM (M := fun k_ => (w.heap.size ≤ k_)) ho0 (below_size bel) (fun k_ h_ => h_)) (below_size bel)); replace HO_4 := Aside0.mk (Kd.N_elder' (by (with_reducible repeat (first | apply Kd.N_alloc | apply Kd.N_drewN | apply Kd.N_drew)); exact HO_4.out) (Kd.R_base ho0) hb); replace HO_145001 := Aside0.mk (Kd.V_elder' (by (with_reducible repeat (first | apply Kd.V_alloc | apply Kd.V_drewN | apply Kd.V_drew)); exact HO_145001.out) (Kd.R_base ho0) hb); replace BK144 := Aside0.mk (blk_below (g := gb144) (o := .cells #[.int .i64 a0_0, .slice A0_1 l0_1.length c0_1, .slice A0_2 l0_2.length c0_2, .int .i64 a0_3] 24 (0, 0)) (bkp BK144) hb); replace BK153 := Aside0.mk (blk_below (g := gb153) (o := .stringIter t152 (x17 + 1)) (bkp BK153) hb); replace HB := bst hb; (try clear hb); (try clear hb2); (try clear hk); (try clear hi); (try clear ho0); obtain ⟨Ao35, co35, eo35⟩ := Kd.R_slice HO164.out; subst eo35) | ((with_reducible refine gate_builtin (b := .append) (xs := #[.tmp 37, .tmp 41]) rfl ?_); at_builtin; refine Kd.N_append (Kd.slice 5 (Kd.int .u8)) (w0 := w) w.heap.size rfl (.tmp 37) (.tmp 41) 51 22 (.slice none 0 0) 24 rfl Tryd.underlying51 info22 rfl (by decide) (by omega) u4 x4_1 t162 [.slice Ao35 t162.length co35] (fun k_ => (P0_1_ k_ ∨ w.heap.size ≤ k_) ∧ k_ ≠ gb144 ∧ k_ ≠ gb153) (fun k_ => ((fun k_ => (P0_1_ k_ ∨ w.heap.size ≤ k_) ∧ k_ ≠ gb144 ∧ k_ ≠ gb153)) k_ ∧ some k_ ≠ (u4 : Value).ownBlock) rfl rfl ?aP (fun _ hk => hk) ?aF ?aO ?aB ?aS ?aL ?_; (case aP => exact (Kd.FK_slice_mk (Kd.R_reads' (Kd.R_mono (ok' := (fun k_ => ((fun k_ => (P0_1_ k_ ∨ w.heap.size ≤ k_) ∧ k_ ≠ gb144 ∧ k_ ≠ gb153)) k_ ∧ some k_ ≠ (u4 : Value).ownBlock)) (Kd.R_iter (Kd.R_types (Kd.R_apart' (HO164.out) (Kd.N_typed HO_4.out) (by decide)) BK144.out (by decide)) BK153.out) (fun k_ hk => ⟨⟨(.inr (hk.1.1.1.1)), ⟨hk.1.2, hk.2⟩⟩, hk.1.1.2⟩))).2.1 (Go.Proofs.YtmnjdmmljkahgaaDoorW.PrintWords.Kd.R_F (Kd.R_mono (ok' := (fun k_ => ((fun k_ => (P0_1_ k_ ∨ w.heap.size ≤ k_) ∧ k_ ≠ gb144 ∧ k_ ≠ gb153)) k_ ∧ some k_ ≠ (u4 : Value).ownBlock)) (Kd.R_iter (Kd.R_types (Kd.R_apart' (HO164.out) (Kd.N_typed HO_4.out) (by decide)) BK144.out (by decide)) BK153.out) (fun k_ hk => ⟨⟨(.inr (hk.1.1.1.1)), ⟨hk.1.2, hk.2⟩⟩, hk.1.1.2⟩))))); (case aB => exact bel); (case aF => exact (fun k_ hk => ⟨(.inr (Nat.le_trans (below_size bel) hk)), Kd.freshB (g := gb144) (o := .cells #[.int .i64 a0_0, .slice A0_1 l0_1.length c0_1, .slice A0_2 l0_2.length c0_2, .int .i64 a0_3] 24 (0, 0)) (bkp BK144) k_ hk, Kd.freshB (g := gb153) (o := .stringIter t152 (x17 + 1)) (bkp BK153) k_ hk⟩)); (case aO => exact (by (with_reducible repeat (first | apply Kd.N_alloc | apply Kd.N_drewN | apply Kd.N_drew)); exact Kd.N_mono HO_4.out (fun _ hk => ⟨hk.1.1, ⟨hk.1.2.1, hk.1.2.2⟩⟩))); (case aS => exact (below_size bel)); (case aL => have := LMc29.out; omega); intro v166 w34 ho hb hg hat; rw [← Ny165.out] at ho; have n0_ := Aside0.mk (Kd.V_afterv (ok := (fun k_ => (P0_1_ k_ ∨ w.heap.size ≤ k_) ∧ some k_ ≠ (.slice Ao35 t162.length co35 : Value).ownBlock ∧ k_ ≠ gb144 ∧ k_ ≠ gb153)) (by (with_reducible repeat (first | apply Kd.V_alloc | apply Kd.V_drewN | apply Kd.V_drew)); exact Kd.V_mono HO_145001.out (fun _ hk => ⟨⟨hk.1.1, ⟨hk.2, ⟨hk.1.2.2.1, hk.1.2.2.2⟩⟩⟩, hk.1.2.1⟩)) hg hat); have n1_ := Aside0.mk (blk_grown (g := gb144) (o := .cells #[.int .i64 a0_0, .slice A0_1 l0_1.length c0_1, .slice A0_2 l0_2.length c0_2, .int .i64 a0_3] 24 (0, 0)) (bkp BK144) hg (Kd.N_ne HO_4.out BK144.out (by decide))); have n2_ := Aside0.mk (blk_grown (g := gb153) (o := .stringIter t152 (x17 + 1)) (bkp BK153) hg (Kd.N_neI HO_4.out BK153.out)); have n3_ := Aside0.mk (hb); have n4_ := Aside0.mk (ho); clear HO_145001; clear BK144; clear BK153; clear HB; clear HO_4; clear HO164; have HO_145001 := n0_; have BK144 := n1_; have BK153 := n2_; have HB := n3_; have HO167 := n4_; clear n0_ n1_ n2_ n3_ n4_; clear ho hb hg hat))
       go_roundg k1
       case measure => have := HK1.out; omega
       case rel => exact ⟨(y165), x17 + 1, ⟨by have z_ := H'.out; rw [HW17.out (by have h_ := HMO.out; have := HSZ.out; have := of_decide_eq_true h_.symm; omega)] at z_; exact z_⟩, ⟨by have := HK1.out; omega⟩, ⟨by (with_reducible repeat (first | apply Kd.N_alloc | apply Kd.N_drewN | apply Kd.N_drew)); exact HO167.out⟩, ⟨by (with_reducible repeat (first | apply Kd.V_alloc | apply Kd.V_drewN | apply Kd.V_drew)); exact Kd.V_mono HO_145001.out (fun _ hk => ⟨hk.1.1, ⟨hk.2, ⟨hk.1.2.2.1, hk.1.2.2.2⟩⟩⟩)⟩, ⟨bkp BK144⟩, ⟨bkp BK153⟩, ⟨bel⟩⟩
      rw [if_neg c29] at H
      exact absurd H (by simp)
     rw [if_neg c27] at H
     have c27b0 : (t158 == 118) = false := beq_eq_false_iff_ne.mpr c27
     have c27b1 : (t158 != 118) = true := bne_iff_ne.mpr c27
     replace H := Option.bind_eq_some_iff.mp H
     obtain ⟨t168, A360, H⟩ := H
     replace H : (if x4_1.length < 5864062014805 then (impl_OpText.l0 k1 (x4_1 ++ [t168]) t152 a0_0 l0_1 l0_2 a0_3 (wrap64 ((x17 : Int) + 1))) else (none)) = some (r1, r2) := H
     have A36 := Aside0.mk A360
     clear A360
     by_cases c37 : x4_1.length < 5864062014805
     ·rw [if_pos c37] at H
      have LMc37 := Aside0.mk c37
      clear c37
      obtain ⟨y171, hy171⟩ : ∃ y_ : List (List Int), y_ = (x4_1 ++ [t168]) := ⟨_, rfl⟩
      replace H : (impl_OpText.l0 k1 y171 t152 a0_0 l0_1 l0_2 a0_3 (wrap64 ((x17 : Int) + 1))) = some (r1, r2) := by first | (rw [hy171]; with_reducible exact H) | (have H2_ := (Option.bind_some _ _).symm.trans H; rw [hy171]; with_reducible exact H2_) | (have H2_ := (Option.bind_some _ _).symm.trans H; with_reducible exact H2_) | with_reducible exact H | (rw [hy171]; exact H) | exact H
      have Ny171 := Aside0.mk hy171
      clear hy171
      have H' := Aside0.mk H
      clear H
      have hnb38 := NB153_144.out
      have hnc38 := NB144_153.out
      go_wp2_with (first | ((with_reducible refine gate_dst (N := 18) rfl ?_); refine nx_ 18 (bkp BK153) (virtual_rune.get A19.out) (h := ?_); intro w9_ hkp_ hit_ hbl_; have n0_ := Aside0.mk (Kd.N_keep HO_4.out hkp_ (fun k_ hk_ => hk_.2.2)); have n1_ := Aside0.mk (Kd.V_keep HO_145001.out hkp_ (fun k_ hk_ => hk_.2.2.2)); have n2_ := Aside0.mk ((hkp_.2 _ (blk_lt BK144.out) NB144_153.out (by simp)).trans BK144.out); have n3_ := Aside0.mk hit_; have n4_ := Aside0.mk (HB.out.trans (hbl_ _ GE153.out)); clear HO_4 HO_145001 BK144 BK153 HB hkp_ hit_ hbl_; have HO_4 := n0_; have HO_145001 := n1_; have BK144 := n2_; have BK153 := n3_; have HB := n4_; clear n0_ n1_ n2_ n3_ n4_; obtain ⟨C9_0, C9_1, C9_2, C9_3, -⟩ := cells_4 BK144.out trivial; obtain ⟨F9_0, F9_1, F9_2, F9_3, -⟩ := frz_4 BK144.out) | ((with_reducible refine gate_callee (f := 33) rfl ?_); refine gl_ (some 25) Tryd.func33 #[.int .i64 a0_3] (h := ?_); (with_reducible refine (impl_decimal.calls a0_3 t168 _ (tbl_ HTAB.out bel) A36.out).mono ?_); rintro e w41 ⟨v169, rfl, ho0, hb⟩; refine ⟨_, rfl, ?_⟩; have HO170 := Aside0.mk (Kd.V_lower (Kd.V_mono (ok' := fun k_ => (P0_1_ k_ ∨ w.heap.size ≤ k_) ∧ some k_ ≠ (u4 : Value).ownBlock ∧ k_ ≠ gb144 ∧ k_ ≠ gb153) ho0 (fun k_ hk_ => ⟨(.inr (Nat.le_trans (below_size bel) hk_)), (Kd.fresh' (Kd.N_lt (by (with_reducible repeat (first | apply Kd.N_alloc | apply Kd.N_drewN | apply Kd.N_drew)); exact HO_4.out)) k_ hk_), (Kd.freshB (g := gb144) (o := .cells #[.int .i64 a0_0, .slice A0_1 l0_1.length c0_1, .slice A0_2 l0_2.length c0_2, .int .i64 a0_3] 24 (0, 0)) (bkp BK144) k_ hk_), (Kd.freshB (g := gb153) (o := .stringIter t152 (x17 + 1)) (bkp BK153) k_ hk_)⟩)) (below_size bel)); replace HO_4 := Aside0.mk (Kd.N_below (by (with_reducible repeat (first | apply Kd.N_alloc | apply Kd.N_drewN | apply Kd.N_drew)); exact HO_4.out) hb); replace HO_145001 := Aside0.mk (Kd.V_below (by (with_reducible repeat (first | apply Kd.V_alloc | apply Kd.V_drewN | apply Kd.V_drew)); exact HO_145001.out) hb); replace BK144 := Aside0.mk (blk_below (g := gb144) (o := .cells #[.int .i64 a0_0, .slice A0_1 l0_1.length c0_1, .slice A0_2 l0_2.length c0_2, .int .i64 a0_3] 24 (0, 0)) (bkp BK144) hb); replace BK153 := Aside0.mk (blk_below (g := gb153) (o := .stringIter t152 (x17 + 1)) (bkp BK153) hb); replace HB := bst hb; (try clear hb); (try clear hb2); (try clear hk); (try clear hi); (try clear ho0); obtain ⟨Ao43, co43, eo43⟩ := Kd.V_slice HO170.out; subst eo43) | ((with_reducible refine gate_builtin (b := .append) (xs := #[.tmp 22, .tmp 26]) rfl ?_); at_builtin; refine Kd.N_append (Kd.slice 5 (Kd.int .u8)) (w0 := w) w.heap.size rfl (.tmp 22) (.tmp 26) 51 22 (.slice none 0 0) 24 rfl Tryd.underlying51 info22 rfl (by decide) (by omega) u4 x4_1 t168 [.slice Ao43 t168.length co43] (fun k_ => (P0_1_ k_ ∨ w.heap.size ≤ k_) ∧ k_ ≠ gb144 ∧ k_ ≠ gb153) (fun k_ => ((fun k_ => (P0_1_ k_ ∨ w.heap.size ≤ k_) ∧ k_ ≠ gb144 ∧ k_ ≠ gb153)) k_ ∧ some k_ ≠ (u4 : Value).ownBlock) rfl rfl ?aP (fun _ hk => hk) ?aF ?aO ?aB ?aS ?aL ?_; (case aP => exact (Kd.FK_slice_mk (Kd.V_reads' (Kd.V_mono (ok' := (fun k_ => ((fun k_ => (P0_1_ k_ ∨ w.heap.size ≤ k_) ∧ k_ ≠ gb144 ∧ k_ ≠ gb153)) k_ ∧ some k_ ≠ (u4 : Value).ownBlock)) (HO170.out) (fun k_ hk => ⟨⟨hk.1, ⟨hk.2.2.1, hk.2.2.2⟩⟩, hk.2.1⟩))).2.1 (Kd.V_F (Kd.V_mono (ok' := (fun k_ => ((fun k_ => (P0_1_ k_ ∨ w.heap.size ≤ k_) ∧ k_ ≠ gb144 ∧ k_ ≠ gb153)) k_ ∧ some k_ ≠ (u4 : Value).ownBlock)) (HO170.out) (fun k_ hk => ⟨⟨hk.1, ⟨hk.2.2.1, hk.2.2.2⟩⟩, hk.2.1⟩))))); (case aB => exact bel); (case aF => exact (fun k_ hk => ⟨(.inr (Nat.le_trans (below_size bel) hk)), Kd.freshB (g := gb144) (o := .cells #[.int .i64 a0_0, .slice A0_1 l0_1.length c0_1, .slice A0_2 l0_2.length c0_2, .int .i64 a0_3] 24 (0, 0)) (bkp BK144) k_ hk, Kd.freshB (g := gb153) (o := .stringIter t152 (x17 + 1)) (bkp BK153) k_ hk⟩)); (case aO => exact (by (with_reducible repeat (first | apply Kd.N_alloc | apply Kd.N_drewN | apply Kd.N_drew)); exact HO_4.out)); (case aS => exact (below_size bel)); (case aL => have := LMc37.out; omega); intro v172 w42 ho hb hg hat; rw [← Ny171.out] at ho; have n0_ := Aside0.mk (Kd.V_afterv (ok := (fun k_ => (P0_1_ k_ ∨ w.heap.size ≤ k_) ∧ k_ ≠ gb144 ∧ k_ ≠ gb153)) (by (with_reducible repeat (first | apply Kd.V_alloc | apply Kd.V_drewN | apply Kd.V_drew)); exact Kd.V_mono HO_145001.out (fun _ hk => ⟨⟨hk.1, ⟨hk.2.2.1, hk.2.2.2⟩⟩, hk.2.1⟩)) hg hat); have n1_ := Aside0.mk (blk_grown (g := gb144) (o := .cells #[.int .i64 a0_0, .slice A0_1 l0_1.length c0_1, .slice A0_2 l0_2.length c0_2, .int .i64 a0_3] 24 (0, 0)) (bkp BK144) hg (Kd.N_ne HO_4.out BK144.out (by decide))); have n2_ := Aside0.mk (blk_grown (g := gb153) (o := .stringIter t152 (x17 + 1)) (bkp BK153) hg (Kd.N_neI HO_4.out BK153.out)); have n3_ := Aside0.mk (Kd.V_afterv (ok := (fun k_ => (P0_1_ k_ ∨ w.heap.size ≤ k_) ∧ k_ ≠ gb144 ∧ k_ ≠ gb153)) (by (with_reducible repeat (first | apply Kd.V_alloc | apply Kd.V_drewN | apply Kd.V_drew)); exact Kd.V_mono HO170.out (fun _ hk => ⟨⟨hk.1, ⟨hk.2.2.1, hk.2.2.2⟩⟩, hk.2.1⟩)) hg hat); have n4_ := Aside0.mk (hb); have n5_ := Aside0.mk (ho); clear HO_145001; clear BK144; clear BK153; clear HO170; clear HB; clear HO_4; have HO_145001 := n0_; have BK144 := n1_; have BK153 := n2_; have HO170 := n3_; have HB := n4_; have HO173 := n5_; clear n0_ n1_ n2_ n3_ n4_ n5_; clear ho hb hg hat))
      go_roundg k1
      case measure => have := HK1.out; omega
      case rel => exact ⟨(y171), x17 + 1, ⟨by have z_ := H'.out; rw [HW17.out (by have h_ := HMO.out; have := HSZ.out; have := of_decide_eq_true h_.symm; omega)] at z_; exact z_⟩, ⟨by have := HK1.out; omega⟩, ⟨by (with_reducible repeat (first | apply Kd.N_alloc | apply Kd.N_drewN | apply Kd.N_drew)); exact HO173.out⟩, ⟨by (with_reducible repeat (first | apply Kd.V_alloc | apply Kd.V_drewN | apply Kd.V_drew)); exact Kd.V_mono HO_145001.out (fun _ hk => ⟨hk.1.1, ⟨hk.2, ⟨hk.1.2.1, hk.1.2.2⟩⟩⟩)⟩, ⟨bkp BK144⟩, ⟨bkp BK153⟩, ⟨bel⟩⟩
     rw [if_neg c37] at H
     exact absurd H (by simp)
    replace c18 := Bool.eq_false_iff.mpr c18
    subst c18
    have H1 : ((impl_spaced.f x4_1).bind fun t155 => (some (t155, true))) = some (r1, r2) := by rw [if_neg (show ¬ (false = true) by decide)] at H; exact H
    clear H
    have H := H1
    clear H1
    replace H := Option.bind_eq_some_iff.mp H
    obtain ⟨t155, A440, H⟩ := H
    replace H : (some (t155, true)) = some (r1, r2) := H
    have A44 := Aside0.mk A440
    clear A440
    simp only [Option.some.injEq, Prod.mk.injEq] at H
    obtain ⟨rfl, rfl⟩ := H
    have hnb45 := NB153_144.out
    have hnc45 := NB144_153.out
    go_wp2_with (first | ((with_reducible refine gate_dst (N := 18) rfl ?_); refine nxe_ 18 (bkp BK153) (by have h_ := HMO.out; intro hl_; rw [decide_eq_true hl_] at h_; cases h_) (h := ?_); obtain ⟨Ao47, co47, eo47⟩ := Kd.N_slice HO_4.out; subst eo47) | ((with_reducible refine gate_callee (f := 34) rfl ?_); refine gl_ (some 44) Tryd.func34 #[.slice Ao47 x4_1.length co47] (h := ?_); (with_reducible refine (impl_spaced.calls _ _ x4_1 t155 _ ?side1 ?side2 (Kd.N_plain HO_4.out) A44.out).mono ?_); (case side1 => repeat (first | exact (Kd.N_reads' HO_4.out).2.2 | (with_reducible refine Kd.C_alloc ?_ _) | (with_reducible refine Kd.C_drewN ?_ _) | (with_reducible refine Kd.C_drew ?_))); (case side2 => exact (Kd.N_reads' HO_4.out).2.1); rintro e w48 ⟨v156, rfl, ho0, hb⟩; refine ⟨_, rfl, ?_⟩; have HO157 := Aside0.mk (RMk_lower (RMk_newM (M := fun k_ => (w.heap.size ≤ k_)) ho0 (below_size bel) (fun k_ h_ => h_)) (below_size bel)); replace HO_4 := Aside0.mk (Kd.N_elder' (by (with_reducible repeat (first | apply Kd.N_alloc | apply Kd.N_drewN | apply Kd.N_drew)); exact HO_4.out) (RMk_base ho0) hb); replace HO_145001 := Aside0.mk (Kd.V_elder' (by (with_reducible repeat (first | apply Kd.V_alloc | apply Kd.V_drewN | apply Kd.V_drew)); exact HO_145001.out) (RMk_base ho0) hb); replace BK144 := Aside0.mk (blb BK144 hb); replace BK153 := Aside0.mk (blb BK153 hb); replace HB := bst hb; (try clear hb); (try clear hb2); (try clear hk); (try clear hi); (try clear ho0)))
    go_ret2
    exact ⟨_, rz_, by (with_reducible repeat (first | apply Kd.R_alloc | apply Kd.R_drewN | apply Kd.R_drew | apply RMk_alloc | apply RMk_drewN | apply RMk_drew)); exact RMk_mono HO157.out (fun _ hk => hk.1), bel⟩
 replace c3 := Bool.eq_false_iff.mpr c3
 subst c3
 have H1 : (some (([] : List Int), false)) = some (r1, r2) := by rw [if_neg (show ¬ (false = true) by decide)] at H; exact H
 clear H
 have H := H1
 clear H1
 simp only [Option.some.injEq, Prod.mk.injEq] at H
 obtain ⟨rfl, rfl⟩ := H
 go_enter Tryd.func8, Tryd.ntmps8
 go_wp2_with (first | ((with_reducible refine gate_dst (N := 1) rfl ?_); refine bx_ 1 #[.int .i64 a0_0, .slice A0_1 l0_1.length c0_1, .slice A0_2 l0_2.length c0_2, .int .i64 a0_3] 24 (h := ?_); intro gb144 hg w49 hbox hb; have BK144 := Aside0.mk (hbox); have GW144 := Aside0.mk ((by rw [hg]; exact (below_size bel) : w.heap.size ≤ gb144)); have GE144 := GW144; replace HO0_1 := Aside0.mk (Kd.V_below (Kd.V_elderB (by (with_reducible repeat (first | apply Kd.V_alloc | apply Kd.V_drewN | apply Kd.V_drew)); exact HO0_1.out) gb144 (Nat.le_of_eq hg.symm)) hb); replace HB := bst hb; clear hb hbox hg; obtain ⟨C50_0, C50_1, C50_2, C50_3, -⟩ := cells_4 BK144.out trivial; obtain ⟨F50_0, F50_1, F50_2, F50_3, -⟩ := frz_4 BK144.out) | ((with_reducible refine gate_callee (f := 10) rfl ?_); refine gl_ (some 8) Tryd.func10 #[.agg #[.int .i64 a0_0, .slice A0_1 l0_1.length c0_1, .slice A0_2 l0_2.length c0_2, .int .i64 a0_3]] (h := ?_); (with_reducible refine (impl_OpOk.calls k a0_0 _ _ l0_1 _ _ l0_2 a0_3 false _ ?side1 ?side2 ?side3 ?side4 A2.out).mono ?_); (case side1 => repeat (first | exact (Kd.V_reads' HO0_1.out).2.2 | (with_reducible refine Kd.C_alloc ?_ _) | (with_reducible refine Kd.C_drewN ?_ _) | (with_reducible refine Kd.C_drew ?_))); (case side2 => exact (Kd.V_reads' HO0_1.out).2.1); (case side3 => exact kcb); (case side4 => exact HC0_2.out); rintro e w51 ⟨rfl, hb⟩; refine ⟨_, rfl, ?_⟩; replace HO0_1 := Aside0.mk (Kd.V_below (by (with_reducible repeat (first | apply Kd.V_alloc | apply Kd.V_drewN | apply Kd.V_drew)); exact HO0_1.out) hb); replace BK144 := Aside0.mk (blb BK144 hb); replace HB := bst hb; (try clear hb); (try clear hb2); (try clear hk); (try clear hi)))
 go_ret2
 exact ⟨_, rz_, by first | exact RMk_nil _ _ _ | exact Kd.N_nil _ _ _ _ _ | exact Kd.V_nil _ _ _ _ _ | exact Kd.Q_nil _ _ _ _ _ | exact Kd.S_nil _ _ _ _ _, bel⟩

/-! ### laws_eqByteS: function 17 -/
def laws_eqByteS.l0 : Nat → List Int → List Int → Int → Option (Bool)
 | 0, _, _, _ => none
 | k + 1, x0, x1, x5 => if x5 < (x0.length : Int) then (if 0 ≤ x5 then (if x5 < (x1.length : Int) then (if (rd x0 x5) = (rd x1 x5) then (laws_eqByteS.l0 k x0 x1 (wrap64 (x5 + 1))) else (some false)) else (none)) else (none)) else (some true)
def laws_eqByteS.f (k : Nat) (l0 : List Int) (l1 : List Int) : Option (Bool) := if (l0.length : Int) = (l1.length : Int) then (laws_eqByteS.l0 k l0 l1 0) else (some false)
set_option maxHeartbeats 8000000 in
set_option maxRecDepth 100000 in
theorem laws_eqByteS.calls (k : Nat) (A0 : Option Addr) (c0 : Nat) (l0 : List Int) (A1 : Option Addr) (c1 : Nat) (l1 : List Int) (r : Bool) (w : World) (hr0 : Kd.C (Kd.int .u8) w A0 l0.length l0) (hc0 : l0.length ≤ c0) (hr1 : Kd.C (Kd.int .u8) w A1 l1.length l1) (hc1 : l1.length ≤ c1) (h : laws_eqByteS.f k l0 l1 = some r) :
  Calls Tryd.prog 17 #[.slice A0 l0.length c0, .slice A1 l1.length c1] w fun e w' => e = .returned (.bool r) ∧ Drawn0 w w' := by
 have HR0 := Aside0.mk hr0
 have HC0 := Aside0.mk hc0
 clear hr0 hc0
 have HR1 := Aside0.mk hr1
 have HC1 := Aside0.mk hc1
 clear hr1 hc1
 have H : (if (l0.length : Int) = (l1.length : Int) then (laws_eqByteS.l0 k l0 l1 0) else (some false)) = some r := h
 clear h
 by_cases c3 : (l0.length : Int) = (l1.length : Int)
 ·rw [if_pos c3] at H
  have c3b0 : ((l0.length : Int) == (l1.length : Int)) = true := beq_iff_eq.mpr c3
  have c3b1 : ((l0.length : Int) != (l1.length : Int)) = false := bne_eq_false_iff_eq.mpr c3
  have c3b2 : (l0.length == l1.length) = true := by first | simpa using c3 | (simp at c3 ⊢; omega)
  clear c3
  have H' := Aside0.mk H
  clear H
  go_enter Tryd.func17, Tryd.ntmps17
  go_wp2
  repeat (go_quiet (fail); try go_wp2)
  go_loopg [5] k (fun kq v5 w' => ∃ (x5_1 : Int), v5 = .int .i64 x5_1 ∧ Aside0 (laws_eqByteS.l0 kq l0 l1 x5_1 = some r) ∧ Aside0 (kq ≤ k) ∧ Drawn0 w w')
  case atStart => exact ⟨(0), rs_, H', ⟨Nat.le_refl _⟩, by repeat (first | exact Drawn0.refl _ | apply Drawn0.step)⟩
  case round =>
   clear H'
   try clear c1; try clear p2; try clear c3; try clear c3b0; try clear c3b1; try clear c3b2
   obtain ⟨x5_1, rfl, HA, HK1, ⟨m1, rfl⟩⟩ := hrel
   cases gk with
   | zero => exact absurd HA.out (by simp [laws_eqByteS.l0])
   | succ k1 =>
    have H := HA.out
    clear HA
    simp only [laws_eqByteS.l0] at H
    by_cases c4 : x5_1 < (l0.length : Int)
    ·rw [if_pos c4] at H
     have c4b0 : decide (x5_1 < (l0.length : Int)) = true := decide_eq_true c4
     clear c4
     by_cases c5 : 0 ≤ x5_1
     ·rw [if_pos c5] at H
      have c5b0 : decide (0 ≤ x5_1) = true := decide_eq_true c5
      clear c5
      by_cases c6 : x5_1 < (l1.length : Int)
      ·rw [if_pos c6] at H
       have c6b0 : decide (x5_1 < (l1.length : Int)) = true := decide_eq_true c6
       clear c6
       by_cases c7 : (rd l0 x5_1) = (rd l1 x5_1)
       ·rw [if_pos c7] at H
        have c7b0 : ((rd l0 x5_1) == (rd l1 x5_1)) = true := beq_iff_eq.mpr c7
        have c7b1 : ((rd l0 x5_1) != (rd l1 x5_1)) = false := bne_eq_false_iff_eq.mpr c7
        clear c7
        have H' := Aside0.mk H
        clear H
        have p174 : 0 ≤ (x5_1 : Int) := od
        have q174 : x5_1 < (l0.length : Int) := od
        obtain ⟨ad174, e174, hx174_0⟩ := Kd.at_int HR0.out x5_1 p174 q174
        cases e174
        replace p174 := eq_true p174
        replace q174 := eq_true q174
        have p175 : 0 ≤ (x5_1 : Int) := od
        have q175 : x5_1 < (l1.length : Int) := od
        obtain ⟨ad175, e175, hx175_0⟩ := Kd.at_int HR1.out x5_1 p175 q175
        cases e175
        replace p175 := eq_true p175
        replace q175 := eq_true q175
        go_wp2
        repeat (go_quiet (fail); try go_wp2)
        go_roundg k1
        case measure => have := HK1.out; omega
        case rel => exact ⟨(wrap64 (x5_1 + 1)), rs_, H', ⟨by have := HK1.out; omega⟩, by repeat (first | exact Drawn0.refl _ | apply Drawn0.step)⟩
       rw [if_neg c7] at H
       have c7b0 : ((rd l0 x5_1) == (rd l1 x5_1)) = false := beq_eq_false_iff_ne.mpr c7
       have c7b1 : ((rd l0 x5_1) != (rd l1 x5_1)) = true := bne_iff_ne.mpr c7
       obtain rfl := Option.some.inj H
       have p174 : 0 ≤ (x5_1 : Int) := od
       have q174 : x5_1 < (l0.length : Int) := od
       obtain ⟨ad174, e174, hx174_0⟩ := Kd.at_int HR0.out x5_1 p174 q174
       cases e174
       replace p174 := eq_true p174
       replace q174 := eq_true q174
       have p175 : 0 ≤ (x5_1 : Int) := od
       have q175 : x5_1 < (l1.length : Int) := od
       obtain ⟨ad175, e175, hx175_0⟩ := Kd.at_int HR1.out x5_1 p175 q175
       cases e175
       replace p175 := eq_true p175
       replace q175 := eq_true q175
       go_wp2
       repeat (go_quiet (fail); try go_wp2)
       go_ret
       exact ⟨by first | rfl | (simp; done) | (simp [*]; done), by repeat (first | exact Drawn0.refl _ | apply Drawn0.step)⟩
      rw [if_neg c6] at H
      exact absurd H (by simp)
     rw [if_neg c5] at H
     exact absurd H (by simp)
    rw [if_neg c4] at H
    have c4b0 : decide (x5_1 < (l0.length : Int)) = false := decide_eq_false c4
    clear c4
    obtain rfl := Option.some.inj H
    go_wp2
    repeat (go_quiet (fail); try go_wp2)
    go_ret
    exact ⟨by first | rfl | (simp; done) | (simp [*]; done), by repeat (first | exact Drawn0.refl _ | apply Drawn0.step)⟩
 rw [if_neg c3] at H
 have c3b0 : ((l0.length : Int) == (l1.length : Int)) = false := beq_eq_false_iff_ne.mpr c3
 have c3b1 : ((l0.length : Int) != (l1.length : Int)) = true := bne_iff_ne.mpr c3
 have c3b2 : (l0.length == l1.length) = false := by first | simpa using c3 | (simp at c3 ⊢; omega)
 obtain rfl := Option.some.inj H
 go_enter Tryd.func17, Tryd.ntmps17
 go_wp2
 repeat (go_quiet (fail); try go_wp2)
 go_ret
 exact ⟨by first | rfl | (simp; done) | (simp [*]; done), by repeat (first | exact Drawn0.refl _ | apply Drawn0.step)⟩

end Go.Proofs.YtmnjdmmljkahgaaDoor.PE
