-- Written for this claim by the session's program pp.py, out of the kit's print and the seat's translation.
import Derived.Test.YtdgegnakiljfjaaPLx0
import Derived.Test.YtdgegnakiljfjaaPLx5
import Derived.Test.YtdgegnakiljfjaaPLx6
namespace Go.Proofs.Ytdgegnakiljfjaa.PL
open Go.RowKit Go.Proofs.YtdgegnakiljfjaaW.PrintWords Go.Proofs.YtdgegnakiljfjaaW.PrintLast Go.Proofs.YtdgegnakiljfjaaW.PrintMore
attribute [local go_sem] max2_int min2_int max_two min_two max_three min_three max_four min_four   -- for this text's walks alone
set_option linter.unusedVariables false
set_option linter.unusedSimpArgs false

/-! ### slices_Clone_byte_byte: function 128 -/
def slices_Clone_byte_byte.f (l0 : List Int) : Option (List Int) := if l0.length < 140737488355328 then some l0 else none
set_option maxHeartbeats 8000000 in
set_option maxRecDepth 100000 in
theorem slices_Clone_byte_byte.calls (A0 : Option Addr) (c0 : Nat) (l0 : List Int) (r : List Int) (w : World) (hr0 : Kd.C (Kd.int .u8) w A0 l0.length l0) (hc0 : l0.length ≤ c0) (h : slices_Clone_byte_byte.f l0 = some r) :
  Calls Try.prog 128 #[.slice A0 l0.length c0] w fun e w' => ∃ v0_ : Value, e = .returned (v0_) ∧ Kd.R (Kd.int .u8) 5 w' w.heap.size (fun _ => True) v0_ r ∧ Below w.heap.size w w' := by
 unfold slices_Clone_byte_byte.f at h
 by_cases hl : l0.length < 140737488355328
 ·rw [if_pos hl] at h
  obtain rfl := Option.some.inj h
  clear h
  have LM := Aside0.mk hl
  clear hl
  have HB := Aside0.mk (Below.refl w.heap.size w)
  cases A0 with
  | none =>
   have hz : l0.length = 0 := by
    rcases Nat.eq_zero_or_pos l0.length with h | h
    ·exact h
    ·obtain ⟨ad, e, _⟩ := hr0.2.2 h
     cases e
   obtain rfl := List.eq_nil_of_length_eq_zero hz
   clear hr0 hc0 hz LM
   have hq := Lib.run_eql_slice_nil (P := Try.prog) w 52 5 none 0 c0 0 0 Try.underlying52
   go_enter Try.func128, Try.ntmps128
   go_wp2
   go_ret
   exact ⟨_, rfl, Kd.R_nil _ _ _ _ _, Below.refl _ _⟩
  | some ad =>
   have HR0 := Aside0.mk hr0
   have HC0 := Aside0.mk hc0
   clear hr0 hc0
   obtain ⟨m, hm⟩ : ∃ m, m = l0.length := ⟨_, rfl⟩
   have HM := Aside0.mk hm
   have hq := Lib.run_eql_slice_nil (P := Try.prog) w 52 5 (some ad) l0.length c0 0 0 Try.underlying52
   go_enter Try.func128, Try.ntmps128
   go_wp2_with (first | ((with_reducible refine gate_dst (N := 5) rfl ?_); refine Kd.R_lit (Kd.int .u8) _ 5 ?hg (N := 5) ?hd (xs := ([] : List Int)) (inner := []) (ok := fun _ => True) (okp := fun _ => True) ?hr ?hp (fun _ hk => hk) trivial (Below.refl _ _) (Nat.le_refl _) (by simp) ?_; (case hd => rfl); (case hg => rfl); (case hr => first | (go_simp; done) | (go_simp; rfl)); (case hp => exact (Reps.none _ _)); intro v111 w5 ho6 hb hg_ hnew_; clear hg_ hnew_; have HO112 := Aside0.mk ho6; have n1_ := Aside0.mk (below_step (by repeat (first | (with_reducible first | exact HB.out | apply below_alloc | apply pw_below_drewN | apply below_drew1) | exact HB.out)) hb); clear HB; have HB := n1_; clear n1_; clear hb ho6) | ((with_reducible refine gate_builtin (b := .append) (xs := #[.tmp 5, .tmp 6]) rfl ?_); at_builtin; refine Kd.R_append_rows (Kd.int .u8) (w0 := w) w.heap.size rfl (.tmp 5) (.tmp 6) 52 5 (.int .u8 0) 1 rfl Try.underlying52 info5 rfl (by decide) (by omega) v111 [] l0 _ _ _ (fun _ => True) (fun _ => False) rfl rfl ?aO ?aR (fun _ _ h => h) (fun _ h => h.elim) ?aF ?aB ?aS ?aL ?_; (case aR => repeat (first | exact (Kd.C_below HR0.out HB.out) | (with_reducible refine Kd.C_alloc ?_ _) | (with_reducible refine Kd.C_drewN ?_ _) | (with_reducible refine Kd.C_drew ?_))); (case aB => exact (by repeat (first | (with_reducible first | exact HB.out | apply below_alloc | apply pw_below_drewN | apply below_drew1) | exact HB.out))); (case aF => exact (fun _ _ => trivial)); (case aO => exact (rkp HO112)); (case aS => exact (below_size (by repeat (first | (with_reducible first | exact HB.out | apply below_alloc | apply pw_below_drewN | apply below_drew1) | exact HB.out)))); (case aL => have := LM.out; simp; omega); intro v114 w7 ho hb hg hat; have n0_ := Aside0.mk (hb); have n1_ := Aside0.mk (ho); clear HB; clear HO112; have HB := n0_; have HO115 := n1_; clear n0_ n1_; clear ho hb hg hat))
   go_ret
   exact ⟨_, rfl, Kd.R_lower HO115.out (Nat.le_refl _), HB.out⟩
 rw [if_neg hl] at h
 exact absurd h (by simp)

/-! ### impl_State_look: function 130 -/
def impl_State_look.f (k : Nat) (a0_0 : Int) (l0_1 : List (S92)) (l0_2 : List (S94)) (a0_3 : Int) (l0_4 : List (S109)) (l0_5 : List (S75)) (l1 : List Int) : Option (Int × Bool × List Int) := (impl_State_row.f k a0_0 l0_1 l0_2 a0_3 l0_4 l0_5 l1).bind fun bt278 => (if bt278.2 = true then (if 0 ≤ bt278.1 then (if bt278.1 < (l0_1.length : Int) then ((slices_Clone_byte_byte.f ((rd_T92 l0_1 bt278.1).f1)).bind fun t282 => (some ((rd_T92 l0_1 bt278.1).f2, true, t282))) else (none)) else (none)) else ((impl_State_tomb.f a0_0 l0_1 l0_2 a0_3 l0_4 l0_5 l1).bind fun t285 => (if t285 ≥ 0 then (if 0 ≤ t285 then (if t285 < (l0_2.length : Int) then (some ((rd_T94 l0_2 t285).f1, false, ([] : List Int))) else (none)) else (none)) else (some (a0_3, false, ([] : List Int))))))
def impl_State_look.T3 : Bool × List (List Nat × List Nat) := (true, [([], []), ([0], [0]), ([], []), ([1, 2], [1, 2]), ([3], [3]), ([4], [4]), ([], []), ([6], [6]), ([], []), ([7, 8], [7, 8]), ([9], [9]), ([10], [10]), ([11], [11]), ([5, 12], [5, 12]), ([13, 12, 0, 1, 2, 3, 4, 5, 6, 7, 8, 9, 10, 11, 12, 13], [13])])
def impl_State_look.B3 : List Nat := [0, 1, 0, 7, 15, 31, 0, 64, 0, 448, 960, 1984, 4032, 8191, 16383]
theorem impl_State_look.tab3 : rtab .any (opsOf Try.f130 3) = impl_State_look.T3 := by kernel_rfl
theorem impl_State_look.bits3 : waitsOk impl_State_look.T3.2 impl_State_look.B3 = true := by kernel_rfl
set_option maxHeartbeats 8000000 in
set_option maxRecDepth 100000 in
theorem impl_State_look.calls (k : Nat) (a0_0 : Int) (A0_1 : Option Addr) (c0_1 : Nat) (l0_1 : List (S92)) (A0_2 : Option Addr) (c0_2 : Nat) (l0_2 : List (S94)) (a0_3 : Int) (A0_4 : Option Addr) (c0_4 : Nat) (l0_4 : List (S109)) (A0_5 : Option Addr) (c0_5 : Nat) (l0_5 : List (S75)) (A1 : Option Addr) (c1 : Nat) (l1 : List Int) (r1 : Int) (r2 : Bool) (r3 : List Int) (w : World) (hr0_1 : Kd.C k92 w A0_1 l0_1.length l0_1) (hc0_1 : l0_1.length ≤ c0_1) (hr0_2 : Kd.C k94 w A0_2 l0_2.length l0_2) (hc0_2 : l0_2.length ≤ c0_2) (hr0_4 : Kd.C k109 w A0_4 l0_4.length l0_4) (hc0_4 : l0_4.length ≤ c0_4) (hr0_5 : Kd.C k75 w A0_5 l0_5.length l0_5) (hc0_5 : l0_5.length ≤ c0_5) (hr1 : Kd.C (Kd.int .u8) w A1 l1.length l1) (hc1 : l1.length ≤ c1) (h : impl_State_look.f k a0_0 l0_1 l0_2 a0_3 l0_4 l0_5 l1 = some (r1, r2, r3)) :
  Calls Try.prog 130 #[.agg #[.int .i64 a0_0, .slice A0_1 l0_1.length c0_1, .slice A0_2 l0_2.length c0_2, .int .i64 a0_3, .slice A0_4 l0_4.length c0_4, .slice A0_5 l0_5.length c0_5], .slice A1 l1.length c1] w fun e w' => ∃ v2_ : Value, e = .returned (.agg #[.int .i64 r1, .bool r2, v2_]) ∧ Kd.R (Kd.int .u8) 5 w' w.heap.size (fun _ => True) v2_ r3 ∧ Below w.heap.size w w' := by
 have hu35 := Try.underlying35
 have hu89 := Try.underlying89
 have HR0_1 := Aside0.mk hr0_1
 have HC0_1 := Aside0.mk hc0_1
 clear hr0_1 hc0_1
 have HR0_2 := Aside0.mk hr0_2
 have HC0_2 := Aside0.mk hc0_2
 clear hr0_2 hc0_2
 have HR0_4 := Aside0.mk hr0_4
 have HC0_4 := Aside0.mk hc0_4
 clear hr0_4 hc0_4
 have HR0_5 := Aside0.mk hr0_5
 have HC0_5 := Aside0.mk hc0_5
 clear hr0_5 hc0_5
 have HR1 := Aside0.mk hr1
 have HC1 := Aside0.mk hc1
 clear hr1 hc1
 have HB := Aside0.mk (Below.refl w.heap.size w)
 have H : ((impl_State_row.f k a0_0 l0_1 l0_2 a0_3 l0_4 l0_5 l1).bind fun bt278 => (if bt278.2 = true then (if 0 ≤ bt278.1 then (if bt278.1 < (l0_1.length : Int) then ((slices_Clone_byte_byte.f ((rd_T92 l0_1 bt278.1).f1)).bind fun t282 => (some ((rd_T92 l0_1 bt278.1).f2, true, t282))) else (none)) else (none)) else ((impl_State_tomb.f a0_0 l0_1 l0_2 a0_3 l0_4 l0_5 l1).bind fun t285 => (if t285 ≥ 0 then (if 0 ≤ t285 then (if t285 < (l0_2.length : Int) then (some ((rd_T94 l0_2 t285).f1, false, ([] : List Int))) else (none)) else (none)) else (some (a0_3, false, ([] : List Int))))))) = some (r1, r2, r3) := h
 clear h
 replace H := Option.bind_eq_some_iff.mp H
 obtain ⟨⟨t278, t279⟩, A30, H⟩ := H
 replace H : (if t279 = true then (if 0 ≤ t278 then (if t278 < (l0_1.length : Int) then ((slices_Clone_byte_byte.f ((rd_T92 l0_1 t278).f1)).bind fun t282 => (some ((rd_T92 l0_1 t278).f2, true, t282))) else (none)) else (none)) else ((impl_State_tomb.f a0_0 l0_1 l0_2 a0_3 l0_4 l0_5 l1).bind fun t285 => (if t285 ≥ 0 then (if 0 ≤ t285 then (if t285 < (l0_2.length : Int) then (some ((rd_T94 l0_2 t285).f1, false, ([] : List Int))) else (none)) else (none)) else (some (a0_3, false, ([] : List Int)))))) = some (r1, r2, r3) := H
 have A3 := Aside0.mk A30
 clear A30
 by_cases c4 : t279 = true
 ·subst c4
  have H1 : (if 0 ≤ t278 then (if t278 < (l0_1.length : Int) then ((slices_Clone_byte_byte.f ((rd_T92 l0_1 t278).f1)).bind fun t282 => (some ((rd_T92 l0_1 t278).f2, true, t282))) else (none)) else (none)) = some (r1, r2, r3) := by rw [if_pos rfl] at H; exact H
  clear H
  have H := H1
  clear H1
  by_cases c5 : 0 ≤ t278
  ·rw [if_pos c5] at H
   have c5b0 : decide (0 ≤ t278) = true := decide_eq_true c5
   clear c5
   by_cases c6 : t278 < (l0_1.length : Int)
   ·rw [if_pos c6] at H
    have c6b0 : decide (t278 < (l0_1.length : Int)) = true := decide_eq_true c6
    clear c6
    replace H := Option.bind_eq_some_iff.mp H
    obtain ⟨t282, A70, H⟩ := H
    replace H : (some ((rd_T92 l0_1 t278).f2, true, t282)) = some (r1, r2, r3) := H
    have A7 := Aside0.mk A70
    clear A70
    simp only [Option.some.injEq, Prod.mk.injEq] at H
    obtain ⟨rfl, rfl, rfl⟩ := H
    go_enter Try.func130, Try.ntmps130
    try go_wp2_with (first | ((with_reducible refine gate_dst (N := 2) rfl ?_); refine bx_ 2 #[.int .i64 a0_0, .slice A0_1 l0_1.length c0_1, .slice A0_2 l0_2.length c0_2, .int .i64 a0_3, .slice A0_4 l0_4.length c0_4, .slice A0_5 l0_5.length c0_5] 35 (h := ?_); intro gb276 hg w8 hbox hb; have BK276 := Aside0.mk (hbox); have GW276 := Aside0.mk ((by rw [hg]; exact (below_size bel) : w.heap.size ≤ gb276)); have GE276 := GW276; replace HB := bst hb; clear hb hbox hg) | ((with_reducible refine gate_dst (N := 4) rfl ?_); refine bx_ 4 #[.int .i64 0, .bool false, .slice none 0 0] 89 (h := ?_); intro gb277 hg w9 hbox hb; have BK277 := Aside0.mk (hbox); have GW277 := Aside0.mk ((by rw [hg]; exact (below_size bel) : w.heap.size ≤ gb277)); have GE277 := GW277; have NB276_277 := Aside0.mk ((by rw [hg]; exact Nat.ne_of_lt (blt BK276) : gb276 ≠ gb277)); have NB277_276 := Aside0.mk NB276_277.out.symm; replace BK276 := Aside0.mk (blb BK276 hb); replace HB := bst hb; clear hb hbox hg; have hnb10 := NB276_277.out; have hnc10 := NB277_276.out; obtain ⟨C11_0, C11_1, C11_2, C11_3, C11_4, C11_5, -⟩ := cells_6 BK276.out trivial; obtain ⟨F11_0, F11_1, F11_2, F11_3, F11_4, F11_5, -⟩ := frz_6 BK276.out) | ((with_reducible refine gate_callee (f := 85) rfl ?_); refine gl_ (some 11) Try.func85 #[.agg #[.int .i64 a0_0, .slice A0_1 l0_1.length c0_1, .slice A0_2 l0_2.length c0_2, .int .i64 a0_3, .slice A0_4 l0_4.length c0_4, .slice A0_5 l0_5.length c0_5], .slice A1 l1.length c1] (h := ?_); (with_reducible refine (impl_State_row.calls k a0_0 _ _ l0_1 _ _ l0_2 a0_3 _ _ l0_4 _ _ l0_5 _ _ l1 t278 true _ ?side1 ?side2 ?side3 ?side4 ?side5 ?side6 ?side7 ?side8 ?side9 ?side10 A3.out).mono ?_); (case side1 => exact kcb); (case side2 => exact HC0_1.out); (case side3 => exact kcb); (case side4 => exact HC0_2.out); (case side5 => exact kcb); (case side6 => exact HC0_4.out); (case side7 => exact kcb); (case side8 => exact HC0_5.out); (case side9 => exact kcb); (case side10 => exact HC1.out); rintro e w12 ⟨rfl, hb⟩; refine ⟨_, rfl, ?_⟩; replace BK276 := Aside0.mk (blb BK276 hb); replace BK277 := Aside0.mk (blb BK277 hb); replace HB := bst hb; (try clear hb); (try clear hb2); (try clear hk); (try clear hi)))
    replace BK276 := Aside0.mk (blk_drew BK276.out)
    replace BK277 := Aside0.mk (blk_drew BK277.out)
    replace HB := Aside0.mk (below_drew1 HB.out)
    have p280 : 0 ≤ (t278 : Int) := od
    have q280 : t278 < (l0_1.length : Int) := od
    obtain ⟨ad280, A280_0, c280_0, A280_1, c280_1, e280, hx280_0, hx280_1, hx280_2, hx280_3, hl280_0, hi280_0, hl280_1, hi280_1⟩ := at_T92 HR0_1.out t278 p280 q280
    have hw280_3 := hx280_3
    have hw280_2 := hx280_2
    have hw280_1 := hx280_1
    have hw280_0 := hx280_0
    cases e280
    replace hx280_0 := hxb HB hx280_0
    replace hx280_1 := hxb HB hx280_1
    replace hx280_2 := hxb HB hx280_2
    replace hx280_3 := hxb HB hx280_3
    have HR280_0 := Aside0.mk hi280_0
    have HC280_0 := Aside0.mk hl280_0
    clear hi280_0 hl280_0
    have HR280_1 := Aside0.mk hi280_1
    have HC280_1 := Aside0.mk hl280_1
    clear hi280_1 hl280_1
    replace p280 := eq_true p280
    replace q280 := eq_true q280
    have p281 : 0 ≤ (t278 : Int) := od
    have q281 : t278 < (l0_1.length : Int) := od
    obtain ⟨ad281, A281_0, c281_0, A281_1, c281_1, e281, hx281_0, hx281_1, hx281_2, hx281_3, hl281_0, hi281_0, hl281_1, hi281_1⟩ := at_T92 HR0_1.out t278 p281 q281
    have hw281_3 := hx281_3
    have hw281_2 := hx281_2
    have hw281_1 := hx281_1
    have hw281_0 := hx281_0
    obtain rfl : ad280 = ad281 := (by injection e281)
    replace hx281_0 := hxb HB hx281_0
    replace hx281_1 := hxb HB hx281_1
    replace hx281_2 := hxb HB hx281_2
    replace hx281_3 := hxb HB hx281_3
    have HR281_0 := Aside0.mk hi281_0
    have HC281_0 := Aside0.mk hl281_0
    clear hi281_0 hl281_0
    have HR281_1 := Aside0.mk hi281_1
    have HC281_1 := Aside0.mk hl281_1
    clear hi281_1 hl281_1
    replace p281 := eq_true p281
    replace q281 := eq_true q281
    have ea_ := Option.some.inj (hx280_0.symm.trans hx281_0)
    injection ea_ with ea_ en_ ec_
    subst ea_
    subst ec_
    clear en_
    have ea_ := Option.some.inj (hx280_1.symm.trans hx281_1)
    injection ea_ with ea_ en_ ec_
    subst ea_
    subst ec_
    clear en_
    refine start_ (n := 15) (S := fun w' => w'.cell? ⟨gb276, 0, none⟩ = some (.int .i64 a0_0) ∧ w'.cell? ⟨gb276, 1, none⟩ = some (.slice (some ad280) l0_1.length c0_1) ∧ w'.cell? ⟨gb276, 2, none⟩ = some (.slice A0_2 l0_2.length c0_2) ∧ w'.cell? ⟨gb276, 3, none⟩ = some (.int .i64 a0_3) ∧ w'.cell? ⟨gb276, 4, none⟩ = some (.slice A0_4 l0_4.length c0_4) ∧ w'.cell? ⟨gb276, 5, none⟩ = some (.slice A0_5 l0_5.length c0_5) ∧ w'.cell? (ad280.add ((t278).toNat * 4)) = some (.slice A280_0 ((rd_T92 l0_1 t278).f0).length c280_0) ∧ w'.cell? ⟨(ad280.add ((t278).toNat * 4)).block, (ad280.add ((t278).toNat * 4)).off + 1, none⟩ = some (.slice A280_1 ((rd_T92 l0_1 t278).f1).length c280_1) ∧ w'.cell? ⟨(ad280.add ((t278).toNat * 4)).block, (ad280.add ((t278).toNat * 4)).off + 2, none⟩ = some (.int .i64 ((rd_T92 l0_1 t278).f2)) ∧ w'.cell? ⟨(ad280.add ((t278).toNat * 4)).block, (ad280.add ((t278).toNat * 4)).off + 3, none⟩ = some (.int .i64 ((rd_T92 l0_1 t278).f3)) ∧ w'.cell? (ad280.add ((t278).toNat * 4)) = some (.slice A280_0 ((rd_T92 l0_1 t278).f0).length c280_0) ∧ w'.cell? ⟨(ad280.add ((t278).toNat * 4)).block, (ad280.add ((t278).toNat * 4)).off + 1, none⟩ = some (.slice A280_1 ((rd_T92 l0_1 t278).f1).length c280_1) ∧ w'.cell? ⟨(ad280.add ((t278).toNat * 4)).block, (ad280.add ((t278).toNat * 4)).off + 2, none⟩ = some (.int .i64 ((rd_T92 l0_1 t278).f2)) ∧ w'.cell? ⟨(ad280.add ((t278).toNat * 4)).block, (ad280.add ((t278).toNat * 4)).off + 3, none⟩ = some (.int .i64 ((rd_T92 l0_1 t278).f3))) (ds := []) (tf 0 15) (by kernel_rfl) rfl rfl (cells_6 BK276.out ⟨(hxb HB hw280_0 :), (hxb HB hw280_1 :), (hxb HB hw280_2 :), (hxb HB hw280_3 :), (hxb HB hw281_0 :), (hxb HB hw281_1 :), (hxb HB hw281_2 :), (hxb HB hw281_3 :)⟩) (fun hHeld => ?_); refine with_tabW impl_State_look.tab3 impl_State_look.bits3 (fun HT_ HW_ => ?_)
    generalize w12.drew = w13 at BK276 BK277 HB HR280_0 HR280_1 HR281_0 HR281_1 hx280_0 hx280_1 hx280_2 hx280_3 hx281_0 hx281_1 hx281_2 hx281_3 hHeld ⊢
    refine pvn_ HT_ (h := ?_)
    refine pv_ HT_ 2 (some 17) (tb 15 5) (h := ?_)
    refine pv_ HT_ 6 (some 21) (tb 15 69) (h := ?_)
    refine pv_ HT_ 8 (some 23) (tb 15 325) (h := ?_)
    refine tv_ HT_ HW_ hHeld 1 (some 16) (tb 15 327) (h := ?_)
    refine pv_ HT_ 3 (some 18) (tb 15 335) (h := ?_)
    refine pv_ HT_ 4 (some 19) (tb 15 351) (h := ?_)
    refine tv_ HT_ HW_ hHeld 5 (some 20) (tb 15 383) (h := ?_)
    refine tv_ HT_ HW_ hHeld 7 (some 22) (tf 9 6) (h := ?_)
    iterate 2 (refine pvn_ HT_ (h := ?_))
    refine tvn_ HT_ HW_ hHeld (h := ?_)
    refine one_ (i := 12) (N := some 27) (tf 13 2) rfl rfl (one_of HT_.out (by kernel_rfl)) (by decide) (fun K hK => ?_)
    refine gs_ Try.func128 #[.slice A280_1 ((rd_T92 l0_1 t278).f1).length c280_1] (h := ?_)
    with_reducible refine (slices_Clone_byte_byte.calls _ _ ((rd_T92 l0_1 t278).f1) t282 _ ?side1 ?side2 A7.out).mono ?_
    (case side1 => exact kcb)
    (case side2 => exact HC281_1.out)
    rintro e w14 ⟨v283, rfl, ho0, hb⟩
    refine ⟨_, rfl, ?_⟩
    have HO284 := Aside0.mk (Kd.R_lower ho0 (below_size bel))
    replace BK276 := Aside0.mk (blb BK276 hb)
    replace BK277 := Aside0.mk (blb BK277 hb)
    replace HB := bst hb
    (try clear hb)
    (try clear hb2)
    (try clear hk)
    (try clear hi)
    (try clear ho0)
    obtain ⟨Ao15, co15, eo15⟩ := Kd.R_slice HO284.out
    (first | subst eo15 | (injection eo15 with f1_ f2_ f3_; have f4_ := f1_.symm; have f5_ := f3_.symm; clear f1_ f2_ f3_; subst f4_; subst f5_))
    refine hK.out _ _ (cells_6 BK276.out ⟨(hxb HB hw280_0 :), (hxb HB hw280_1 :), (hxb HB hw280_2 :), (hxb HB hw280_3 :), (hxb HB hw281_0 :), (hxb HB hw281_1 :), (hxb HB hw281_2 :), (hxb HB hw281_3 :)⟩) (fun hHeld => ?_)
    clear hK K
    refine nrm_ (some 27) (h := ?_)
    refine pvn_ HT_ (h := ?_)
    refine one_ (i := 14) (N := none) (tf 15 0) rfl rfl (one_of HT_.out (by kernel_rfl)) (by decide) (fun K hK => ?_)
    have hs16 : w14.cell? ⟨gb277, 0, none⟩ = some (.int .i64 0) := (blk_cell BK277.out 0).trans rfl
    have hfs16 := blk_frozen BK277.out 0
    have hns16_0 := NB276_277.out
    have hms16_0 := NB277_276.out
    have hs17 : w14.cell? ⟨gb277, 1, none⟩ = some (.bool false) := (blk_cell BK277.out 1).trans rfl
    have hfs17 := blk_frozen BK277.out 1
    have hns17_0 := NB276_277.out
    have hms17_0 := NB277_276.out
    have hs18 : w14.cell? ⟨gb277, 2, none⟩ = some (.slice none 0 0) := (blk_cell BK277.out 2).trans rfl
    have hfs18 := blk_frozen BK277.out 2
    have hns18_0 := NB276_277.out
    have hms18_0 := NB277_276.out
    refine skip_ (w1 := ?_) (by rfl) rfl ?_ ?_
    rotate_left
    ·go_simp
     rfl
    refine hK.out _ _ ⟨((cell_far (p := ⟨gb277, _, none⟩) NB276_277.out _).trans (((cell_far (p := ⟨gb277, _, none⟩) NB276_277.out _).trans (((cell_far (p := ⟨gb277, _, none⟩) NB276_277.out _).trans (hHeld.1)))))), ((cell_far (p := ⟨gb277, _, none⟩) NB276_277.out _).trans (((cell_far (p := ⟨gb277, _, none⟩) NB276_277.out _).trans (((cell_far (p := ⟨gb277, _, none⟩) NB276_277.out _).trans (hHeld.2.1)))))), ((cell_far (p := ⟨gb277, _, none⟩) NB276_277.out _).trans (((cell_far (p := ⟨gb277, _, none⟩) NB276_277.out _).trans (((cell_far (p := ⟨gb277, _, none⟩) NB276_277.out _).trans (hHeld.2.2.1)))))), ((cell_far (p := ⟨gb277, _, none⟩) NB276_277.out _).trans (((cell_far (p := ⟨gb277, _, none⟩) NB276_277.out _).trans (((cell_far (p := ⟨gb277, _, none⟩) NB276_277.out _).trans (hHeld.2.2.2.1)))))), ((cell_far (p := ⟨gb277, _, none⟩) NB276_277.out _).trans (((cell_far (p := ⟨gb277, _, none⟩) NB276_277.out _).trans (((cell_far (p := ⟨gb277, _, none⟩) NB276_277.out _).trans (hHeld.2.2.2.2.1)))))), ((cell_far (p := ⟨gb277, _, none⟩) NB276_277.out _).trans (((cell_far (p := ⟨gb277, _, none⟩) NB276_277.out _).trans (((cell_far (p := ⟨gb277, _, none⟩) NB276_277.out _).trans (hHeld.2.2.2.2.2.1)))))), ((cell_far (p := ⟨gb277, _, none⟩) (by first | exact Nat.ne_of_lt (Nat.lt_of_lt_of_le (by have := World.block_lt_of_cell? _ _ hw280_0; first | rwa [add_block] at this | exact this) GW277.out) | (rw [add_block]; exact Nat.ne_of_lt (Nat.lt_of_lt_of_le (by have := World.block_lt_of_cell? _ _ hw280_0; first | rwa [add_block] at this | exact this) GW277.out)) | (show (Addr.add _ _).block ≠ _; rw [add_block]; exact Nat.ne_of_lt (Nat.lt_of_lt_of_le (by have := World.block_lt_of_cell? _ _ hw280_0; first | rwa [add_block] at this | exact this) GW277.out)) | (dsimp only; exact Nat.ne_of_lt (Nat.lt_of_lt_of_le (by have := World.block_lt_of_cell? _ _ hw280_0; first | rwa [add_block] at this | exact this) GW277.out))) _).trans (((cell_far (p := ⟨gb277, _, none⟩) (by first | exact Nat.ne_of_lt (Nat.lt_of_lt_of_le (by have := World.block_lt_of_cell? _ _ hw280_0; first | rwa [add_block] at this | exact this) GW277.out) | (rw [add_block]; exact Nat.ne_of_lt (Nat.lt_of_lt_of_le (by have := World.block_lt_of_cell? _ _ hw280_0; first | rwa [add_block] at this | exact this) GW277.out)) | (show (Addr.add _ _).block ≠ _; rw [add_block]; exact Nat.ne_of_lt (Nat.lt_of_lt_of_le (by have := World.block_lt_of_cell? _ _ hw280_0; first | rwa [add_block] at this | exact this) GW277.out)) | (dsimp only; exact Nat.ne_of_lt (Nat.lt_of_lt_of_le (by have := World.block_lt_of_cell? _ _ hw280_0; first | rwa [add_block] at this | exact this) GW277.out))) _).trans (((cell_far (p := ⟨gb277, _, none⟩) (by first | exact Nat.ne_of_lt (Nat.lt_of_lt_of_le (by have := World.block_lt_of_cell? _ _ hw280_0; first | rwa [add_block] at this | exact this) GW277.out) | (rw [add_block]; exact Nat.ne_of_lt (Nat.lt_of_lt_of_le (by have := World.block_lt_of_cell? _ _ hw280_0; first | rwa [add_block] at this | exact this) GW277.out)) | (show (Addr.add _ _).block ≠ _; rw [add_block]; exact Nat.ne_of_lt (Nat.lt_of_lt_of_le (by have := World.block_lt_of_cell? _ _ hw280_0; first | rwa [add_block] at this | exact this) GW277.out)) | (dsimp only; exact Nat.ne_of_lt (Nat.lt_of_lt_of_le (by have := World.block_lt_of_cell? _ _ hw280_0; first | rwa [add_block] at this | exact this) GW277.out))) _).trans (hHeld.2.2.2.2.2.2.1)))))), ((cell_far (p := ⟨gb277, _, none⟩) (by first | exact Nat.ne_of_lt (Nat.lt_of_lt_of_le (by have := World.block_lt_of_cell? _ _ hw280_1; first | rwa [add_block] at this | exact this) GW277.out) | (rw [add_block]; exact Nat.ne_of_lt (Nat.lt_of_lt_of_le (by have := World.block_lt_of_cell? _ _ hw280_1; first | rwa [add_block] at this | exact this) GW277.out)) | (show (Addr.add _ _).block ≠ _; rw [add_block]; exact Nat.ne_of_lt (Nat.lt_of_lt_of_le (by have := World.block_lt_of_cell? _ _ hw280_1; first | rwa [add_block] at this | exact this) GW277.out)) | (dsimp only; exact Nat.ne_of_lt (Nat.lt_of_lt_of_le (by have := World.block_lt_of_cell? _ _ hw280_1; first | rwa [add_block] at this | exact this) GW277.out))) _).trans (((cell_far (p := ⟨gb277, _, none⟩) (by first | exact Nat.ne_of_lt (Nat.lt_of_lt_of_le (by have := World.block_lt_of_cell? _ _ hw280_1; first | rwa [add_block] at this | exact this) GW277.out) | (rw [add_block]; exact Nat.ne_of_lt (Nat.lt_of_lt_of_le (by have := World.block_lt_of_cell? _ _ hw280_1; first | rwa [add_block] at this | exact this) GW277.out)) | (show (Addr.add _ _).block ≠ _; rw [add_block]; exact Nat.ne_of_lt (Nat.lt_of_lt_of_le (by have := World.block_lt_of_cell? _ _ hw280_1; first | rwa [add_block] at this | exact this) GW277.out)) | (dsimp only; exact Nat.ne_of_lt (Nat.lt_of_lt_of_le (by have := World.block_lt_of_cell? _ _ hw280_1; first | rwa [add_block] at this | exact this) GW277.out))) _).trans (((cell_far (p := ⟨gb277, _, none⟩) (by first | exact Nat.ne_of_lt (Nat.lt_of_lt_of_le (by have := World.block_lt_of_cell? _ _ hw280_1; first | rwa [add_block] at this | exact this) GW277.out) | (rw [add_block]; exact Nat.ne_of_lt (Nat.lt_of_lt_of_le (by have := World.block_lt_of_cell? _ _ hw280_1; first | rwa [add_block] at this | exact this) GW277.out)) | (show (Addr.add _ _).block ≠ _; rw [add_block]; exact Nat.ne_of_lt (Nat.lt_of_lt_of_le (by have := World.block_lt_of_cell? _ _ hw280_1; first | rwa [add_block] at this | exact this) GW277.out)) | (dsimp only; exact Nat.ne_of_lt (Nat.lt_of_lt_of_le (by have := World.block_lt_of_cell? _ _ hw280_1; first | rwa [add_block] at this | exact this) GW277.out))) _).trans (hHeld.2.2.2.2.2.2.2.1)))))), ((cell_far (p := ⟨gb277, _, none⟩) (by first | exact Nat.ne_of_lt (Nat.lt_of_lt_of_le (by have := World.block_lt_of_cell? _ _ hw280_2; first | rwa [add_block] at this | exact this) GW277.out) | (rw [add_block]; exact Nat.ne_of_lt (Nat.lt_of_lt_of_le (by have := World.block_lt_of_cell? _ _ hw280_2; first | rwa [add_block] at this | exact this) GW277.out)) | (show (Addr.add _ _).block ≠ _; rw [add_block]; exact Nat.ne_of_lt (Nat.lt_of_lt_of_le (by have := World.block_lt_of_cell? _ _ hw280_2; first | rwa [add_block] at this | exact this) GW277.out)) | (dsimp only; exact Nat.ne_of_lt (Nat.lt_of_lt_of_le (by have := World.block_lt_of_cell? _ _ hw280_2; first | rwa [add_block] at this | exact this) GW277.out))) _).trans (((cell_far (p := ⟨gb277, _, none⟩) (by first | exact Nat.ne_of_lt (Nat.lt_of_lt_of_le (by have := World.block_lt_of_cell? _ _ hw280_2; first | rwa [add_block] at this | exact this) GW277.out) | (rw [add_block]; exact Nat.ne_of_lt (Nat.lt_of_lt_of_le (by have := World.block_lt_of_cell? _ _ hw280_2; first | rwa [add_block] at this | exact this) GW277.out)) | (show (Addr.add _ _).block ≠ _; rw [add_block]; exact Nat.ne_of_lt (Nat.lt_of_lt_of_le (by have := World.block_lt_of_cell? _ _ hw280_2; first | rwa [add_block] at this | exact this) GW277.out)) | (dsimp only; exact Nat.ne_of_lt (Nat.lt_of_lt_of_le (by have := World.block_lt_of_cell? _ _ hw280_2; first | rwa [add_block] at this | exact this) GW277.out))) _).trans (((cell_far (p := ⟨gb277, _, none⟩) (by first | exact Nat.ne_of_lt (Nat.lt_of_lt_of_le (by have := World.block_lt_of_cell? _ _ hw280_2; first | rwa [add_block] at this | exact this) GW277.out) | (rw [add_block]; exact Nat.ne_of_lt (Nat.lt_of_lt_of_le (by have := World.block_lt_of_cell? _ _ hw280_2; first | rwa [add_block] at this | exact this) GW277.out)) | (show (Addr.add _ _).block ≠ _; rw [add_block]; exact Nat.ne_of_lt (Nat.lt_of_lt_of_le (by have := World.block_lt_of_cell? _ _ hw280_2; first | rwa [add_block] at this | exact this) GW277.out)) | (dsimp only; exact Nat.ne_of_lt (Nat.lt_of_lt_of_le (by have := World.block_lt_of_cell? _ _ hw280_2; first | rwa [add_block] at this | exact this) GW277.out))) _).trans (hHeld.2.2.2.2.2.2.2.2.1)))))), ((cell_far (p := ⟨gb277, _, none⟩) (by first | exact Nat.ne_of_lt (Nat.lt_of_lt_of_le (by have := World.block_lt_of_cell? _ _ hw280_3; first | rwa [add_block] at this | exact this) GW277.out) | (rw [add_block]; exact Nat.ne_of_lt (Nat.lt_of_lt_of_le (by have := World.block_lt_of_cell? _ _ hw280_3; first | rwa [add_block] at this | exact this) GW277.out)) | (show (Addr.add _ _).block ≠ _; rw [add_block]; exact Nat.ne_of_lt (Nat.lt_of_lt_of_le (by have := World.block_lt_of_cell? _ _ hw280_3; first | rwa [add_block] at this | exact this) GW277.out)) | (dsimp only; exact Nat.ne_of_lt (Nat.lt_of_lt_of_le (by have := World.block_lt_of_cell? _ _ hw280_3; first | rwa [add_block] at this | exact this) GW277.out))) _).trans (((cell_far (p := ⟨gb277, _, none⟩) (by first | exact Nat.ne_of_lt (Nat.lt_of_lt_of_le (by have := World.block_lt_of_cell? _ _ hw280_3; first | rwa [add_block] at this | exact this) GW277.out) | (rw [add_block]; exact Nat.ne_of_lt (Nat.lt_of_lt_of_le (by have := World.block_lt_of_cell? _ _ hw280_3; first | rwa [add_block] at this | exact this) GW277.out)) | (show (Addr.add _ _).block ≠ _; rw [add_block]; exact Nat.ne_of_lt (Nat.lt_of_lt_of_le (by have := World.block_lt_of_cell? _ _ hw280_3; first | rwa [add_block] at this | exact this) GW277.out)) | (dsimp only; exact Nat.ne_of_lt (Nat.lt_of_lt_of_le (by have := World.block_lt_of_cell? _ _ hw280_3; first | rwa [add_block] at this | exact this) GW277.out))) _).trans (((cell_far (p := ⟨gb277, _, none⟩) (by first | exact Nat.ne_of_lt (Nat.lt_of_lt_of_le (by have := World.block_lt_of_cell? _ _ hw280_3; first | rwa [add_block] at this | exact this) GW277.out) | (rw [add_block]; exact Nat.ne_of_lt (Nat.lt_of_lt_of_le (by have := World.block_lt_of_cell? _ _ hw280_3; first | rwa [add_block] at this | exact this) GW277.out)) | (show (Addr.add _ _).block ≠ _; rw [add_block]; exact Nat.ne_of_lt (Nat.lt_of_lt_of_le (by have := World.block_lt_of_cell? _ _ hw280_3; first | rwa [add_block] at this | exact this) GW277.out)) | (dsimp only; exact Nat.ne_of_lt (Nat.lt_of_lt_of_le (by have := World.block_lt_of_cell? _ _ hw280_3; first | rwa [add_block] at this | exact this) GW277.out))) _).trans (hHeld.2.2.2.2.2.2.2.2.2.1)))))), ((cell_far (p := ⟨gb277, _, none⟩) (by first | exact Nat.ne_of_lt (Nat.lt_of_lt_of_le (by have := World.block_lt_of_cell? _ _ hw281_0; first | rwa [add_block] at this | exact this) GW277.out) | (rw [add_block]; exact Nat.ne_of_lt (Nat.lt_of_lt_of_le (by have := World.block_lt_of_cell? _ _ hw281_0; first | rwa [add_block] at this | exact this) GW277.out)) | (show (Addr.add _ _).block ≠ _; rw [add_block]; exact Nat.ne_of_lt (Nat.lt_of_lt_of_le (by have := World.block_lt_of_cell? _ _ hw281_0; first | rwa [add_block] at this | exact this) GW277.out)) | (dsimp only; exact Nat.ne_of_lt (Nat.lt_of_lt_of_le (by have := World.block_lt_of_cell? _ _ hw281_0; first | rwa [add_block] at this | exact this) GW277.out))) _).trans (((cell_far (p := ⟨gb277, _, none⟩) (by first | exact Nat.ne_of_lt (Nat.lt_of_lt_of_le (by have := World.block_lt_of_cell? _ _ hw281_0; first | rwa [add_block] at this | exact this) GW277.out) | (rw [add_block]; exact Nat.ne_of_lt (Nat.lt_of_lt_of_le (by have := World.block_lt_of_cell? _ _ hw281_0; first | rwa [add_block] at this | exact this) GW277.out)) | (show (Addr.add _ _).block ≠ _; rw [add_block]; exact Nat.ne_of_lt (Nat.lt_of_lt_of_le (by have := World.block_lt_of_cell? _ _ hw281_0; first | rwa [add_block] at this | exact this) GW277.out)) | (dsimp only; exact Nat.ne_of_lt (Nat.lt_of_lt_of_le (by have := World.block_lt_of_cell? _ _ hw281_0; first | rwa [add_block] at this | exact this) GW277.out))) _).trans (((cell_far (p := ⟨gb277, _, none⟩) (by first | exact Nat.ne_of_lt (Nat.lt_of_lt_of_le (by have := World.block_lt_of_cell? _ _ hw281_0; first | rwa [add_block] at this | exact this) GW277.out) | (rw [add_block]; exact Nat.ne_of_lt (Nat.lt_of_lt_of_le (by have := World.block_lt_of_cell? _ _ hw281_0; first | rwa [add_block] at this | exact this) GW277.out)) | (show (Addr.add _ _).block ≠ _; rw [add_block]; exact Nat.ne_of_lt (Nat.lt_of_lt_of_le (by have := World.block_lt_of_cell? _ _ hw281_0; first | rwa [add_block] at this | exact this) GW277.out)) | (dsimp only; exact Nat.ne_of_lt (Nat.lt_of_lt_of_le (by have := World.block_lt_of_cell? _ _ hw281_0; first | rwa [add_block] at this | exact this) GW277.out))) _).trans (hHeld.2.2.2.2.2.2.2.2.2.2.1)))))), ((cell_far (p := ⟨gb277, _, none⟩) (by first | exact Nat.ne_of_lt (Nat.lt_of_lt_of_le (by have := World.block_lt_of_cell? _ _ hw281_1; first | rwa [add_block] at this | exact this) GW277.out) | (rw [add_block]; exact Nat.ne_of_lt (Nat.lt_of_lt_of_le (by have := World.block_lt_of_cell? _ _ hw281_1; first | rwa [add_block] at this | exact this) GW277.out)) | (show (Addr.add _ _).block ≠ _; rw [add_block]; exact Nat.ne_of_lt (Nat.lt_of_lt_of_le (by have := World.block_lt_of_cell? _ _ hw281_1; first | rwa [add_block] at this | exact this) GW277.out)) | (dsimp only; exact Nat.ne_of_lt (Nat.lt_of_lt_of_le (by have := World.block_lt_of_cell? _ _ hw281_1; first | rwa [add_block] at this | exact this) GW277.out))) _).trans (((cell_far (p := ⟨gb277, _, none⟩) (by first | exact Nat.ne_of_lt (Nat.lt_of_lt_of_le (by have := World.block_lt_of_cell? _ _ hw281_1; first | rwa [add_block] at this | exact this) GW277.out) | (rw [add_block]; exact Nat.ne_of_lt (Nat.lt_of_lt_of_le (by have := World.block_lt_of_cell? _ _ hw281_1; first | rwa [add_block] at this | exact this) GW277.out)) | (show (Addr.add _ _).block ≠ _; rw [add_block]; exact Nat.ne_of_lt (Nat.lt_of_lt_of_le (by have := World.block_lt_of_cell? _ _ hw281_1; first | rwa [add_block] at this | exact this) GW277.out)) | (dsimp only; exact Nat.ne_of_lt (Nat.lt_of_lt_of_le (by have := World.block_lt_of_cell? _ _ hw281_1; first | rwa [add_block] at this | exact this) GW277.out))) _).trans (((cell_far (p := ⟨gb277, _, none⟩) (by first | exact Nat.ne_of_lt (Nat.lt_of_lt_of_le (by have := World.block_lt_of_cell? _ _ hw281_1; first | rwa [add_block] at this | exact this) GW277.out) | (rw [add_block]; exact Nat.ne_of_lt (Nat.lt_of_lt_of_le (by have := World.block_lt_of_cell? _ _ hw281_1; first | rwa [add_block] at this | exact this) GW277.out)) | (show (Addr.add _ _).block ≠ _; rw [add_block]; exact Nat.ne_of_lt (Nat.lt_of_lt_of_le (by have := World.block_lt_of_cell? _ _ hw281_1; first | rwa [add_block] at this | exact this) GW277.out)) | (dsimp only; exact Nat.ne_of_lt (Nat.lt_of_lt_of_le (by have := World.block_lt_of_cell? _ _ hw281_1; first | rwa [add_block] at this | exact this) GW277.out))) _).trans (hHeld.2.2.2.2.2.2.2.2.2.2.2.1)))))), ((cell_far (p := ⟨gb277, _, none⟩) (by first | exact Nat.ne_of_lt (Nat.lt_of_lt_of_le (by have := World.block_lt_of_cell? _ _ hw281_2; first | rwa [add_block] at this | exact this) GW277.out) | (rw [add_block]; exact Nat.ne_of_lt (Nat.lt_of_lt_of_le (by have := World.block_lt_of_cell? _ _ hw281_2; first | rwa [add_block] at this | exact this) GW277.out)) | (show (Addr.add _ _).block ≠ _; rw [add_block]; exact Nat.ne_of_lt (Nat.lt_of_lt_of_le (by have := World.block_lt_of_cell? _ _ hw281_2; first | rwa [add_block] at this | exact this) GW277.out)) | (dsimp only; exact Nat.ne_of_lt (Nat.lt_of_lt_of_le (by have := World.block_lt_of_cell? _ _ hw281_2; first | rwa [add_block] at this | exact this) GW277.out))) _).trans (((cell_far (p := ⟨gb277, _, none⟩) (by first | exact Nat.ne_of_lt (Nat.lt_of_lt_of_le (by have := World.block_lt_of_cell? _ _ hw281_2; first | rwa [add_block] at this | exact this) GW277.out) | (rw [add_block]; exact Nat.ne_of_lt (Nat.lt_of_lt_of_le (by have := World.block_lt_of_cell? _ _ hw281_2; first | rwa [add_block] at this | exact this) GW277.out)) | (show (Addr.add _ _).block ≠ _; rw [add_block]; exact Nat.ne_of_lt (Nat.lt_of_lt_of_le (by have := World.block_lt_of_cell? _ _ hw281_2; first | rwa [add_block] at this | exact this) GW277.out)) | (dsimp only; exact Nat.ne_of_lt (Nat.lt_of_lt_of_le (by have := World.block_lt_of_cell? _ _ hw281_2; first | rwa [add_block] at this | exact this) GW277.out))) _).trans (((cell_far (p := ⟨gb277, _, none⟩) (by first | exact Nat.ne_of_lt (Nat.lt_of_lt_of_le (by have := World.block_lt_of_cell? _ _ hw281_2; first | rwa [add_block] at this | exact this) GW277.out) | (rw [add_block]; exact Nat.ne_of_lt (Nat.lt_of_lt_of_le (by have := World.block_lt_of_cell? _ _ hw281_2; first | rwa [add_block] at this | exact this) GW277.out)) | (show (Addr.add _ _).block ≠ _; rw [add_block]; exact Nat.ne_of_lt (Nat.lt_of_lt_of_le (by have := World.block_lt_of_cell? _ _ hw281_2; first | rwa [add_block] at this | exact this) GW277.out)) | (dsimp only; exact Nat.ne_of_lt (Nat.lt_of_lt_of_le (by have := World.block_lt_of_cell? _ _ hw281_2; first | rwa [add_block] at this | exact this) GW277.out))) _).trans (hHeld.2.2.2.2.2.2.2.2.2.2.2.2.1)))))), ((cell_far (p := ⟨gb277, _, none⟩) (by first | exact Nat.ne_of_lt (Nat.lt_of_lt_of_le (by have := World.block_lt_of_cell? _ _ hw281_3; first | rwa [add_block] at this | exact this) GW277.out) | (rw [add_block]; exact Nat.ne_of_lt (Nat.lt_of_lt_of_le (by have := World.block_lt_of_cell? _ _ hw281_3; first | rwa [add_block] at this | exact this) GW277.out)) | (show (Addr.add _ _).block ≠ _; rw [add_block]; exact Nat.ne_of_lt (Nat.lt_of_lt_of_le (by have := World.block_lt_of_cell? _ _ hw281_3; first | rwa [add_block] at this | exact this) GW277.out)) | (dsimp only; exact Nat.ne_of_lt (Nat.lt_of_lt_of_le (by have := World.block_lt_of_cell? _ _ hw281_3; first | rwa [add_block] at this | exact this) GW277.out))) _).trans (((cell_far (p := ⟨gb277, _, none⟩) (by first | exact Nat.ne_of_lt (Nat.lt_of_lt_of_le (by have := World.block_lt_of_cell? _ _ hw281_3; first | rwa [add_block] at this | exact this) GW277.out) | (rw [add_block]; exact Nat.ne_of_lt (Nat.lt_of_lt_of_le (by have := World.block_lt_of_cell? _ _ hw281_3; first | rwa [add_block] at this | exact this) GW277.out)) | (show (Addr.add _ _).block ≠ _; rw [add_block]; exact Nat.ne_of_lt (Nat.lt_of_lt_of_le (by have := World.block_lt_of_cell? _ _ hw281_3; first | rwa [add_block] at this | exact this) GW277.out)) | (dsimp only; exact Nat.ne_of_lt (Nat.lt_of_lt_of_le (by have := World.block_lt_of_cell? _ _ hw281_3; first | rwa [add_block] at this | exact this) GW277.out))) _).trans (((cell_far (p := ⟨gb277, _, none⟩) (by first | exact Nat.ne_of_lt (Nat.lt_of_lt_of_le (by have := World.block_lt_of_cell? _ _ hw281_3; first | rwa [add_block] at this | exact this) GW277.out) | (rw [add_block]; exact Nat.ne_of_lt (Nat.lt_of_lt_of_le (by have := World.block_lt_of_cell? _ _ hw281_3; first | rwa [add_block] at this | exact this) GW277.out)) | (show (Addr.add _ _).block ≠ _; rw [add_block]; exact Nat.ne_of_lt (Nat.lt_of_lt_of_le (by have := World.block_lt_of_cell? _ _ hw281_3; first | rwa [add_block] at this | exact this) GW277.out)) | (dsimp only; exact Nat.ne_of_lt (Nat.lt_of_lt_of_le (by have := World.block_lt_of_cell? _ _ hw281_3; first | rwa [add_block] at this | exact this) GW277.out))) _).trans (hHeld.2.2.2.2.2.2.2.2.2.2.2.2.2))))))⟩ (fun hHeld => ?_)
    clear hK K
    refine done_ (done_of HT_.out (by kernel_rfl)) ?_
    try go_wp2
    refine bodyPost_ret (results_cell_row rfl _ _ gb277 89 #[.int .i64 ((rd_T92 l0_1 t278).f2), .bool true, .slice Ao15 t282.length co15] (0, 0) _ rfl (by (with_reducible repeat (first | refine blk_drewN ?_ _ | refine blk_drew ?_ | refine blk_alloc ?_ _)); refine blk_put (cs := #[.int .i64 ((rd_T92 l0_1 t278).f2), .bool true, .slice none 0 0]) ?_ 2 _ rfl; (with_reducible repeat (first | refine blk_drewN ?_ _ | refine blk_drew ?_ | refine blk_alloc ?_ _)); refine blk_put (cs := #[.int .i64 ((rd_T92 l0_1 t278).f2), .bool false, .slice none 0 0]) ?_ 1 _ rfl; (with_reducible repeat (first | refine blk_drewN ?_ _ | refine blk_drew ?_ | refine blk_alloc ?_ _)); refine blk_put (cs := #[.int .i64 0, .bool false, .slice none 0 0]) ?_ 0 _ rfl; (with_reducible repeat (first | refine blk_drewN ?_ _ | refine blk_drew ?_ | refine blk_alloc ?_ _)); exact BK277.out) Try.underlying89 rfl (by kernel_rfl)) rfl ?_
    exact ⟨_, rz_, by (with_reducible repeat (first | apply Kd.R_alloc | apply Kd.R_drewN | apply Kd.R_drew)); exact Kd.R_mono (Kd.R_far (p := ⟨gb277, 2, none⟩) (Kd.R_far (p := ⟨gb277, 1, none⟩) (Kd.R_far (p := ⟨gb277, 0, none⟩) (Kd.R_types HO284.out BK277.out (by decide)) (fun _ hk => hk.2) (.int .i64 ((rd_T92 l0_1 t278).f2))) (fun _ hk => hk.2) (.bool true)) (fun _ hk => hk.2) (.slice Ao15 t282.length co15)) (fun _ hk => trivial), bel⟩
   rw [if_neg c6] at H
   exact absurd H (by simp)
  rw [if_neg c5] at H
  exact absurd H (by simp)
 replace c4 := Bool.eq_false_iff.mpr c4
 subst c4
 have H1 : ((impl_State_tomb.f a0_0 l0_1 l0_2 a0_3 l0_4 l0_5 l1).bind fun t285 => (if t285 ≥ 0 then (if 0 ≤ t285 then (if t285 < (l0_2.length : Int) then (some ((rd_T94 l0_2 t285).f1, false, ([] : List Int))) else (none)) else (none)) else (some (a0_3, false, ([] : List Int))))) = some (r1, r2, r3) := by rw [if_neg (show ¬ (false = true) by decide)] at H; exact H
 clear H
 have H := H1
 clear H1
 replace H := Option.bind_eq_some_iff.mp H
 obtain ⟨t285, A190, H⟩ := H
 replace H : (if t285 ≥ 0 then (if 0 ≤ t285 then (if t285 < (l0_2.length : Int) then (some ((rd_T94 l0_2 t285).f1, false, ([] : List Int))) else (none)) else (none)) else (some (a0_3, false, ([] : List Int)))) = some (r1, r2, r3) := H
 have A19 := Aside0.mk A190
 clear A190
 by_cases c20 : t285 ≥ 0
 ·rw [if_pos c20] at H
  have c20b0 : decide (0 ≤ t285) = true := decide_eq_true c20
  clear c20
  by_cases c21 : 0 ≤ t285
  ·rw [if_pos c21] at H
   have c21b0 : decide (0 ≤ t285) = true := decide_eq_true c21
   clear c21
   by_cases c22 : t285 < (l0_2.length : Int)
   ·rw [if_pos c22] at H
    have c22b0 : decide (t285 < (l0_2.length : Int)) = true := decide_eq_true c22
    clear c22
    simp only [Option.some.injEq, Prod.mk.injEq] at H
    obtain ⟨rfl, rfl, rfl⟩ := H
    go_enter Try.func130, Try.ntmps130
    go_wp2_with (first | ((with_reducible refine gate_dst (N := 2) rfl ?_); refine bx_ 2 #[.int .i64 a0_0, .slice A0_1 l0_1.length c0_1, .slice A0_2 l0_2.length c0_2, .int .i64 a0_3, .slice A0_4 l0_4.length c0_4, .slice A0_5 l0_5.length c0_5] 35 (h := ?_); intro gb276 hg w23 hbox hb; have BK276 := Aside0.mk (hbox); have GW276 := Aside0.mk ((by rw [hg]; exact (below_size bel) : w.heap.size ≤ gb276)); have GE276 := GW276; replace HB := bst hb; clear hb hbox hg) | ((with_reducible refine gate_dst (N := 4) rfl ?_); refine bx_ 4 #[.int .i64 0, .bool false, .slice none 0 0] 89 (h := ?_); intro gb277 hg w24 hbox hb; have BK277 := Aside0.mk (hbox); have GW277 := Aside0.mk ((by rw [hg]; exact (below_size bel) : w.heap.size ≤ gb277)); have GE277 := GW277; have NB276_277 := Aside0.mk ((by rw [hg]; exact Nat.ne_of_lt (blt BK276) : gb276 ≠ gb277)); have NB277_276 := Aside0.mk NB276_277.out.symm; replace BK276 := Aside0.mk (blb BK276 hb); replace HB := bst hb; clear hb hbox hg; have hnb25 := NB276_277.out; have hnc25 := NB277_276.out; obtain ⟨C26_0, C26_1, C26_2, C26_3, C26_4, C26_5, -⟩ := cells_6 BK276.out trivial; obtain ⟨F26_0, F26_1, F26_2, F26_3, F26_4, F26_5, -⟩ := frz_6 BK276.out) | ((with_reducible refine gate_callee (f := 85) rfl ?_); refine gl_ (some 11) Try.func85 #[.agg #[.int .i64 a0_0, .slice A0_1 l0_1.length c0_1, .slice A0_2 l0_2.length c0_2, .int .i64 a0_3, .slice A0_4 l0_4.length c0_4, .slice A0_5 l0_5.length c0_5], .slice A1 l1.length c1] (h := ?_); (with_reducible refine (impl_State_row.calls k a0_0 _ _ l0_1 _ _ l0_2 a0_3 _ _ l0_4 _ _ l0_5 _ _ l1 t278 false _ ?side1 ?side2 ?side3 ?side4 ?side5 ?side6 ?side7 ?side8 ?side9 ?side10 A3.out).mono ?_); (case side1 => exact kcb); (case side2 => exact HC0_1.out); (case side3 => exact kcb); (case side4 => exact HC0_2.out); (case side5 => exact kcb); (case side6 => exact HC0_4.out); (case side7 => exact kcb); (case side8 => exact HC0_5.out); (case side9 => exact kcb); (case side10 => exact HC1.out); rintro e w27 ⟨rfl, hb⟩; refine ⟨_, rfl, ?_⟩; replace BK276 := Aside0.mk (blb BK276 hb); replace BK277 := Aside0.mk (blb BK277 hb); replace HB := bst hb; (try clear hb); (try clear hb2); (try clear hk); (try clear hi); obtain ⟨C28_0, C28_1, C28_2, C28_3, C28_4, C28_5, -⟩ := cells_6 BK276.out trivial; obtain ⟨F28_0, F28_1, F28_2, F28_3, F28_4, F28_5, -⟩ := frz_6 BK276.out) | ((with_reducible refine gate_callee (f := 86) rfl ?_); refine gl_ (some 31) Try.func86 #[.agg #[.int .i64 a0_0, .slice A0_1 l0_1.length c0_1, .slice A0_2 l0_2.length c0_2, .int .i64 a0_3, .slice A0_4 l0_4.length c0_4, .slice A0_5 l0_5.length c0_5], .slice A1 l1.length c1] (h := ?_); (with_reducible refine (impl_State_tomb.calls a0_0 _ _ l0_1 _ _ l0_2 a0_3 _ _ l0_4 _ _ l0_5 _ _ l1 t285 _ ?side1 ?side2 ?side3 ?side4 ?side5 ?side6 ?side7 ?side8 ?side9 ?side10 A19.out).mono ?_); (case side1 => exact kcb); (case side2 => exact HC0_1.out); (case side3 => exact kcb); (case side4 => exact HC0_2.out); (case side5 => exact kcb); (case side6 => exact HC0_4.out); (case side7 => exact kcb); (case side8 => exact HC0_5.out); (case side9 => exact kcb); (case side10 => exact HC1.out); rintro e w29 ⟨rfl, hb⟩; refine ⟨_, rfl, ?_⟩; replace BK276 := Aside0.mk (blb BK276 hb); replace BK277 := Aside0.mk (blb BK277 hb); replace HB := bst hb; (try clear hb); (try clear hb2); (try clear hk); (try clear hi); obtain ⟨C30_0, C30_1, C30_2, C30_3, C30_4, C30_5, -⟩ := cells_6 BK276.out trivial; obtain ⟨F30_0, F30_1, F30_2, F30_3, F30_4, F30_5, -⟩ := frz_6 BK276.out; have p286 : 0 ≤ (t285 : Int) := od; have q286 : t285 < (l0_2.length : Int) := od; obtain ⟨ad286, A286_0, c286_0, e286, hx286_0, hx286_1, hl286_0, hi286_0⟩ := at_T94 HR0_2.out t285 p286 q286; cases e286; replace hx286_0 := hxb HB hx286_0; replace hx286_1 := hxb HB hx286_1; have HR286_0 := Aside0.mk hi286_0; have HC286_0 := Aside0.mk hl286_0; clear hi286_0 hl286_0; replace p286 := eq_true p286; replace q286 := eq_true q286; obtain ⟨C31_0, C31_1, C31_2, -⟩ := cells_3 BK277.out trivial; obtain ⟨F31_0, F31_1, F31_2, -⟩ := frz_3 BK277.out))
    refine bodyPost_ret (results_cell_row rfl _ _ gb277 89 #[.int .i64 ((rd_T94 l0_2 t285).f1), .bool false, .slice none 0 0] (0, 0) _ rfl (by (with_reducible repeat (first | refine blk_drewN ?_ _ | refine blk_drew ?_ | refine blk_alloc ?_ _)); refine blk_put (cs := #[.int .i64 ((rd_T94 l0_2 t285).f1), .bool false, .slice none 0 0]) ?_ 2 _ rfl; (with_reducible repeat (first | refine blk_drewN ?_ _ | refine blk_drew ?_ | refine blk_alloc ?_ _)); refine blk_put (cs := #[.int .i64 ((rd_T94 l0_2 t285).f1), .bool false, .slice none 0 0]) ?_ 1 _ rfl; (with_reducible repeat (first | refine blk_drewN ?_ _ | refine blk_drew ?_ | refine blk_alloc ?_ _)); refine blk_put (cs := #[.int .i64 0, .bool false, .slice none 0 0]) ?_ 0 _ rfl; (with_reducible repeat (first | refine blk_drewN ?_ _ | refine blk_drew ?_ | refine blk_alloc ?_ _)); exact BK277.out) Try.underlying89 rfl (by kernel_rfl)) rfl ?_
    exact ⟨_, rz_, by first | exact Kd.R_nil _ _ _ _ _ | exact Kd.N_nil _ _ _ _ _ | exact Kd.V_nil _ _ _ _ _ | exact Kd.Q_nil _ _ _ _ _ | exact Kd.S_nil _ _ _ _ _, bel⟩
   rw [if_neg c22] at H
   exact absurd H (by simp)
  rw [if_neg c21] at H
  exact absurd H (by simp)
 rw [if_neg c20] at H
 have c20b0 : decide (0 ≤ t285) = false := decide_eq_false c20
 clear c20
 simp only [Option.some.injEq, Prod.mk.injEq] at H
 obtain ⟨rfl, rfl, rfl⟩ := H
 go_enter Try.func130, Try.ntmps130
 go_wp2_with (first | ((with_reducible refine gate_dst (N := 2) rfl ?_); refine bx_ 2 #[.int .i64 a0_0, .slice A0_1 l0_1.length c0_1, .slice A0_2 l0_2.length c0_2, .int .i64 a0_3, .slice A0_4 l0_4.length c0_4, .slice A0_5 l0_5.length c0_5] 35 (h := ?_); intro gb276 hg w32 hbox hb; have BK276 := Aside0.mk (hbox); have GW276 := Aside0.mk ((by rw [hg]; exact (below_size bel) : w.heap.size ≤ gb276)); have GE276 := GW276; replace HB := bst hb; clear hb hbox hg) | ((with_reducible refine gate_dst (N := 4) rfl ?_); refine bx_ 4 #[.int .i64 0, .bool false, .slice none 0 0] 89 (h := ?_); intro gb277 hg w33 hbox hb; have BK277 := Aside0.mk (hbox); have GW277 := Aside0.mk ((by rw [hg]; exact (below_size bel) : w.heap.size ≤ gb277)); have GE277 := GW277; have NB276_277 := Aside0.mk ((by rw [hg]; exact Nat.ne_of_lt (blt BK276) : gb276 ≠ gb277)); have NB277_276 := Aside0.mk NB276_277.out.symm; replace BK276 := Aside0.mk (blb BK276 hb); replace HB := bst hb; clear hb hbox hg; have hnb34 := NB276_277.out; have hnc34 := NB277_276.out; obtain ⟨C35_0, C35_1, C35_2, C35_3, C35_4, C35_5, -⟩ := cells_6 BK276.out trivial; obtain ⟨F35_0, F35_1, F35_2, F35_3, F35_4, F35_5, -⟩ := frz_6 BK276.out) | ((with_reducible refine gate_callee (f := 85) rfl ?_); refine gl_ (some 11) Try.func85 #[.agg #[.int .i64 a0_0, .slice A0_1 l0_1.length c0_1, .slice A0_2 l0_2.length c0_2, .int .i64 a0_3, .slice A0_4 l0_4.length c0_4, .slice A0_5 l0_5.length c0_5], .slice A1 l1.length c1] (h := ?_); (with_reducible refine (impl_State_row.calls k a0_0 _ _ l0_1 _ _ l0_2 a0_3 _ _ l0_4 _ _ l0_5 _ _ l1 t278 false _ ?side1 ?side2 ?side3 ?side4 ?side5 ?side6 ?side7 ?side8 ?side9 ?side10 A3.out).mono ?_); (case side1 => exact kcb); (case side2 => exact HC0_1.out); (case side3 => exact kcb); (case side4 => exact HC0_2.out); (case side5 => exact kcb); (case side6 => exact HC0_4.out); (case side7 => exact kcb); (case side8 => exact HC0_5.out); (case side9 => exact kcb); (case side10 => exact HC1.out); rintro e w36 ⟨rfl, hb⟩; refine ⟨_, rfl, ?_⟩; replace BK276 := Aside0.mk (blb BK276 hb); replace BK277 := Aside0.mk (blb BK277 hb); replace HB := bst hb; (try clear hb); (try clear hb2); (try clear hk); (try clear hi); obtain ⟨C37_0, C37_1, C37_2, C37_3, C37_4, C37_5, -⟩ := cells_6 BK276.out trivial; obtain ⟨F37_0, F37_1, F37_2, F37_3, F37_4, F37_5, -⟩ := frz_6 BK276.out) | ((with_reducible refine gate_callee (f := 86) rfl ?_); refine gl_ (some 31) Try.func86 #[.agg #[.int .i64 a0_0, .slice A0_1 l0_1.length c0_1, .slice A0_2 l0_2.length c0_2, .int .i64 a0_3, .slice A0_4 l0_4.length c0_4, .slice A0_5 l0_5.length c0_5], .slice A1 l1.length c1] (h := ?_); (with_reducible refine (impl_State_tomb.calls a0_0 _ _ l0_1 _ _ l0_2 a0_3 _ _ l0_4 _ _ l0_5 _ _ l1 t285 _ ?side1 ?side2 ?side3 ?side4 ?side5 ?side6 ?side7 ?side8 ?side9 ?side10 A19.out).mono ?_); (case side1 => exact kcb); (case side2 => exact HC0_1.out); (case side3 => exact kcb); (case side4 => exact HC0_2.out); (case side5 => exact kcb); (case side6 => exact HC0_4.out); (case side7 => exact kcb); (case side8 => exact HC0_5.out); (case side9 => exact kcb); (case side10 => exact HC1.out); rintro e w38 ⟨rfl, hb⟩; refine ⟨_, rfl, ?_⟩; replace BK276 := Aside0.mk (blb BK276 hb); replace BK277 := Aside0.mk (blb BK277 hb); replace HB := bst hb; (try clear hb); (try clear hb2); (try clear hk); (try clear hi); obtain ⟨C39_0, C39_1, C39_2, C39_3, C39_4, C39_5, -⟩ := cells_6 BK276.out trivial; obtain ⟨F39_0, F39_1, F39_2, F39_3, F39_4, F39_5, -⟩ := frz_6 BK276.out; obtain ⟨C40_0, C40_1, C40_2, -⟩ := cells_3 BK277.out trivial; obtain ⟨F40_0, F40_1, F40_2, -⟩ := frz_3 BK277.out))
 refine bodyPost_ret (results_cell_row rfl _ _ gb277 89 #[.int .i64 a0_3, .bool false, .slice none 0 0] (0, 0) _ rfl (by (with_reducible repeat (first | refine blk_drewN ?_ _ | refine blk_drew ?_ | refine blk_alloc ?_ _)); refine blk_put (cs := #[.int .i64 a0_3, .bool false, .slice none 0 0]) ?_ 2 _ rfl; (with_reducible repeat (first | refine blk_drewN ?_ _ | refine blk_drew ?_ | refine blk_alloc ?_ _)); refine blk_put (cs := #[.int .i64 a0_3, .bool false, .slice none 0 0]) ?_ 1 _ rfl; (with_reducible repeat (first | refine blk_drewN ?_ _ | refine blk_drew ?_ | refine blk_alloc ?_ _)); refine blk_put (cs := #[.int .i64 0, .bool false, .slice none 0 0]) ?_ 0 _ rfl; (with_reducible repeat (first | refine blk_drewN ?_ _ | refine blk_drew ?_ | refine blk_alloc ?_ _)); exact BK277.out) Try.underlying89 rfl (by kernel_rfl)) rfl ?_
 exact ⟨_, rz_, by first | exact Kd.R_nil _ _ _ _ _ | exact Kd.N_nil _ _ _ _ _ | exact Kd.V_nil _ _ _ _ _ | exact Kd.Q_nil _ _ _ _ _ | exact Kd.S_nil _ _ _ _ _, bel⟩

/-! ### impl_Look: function 48 -/
def impl_Look.f (k : Nat) (a0_0 : Int) (l0_1 : List (S92)) (l0_2 : List (S94)) (a0_3 : Int) (l0_4 : List (S109)) (l0_5 : List (S75)) (l1 : List Int) : Option (Int × Bool × List Int) := (impl_StateOk.f k a0_0 l0_1 l0_2 a0_3 l0_4 l0_5).bind fun t289 => (if t289 = true then ((impl_KeyOk.f k l1).bind fun t290 => (if t290 = true then ((impl_State_look.f k a0_0 l0_1 l0_2 a0_3 l0_4 l0_5 l1).bind fun bt291 => (some (bt291.1, bt291.2.1, bt291.2.2))) else (some (0, false, ([] : List Int))))) else (some (0, false, ([] : List Int))))
set_option maxHeartbeats 8000000 in
set_option maxRecDepth 100000 in
theorem impl_Look.calls (k : Nat) (a0_0 : Int) (A0_1 : Option Addr) (c0_1 : Nat) (l0_1 : List (S92)) (A0_2 : Option Addr) (c0_2 : Nat) (l0_2 : List (S94)) (a0_3 : Int) (A0_4 : Option Addr) (c0_4 : Nat) (l0_4 : List (S109)) (A0_5 : Option Addr) (c0_5 : Nat) (l0_5 : List (S75)) (A1 : Option Addr) (c1 : Nat) (l1 : List Int) (r1 : Int) (r2 : Bool) (r3 : List Int) (w : World) (hr0_1 : Kd.C k92 w A0_1 l0_1.length l0_1) (hc0_1 : l0_1.length ≤ c0_1) (hr0_2 : Kd.C k94 w A0_2 l0_2.length l0_2) (hc0_2 : l0_2.length ≤ c0_2) (hr0_4 : Kd.C k109 w A0_4 l0_4.length l0_4) (hc0_4 : l0_4.length ≤ c0_4) (hr0_5 : Kd.C k75 w A0_5 l0_5.length l0_5) (hc0_5 : l0_5.length ≤ c0_5) (hr1 : Kd.C (Kd.int .u8) w A1 l1.length l1) (hc1 : l1.length ≤ c1) (h : impl_Look.f k a0_0 l0_1 l0_2 a0_3 l0_4 l0_5 l1 = some (r1, r2, r3)) :
  Calls Try.prog 48 #[.agg #[.int .i64 a0_0, .slice A0_1 l0_1.length c0_1, .slice A0_2 l0_2.length c0_2, .int .i64 a0_3, .slice A0_4 l0_4.length c0_4, .slice A0_5 l0_5.length c0_5], .slice A1 l1.length c1] w fun e w' => ∃ v2_ : Value, e = .returned (.agg #[.int .i64 r1, .bool r2, v2_]) ∧ Kd.R (Kd.int .u8) 5 w' w.heap.size (fun _ => True) v2_ r3 ∧ Below w.heap.size w w' := by
 have hu35 := Try.underlying35
 have hu89 := Try.underlying89
 have HR0_1 := Aside0.mk hr0_1
 have HC0_1 := Aside0.mk hc0_1
 clear hr0_1 hc0_1
 have HR0_2 := Aside0.mk hr0_2
 have HC0_2 := Aside0.mk hc0_2
 clear hr0_2 hc0_2
 have HR0_4 := Aside0.mk hr0_4
 have HC0_4 := Aside0.mk hc0_4
 clear hr0_4 hc0_4
 have HR0_5 := Aside0.mk hr0_5
 have HC0_5 := Aside0.mk hc0_5
 clear hr0_5 hc0_5
 have HR1 := Aside0.mk hr1
 have HC1 := Aside0.mk hc1
 clear hr1 hc1
 have HB := Aside0.mk (Below.refl w.heap.size w)
 have H : ((impl_StateOk.f k a0_0 l0_1 l0_2 a0_3 l0_4 l0_5).bind fun t289 => (if t289 = true then ((impl_KeyOk.f k l1).bind fun t290 => (if t290 = true then ((impl_State_look.f k a0_0 l0_1 l0_2 a0_3 l0_4 l0_5 l1).bind fun bt291 => (some (bt291.1, bt291.2.1, bt291.2.2))) else (some (0, false, ([] : List Int))))) else (some (0, false, ([] : List Int))))) = some (r1, r2, r3) := h
 clear h
 replace H := Option.bind_eq_some_iff.mp H
 obtain ⟨t289, A30, H⟩ := H
 replace H : (if t289 = true then ((impl_KeyOk.f k l1).bind fun t290 => (if t290 = true then ((impl_State_look.f k a0_0 l0_1 l0_2 a0_3 l0_4 l0_5 l1).bind fun bt291 => (some (bt291.1, bt291.2.1, bt291.2.2))) else (some (0, false, ([] : List Int))))) else (some (0, false, ([] : List Int)))) = some (r1, r2, r3) := H
 have A3 := Aside0.mk A30
 clear A30
 by_cases c4 : t289 = true
 ·subst c4
  have H1 : ((impl_KeyOk.f k l1).bind fun t290 => (if t290 = true then ((impl_State_look.f k a0_0 l0_1 l0_2 a0_3 l0_4 l0_5 l1).bind fun bt291 => (some (bt291.1, bt291.2.1, bt291.2.2))) else (some (0, false, ([] : List Int))))) = some (r1, r2, r3) := by rw [if_pos rfl] at H; exact H
  clear H
  have H := H1
  clear H1
  replace H := Option.bind_eq_some_iff.mp H
  obtain ⟨t290, A50, H⟩ := H
  replace H : (if t290 = true then ((impl_State_look.f k a0_0 l0_1 l0_2 a0_3 l0_4 l0_5 l1).bind fun bt291 => (some (bt291.1, bt291.2.1, bt291.2.2))) else (some (0, false, ([] : List Int)))) = some (r1, r2, r3) := H
  have A5 := Aside0.mk A50
  clear A50
  by_cases c6 : t290 = true
  ·subst c6
   have H1 : ((impl_State_look.f k a0_0 l0_1 l0_2 a0_3 l0_4 l0_5 l1).bind fun bt291 => (some (bt291.1, bt291.2.1, bt291.2.2))) = some (r1, r2, r3) := by rw [if_pos rfl] at H; exact H
   clear H
   have H := H1
   clear H1
   replace H := Option.bind_eq_some_iff.mp H
   obtain ⟨⟨t291, t292, t293⟩, A70, H⟩ := H
   replace H : (some (t291, t292, t293)) = some (r1, r2, r3) := H
   have A7 := Aside0.mk A70
   clear A70
   simp only [Option.some.injEq, Prod.mk.injEq] at H
   obtain ⟨rfl, rfl, rfl⟩ := H
   go_enter Try.func48, Try.ntmps48
   go_wp2_with (first | ((with_reducible refine gate_dst (N := 2) rfl ?_); refine bx_ 2 #[.int .i64 a0_0, .slice A0_1 l0_1.length c0_1, .slice A0_2 l0_2.length c0_2, .int .i64 a0_3, .slice A0_4 l0_4.length c0_4, .slice A0_5 l0_5.length c0_5] 35 (h := ?_); intro gb287 hg w8 hbox hb; have BK287 := Aside0.mk (hbox); have GW287 := Aside0.mk ((by rw [hg]; exact (below_size bel) : w.heap.size ≤ gb287)); have GE287 := GW287; replace HB := bst hb; clear hb hbox hg) | ((with_reducible refine gate_dst (N := 4) rfl ?_); refine bx_ 4 #[.int .i64 0, .bool false, .slice none 0 0] 89 (h := ?_); intro gb288 hg w9 hbox hb; have BK288 := Aside0.mk (hbox); have GW288 := Aside0.mk ((by rw [hg]; exact (below_size bel) : w.heap.size ≤ gb288)); have GE288 := GW288; have NB287_288 := Aside0.mk ((by rw [hg]; exact Nat.ne_of_lt (blt BK287) : gb287 ≠ gb288)); have NB288_287 := Aside0.mk NB287_288.out.symm; replace BK287 := Aside0.mk (blb BK287 hb); replace HB := bst hb; clear hb hbox hg; have hnb10 := NB287_288.out; have hnc10 := NB288_287.out; obtain ⟨C11_0, C11_1, C11_2, C11_3, C11_4, C11_5, -⟩ := cells_6 BK287.out trivial; obtain ⟨F11_0, F11_1, F11_2, F11_3, F11_4, F11_5, -⟩ := frz_6 BK287.out) | ((with_reducible refine gate_callee (f := 18) rfl ?_); refine gl_ (some 6) Try.func18 #[.agg #[.int .i64 a0_0, .slice A0_1 l0_1.length c0_1, .slice A0_2 l0_2.length c0_2, .int .i64 a0_3, .slice A0_4 l0_4.length c0_4, .slice A0_5 l0_5.length c0_5]] (h := ?_); (with_reducible refine (impl_StateOk.calls k a0_0 _ _ l0_1 _ _ l0_2 a0_3 _ _ l0_4 _ _ l0_5 true _ ?side1 ?side2 ?side3 ?side4 ?side5 ?side6 ?side7 ?side8 A3.out).mono ?_); (case side1 => exact kcb); (case side2 => exact HC0_1.out); (case side3 => exact kcb); (case side4 => exact HC0_2.out); (case side5 => exact kcb); (case side6 => exact HC0_4.out); (case side7 => exact kcb); (case side8 => exact HC0_5.out); rintro e w12 ⟨rfl, hb⟩; refine ⟨_, rfl, ?_⟩; replace BK287 := Aside0.mk (blb BK287 hb); replace BK288 := Aside0.mk (blb BK288 hb); replace HB := bst hb; (try clear hb); (try clear hb2); (try clear hk); (try clear hi)) | (go_at_call 47; (with_reducible refine (impl_KeyOk.calls k _ _ l1 true _ ?side1 ?side2 A5.out).mono ?_); (case side1 => exact kcb); (case side2 => exact HC1.out); rintro e w' ⟨rfl, ⟨nd, rfl⟩⟩; (try (rw [drewN_self w12]; generalize hq_ : World.drewN w12 _ = w12; have n0_ : Aside0 (w12.heap[gb287]? = some (.cells #[.int .i64 a0_0, .slice A0_1 l0_1.length c0_1, .slice A0_2 l0_2.length c0_2, .int .i64 a0_3, .slice A0_4 l0_4.length c0_4, .slice A0_5 l0_5.length c0_5] 35 (0, 0))) := ⟨by rw [← hq_]; exact (bkp BK287)⟩; have n1_ : Aside0 (w12.heap[gb288]? = some (.cells #[.int .i64 0, .bool false, .slice none 0 0] 89 (0, 0))) := ⟨by rw [← hq_]; exact (bkp BK288)⟩; have n2_ : Aside0 (Below w.heap.size w w12) := ⟨by rw [← hq_]; exact bel⟩; clear BK287 BK288 HB hq_; have BK287 := n0_; have BK288 := n1_; have HB := n2_; clear n0_ n1_ n2_)); obtain ⟨C13_0, C13_1, C13_2, C13_3, C13_4, C13_5, -⟩ := cells_6 BK287.out trivial; obtain ⟨F13_0, F13_1, F13_2, F13_3, F13_4, F13_5, -⟩ := frz_6 BK287.out) | ((with_reducible refine gate_callee (f := 130) rfl ?_); refine gl_ (some 16) Try.func130 #[.agg #[.int .i64 a0_0, .slice A0_1 l0_1.length c0_1, .slice A0_2 l0_2.length c0_2, .int .i64 a0_3, .slice A0_4 l0_4.length c0_4, .slice A0_5 l0_5.length c0_5], .slice A1 l1.length c1] (h := ?_); (with_reducible refine (impl_State_look.calls k a0_0 _ _ l0_1 _ _ l0_2 a0_3 _ _ l0_4 _ _ l0_5 _ _ l1 t291 t292 t293 _ ?side1 ?side2 ?side3 ?side4 ?side5 ?side6 ?side7 ?side8 ?side9 ?side10 A7.out).mono ?_); (case side1 => exact kcb); (case side2 => exact HC0_1.out); (case side3 => exact kcb); (case side4 => exact HC0_2.out); (case side5 => exact kcb); (case side6 => exact HC0_4.out); (case side7 => exact kcb); (case side8 => exact HC0_5.out); (case side9 => exact kcb); (case side10 => exact HC1.out); rintro e w14 ⟨v294, rfl, ho0, hb⟩; refine ⟨_, rfl, ?_⟩; have HO295 := Aside0.mk (Kd.R_lower ho0 (below_size bel)); replace BK287 := Aside0.mk (blb BK287 hb); replace BK288 := Aside0.mk (blb BK288 hb); replace HB := bst hb; (try clear hb); (try clear hb2); (try clear hk); (try clear hi); (try clear ho0); obtain ⟨C15_0, C15_1, C15_2, -⟩ := cells_3 BK288.out trivial; obtain ⟨F15_0, F15_1, F15_2, -⟩ := frz_3 BK288.out; obtain ⟨Ao16, co16, eo16⟩ := Kd.R_slice HO295.out; subst eo16))
   refine bodyPost_ret (results_cell_row rfl _ _ gb288 89 #[.int .i64 t291, .bool t292, .slice Ao16 t293.length co16] (0, 0) _ rfl (by (with_reducible repeat (first | refine blk_drewN ?_ _ | refine blk_drew ?_ | refine blk_alloc ?_ _)); refine blk_put (cs := #[.int .i64 t291, .bool t292, .slice none 0 0]) ?_ 2 _ rfl; (with_reducible repeat (first | refine blk_drewN ?_ _ | refine blk_drew ?_ | refine blk_alloc ?_ _)); refine blk_put (cs := #[.int .i64 t291, .bool false, .slice none 0 0]) ?_ 1 _ rfl; (with_reducible repeat (first | refine blk_drewN ?_ _ | refine blk_drew ?_ | refine blk_alloc ?_ _)); refine blk_put (cs := #[.int .i64 0, .bool false, .slice none 0 0]) ?_ 0 _ rfl; (with_reducible repeat (first | refine blk_drewN ?_ _ | refine blk_drew ?_ | refine blk_alloc ?_ _)); exact BK288.out) Try.underlying89 rfl (by kernel_rfl)) rfl ?_
   exact ⟨_, rz_, by (with_reducible repeat (first | apply Kd.R_alloc | apply Kd.R_drewN | apply Kd.R_drew)); exact Kd.R_mono (Kd.R_far (p := ⟨gb288, 2, none⟩) (Kd.R_far (p := ⟨gb288, 1, none⟩) (Kd.R_far (p := ⟨gb288, 0, none⟩) (Kd.R_types HO295.out BK288.out (by decide)) (fun _ hk => hk.2) (.int .i64 t291)) (fun _ hk => hk.2) (.bool t292)) (fun _ hk => hk.2) (.slice Ao16 t293.length co16)) (fun _ hk => trivial), bel⟩
  replace c6 := Bool.eq_false_iff.mpr c6
  subst c6
  have H1 : (some (0, false, ([] : List Int))) = some (r1, r2, r3) := by rw [if_neg (show ¬ (false = true) by decide)] at H; exact H
  clear H
  have H := H1
  clear H1
  simp only [Option.some.injEq, Prod.mk.injEq] at H
  obtain ⟨rfl, rfl, rfl⟩ := H
  go_enter Try.func48, Try.ntmps48
  go_wp2_with (first | ((with_reducible refine gate_dst (N := 2) rfl ?_); refine bx_ 2 #[.int .i64 a0_0, .slice A0_1 l0_1.length c0_1, .slice A0_2 l0_2.length c0_2, .int .i64 a0_3, .slice A0_4 l0_4.length c0_4, .slice A0_5 l0_5.length c0_5] 35 (h := ?_); intro gb287 hg w17 hbox hb; have BK287 := Aside0.mk (hbox); have GW287 := Aside0.mk ((by rw [hg]; exact (below_size bel) : w.heap.size ≤ gb287)); have GE287 := GW287; replace HB := bst hb; clear hb hbox hg) | ((with_reducible refine gate_dst (N := 4) rfl ?_); refine bx_ 4 #[.int .i64 0, .bool false, .slice none 0 0] 89 (h := ?_); intro gb288 hg w18 hbox hb; have BK288 := Aside0.mk (hbox); have GW288 := Aside0.mk ((by rw [hg]; exact (below_size bel) : w.heap.size ≤ gb288)); have GE288 := GW288; have NB287_288 := Aside0.mk ((by rw [hg]; exact Nat.ne_of_lt (blt BK287) : gb287 ≠ gb288)); have NB288_287 := Aside0.mk NB287_288.out.symm; replace BK287 := Aside0.mk (blb BK287 hb); replace HB := bst hb; clear hb hbox hg; have hnb19 := NB287_288.out; have hnc19 := NB288_287.out; obtain ⟨C20_0, C20_1, C20_2, C20_3, C20_4, C20_5, -⟩ := cells_6 BK287.out trivial; obtain ⟨F20_0, F20_1, F20_2, F20_3, F20_4, F20_5, -⟩ := frz_6 BK287.out) | ((with_reducible refine gate_callee (f := 18) rfl ?_); refine gl_ (some 6) Try.func18 #[.agg #[.int .i64 a0_0, .slice A0_1 l0_1.length c0_1, .slice A0_2 l0_2.length c0_2, .int .i64 a0_3, .slice A0_4 l0_4.length c0_4, .slice A0_5 l0_5.length c0_5]] (h := ?_); (with_reducible refine (impl_StateOk.calls k a0_0 _ _ l0_1 _ _ l0_2 a0_3 _ _ l0_4 _ _ l0_5 true _ ?side1 ?side2 ?side3 ?side4 ?side5 ?side6 ?side7 ?side8 A3.out).mono ?_); (case side1 => exact kcb); (case side2 => exact HC0_1.out); (case side3 => exact kcb); (case side4 => exact HC0_2.out); (case side5 => exact kcb); (case side6 => exact HC0_4.out); (case side7 => exact kcb); (case side8 => exact HC0_5.out); rintro e w21 ⟨rfl, hb⟩; refine ⟨_, rfl, ?_⟩; replace BK287 := Aside0.mk (blb BK287 hb); replace BK288 := Aside0.mk (blb BK288 hb); replace HB := bst hb; (try clear hb); (try clear hb2); (try clear hk); (try clear hi)) | (go_at_call 47; (with_reducible refine (impl_KeyOk.calls k _ _ l1 false _ ?side1 ?side2 A5.out).mono ?_); (case side1 => exact kcb); (case side2 => exact HC1.out); rintro e w' ⟨rfl, ⟨nd, rfl⟩⟩; (try (rw [drewN_self w21]; generalize hq_ : World.drewN w21 _ = w21; have n0_ : Aside0 (w21.heap[gb287]? = some (.cells #[.int .i64 a0_0, .slice A0_1 l0_1.length c0_1, .slice A0_2 l0_2.length c0_2, .int .i64 a0_3, .slice A0_4 l0_4.length c0_4, .slice A0_5 l0_5.length c0_5] 35 (0, 0))) := ⟨by rw [← hq_]; exact (bkp BK287)⟩; have n1_ : Aside0 (w21.heap[gb288]? = some (.cells #[.int .i64 0, .bool false, .slice none 0 0] 89 (0, 0))) := ⟨by rw [← hq_]; exact (bkp BK288)⟩; have n2_ : Aside0 (Below w.heap.size w w21) := ⟨by rw [← hq_]; exact bel⟩; clear BK287 BK288 HB hq_; have BK287 := n0_; have BK288 := n1_; have HB := n2_; clear n0_ n1_ n2_)); obtain ⟨C22_0, C22_1, C22_2, -⟩ := cells_3 BK288.out trivial; obtain ⟨F22_0, F22_1, F22_2, -⟩ := frz_3 BK288.out))
  refine bodyPost_ret (results_cell_row rfl _ _ gb288 89 #[.int .i64 0, .bool false, .slice none 0 0] (0, 0) _ rfl (by (with_reducible repeat (first | refine blk_drewN ?_ _ | refine blk_drew ?_ | refine blk_alloc ?_ _)); refine blk_put (cs := #[.int .i64 0, .bool false, .slice none 0 0]) ?_ 2 _ rfl; (with_reducible repeat (first | refine blk_drewN ?_ _ | refine blk_drew ?_ | refine blk_alloc ?_ _)); refine blk_put (cs := #[.int .i64 0, .bool false, .slice none 0 0]) ?_ 1 _ rfl; (with_reducible repeat (first | refine blk_drewN ?_ _ | refine blk_drew ?_ | refine blk_alloc ?_ _)); refine blk_put (cs := #[.int .i64 0, .bool false, .slice none 0 0]) ?_ 0 _ rfl; (with_reducible repeat (first | refine blk_drewN ?_ _ | refine blk_drew ?_ | refine blk_alloc ?_ _)); exact BK288.out) Try.underlying89 rfl (by kernel_rfl)) rfl ?_
  exact ⟨_, rz_, by first | exact Kd.R_nil _ _ _ _ _ | exact Kd.N_nil _ _ _ _ _ | exact Kd.V_nil _ _ _ _ _ | exact Kd.Q_nil _ _ _ _ _ | exact Kd.S_nil _ _ _ _ _, bel⟩
 replace c4 := Bool.eq_false_iff.mpr c4
 subst c4
 have H1 : (some (0, false, ([] : List Int))) = some (r1, r2, r3) := by rw [if_neg (show ¬ (false = true) by decide)] at H; exact H
 clear H
 have H := H1
 clear H1
 simp only [Option.some.injEq, Prod.mk.injEq] at H
 obtain ⟨rfl, rfl, rfl⟩ := H
 go_enter Try.func48, Try.ntmps48
 go_wp2_with (first | ((with_reducible refine gate_dst (N := 2) rfl ?_); refine bx_ 2 #[.int .i64 a0_0, .slice A0_1 l0_1.length c0_1, .slice A0_2 l0_2.length c0_2, .int .i64 a0_3, .slice A0_4 l0_4.length c0_4, .slice A0_5 l0_5.length c0_5] 35 (h := ?_); intro gb287 hg w23 hbox hb; have BK287 := Aside0.mk (hbox); have GW287 := Aside0.mk ((by rw [hg]; exact (below_size bel) : w.heap.size ≤ gb287)); have GE287 := GW287; replace HB := bst hb; clear hb hbox hg) | ((with_reducible refine gate_dst (N := 4) rfl ?_); refine bx_ 4 #[.int .i64 0, .bool false, .slice none 0 0] 89 (h := ?_); intro gb288 hg w24 hbox hb; have BK288 := Aside0.mk (hbox); have GW288 := Aside0.mk ((by rw [hg]; exact (below_size bel) : w.heap.size ≤ gb288)); have GE288 := GW288; have NB287_288 := Aside0.mk ((by rw [hg]; exact Nat.ne_of_lt (blt BK287) : gb287 ≠ gb288)); have NB288_287 := Aside0.mk NB287_288.out.symm; replace BK287 := Aside0.mk (blb BK287 hb); replace HB := bst hb; clear hb hbox hg; have hnb25 := NB287_288.out; have hnc25 := NB288_287.out; obtain ⟨C26_0, C26_1, C26_2, C26_3, C26_4, C26_5, -⟩ := cells_6 BK287.out trivial; obtain ⟨F26_0, F26_1, F26_2, F26_3, F26_4, F26_5, -⟩ := frz_6 BK287.out) | ((with_reducible refine gate_callee (f := 18) rfl ?_); refine gl_ (some 6) Try.func18 #[.agg #[.int .i64 a0_0, .slice A0_1 l0_1.length c0_1, .slice A0_2 l0_2.length c0_2, .int .i64 a0_3, .slice A0_4 l0_4.length c0_4, .slice A0_5 l0_5.length c0_5]] (h := ?_); (with_reducible refine (impl_StateOk.calls k a0_0 _ _ l0_1 _ _ l0_2 a0_3 _ _ l0_4 _ _ l0_5 false _ ?side1 ?side2 ?side3 ?side4 ?side5 ?side6 ?side7 ?side8 A3.out).mono ?_); (case side1 => exact kcb); (case side2 => exact HC0_1.out); (case side3 => exact kcb); (case side4 => exact HC0_2.out); (case side5 => exact kcb); (case side6 => exact HC0_4.out); (case side7 => exact kcb); (case side8 => exact HC0_5.out); rintro e w27 ⟨rfl, hb⟩; refine ⟨_, rfl, ?_⟩; replace BK287 := Aside0.mk (blb BK287 hb); replace BK288 := Aside0.mk (blb BK288 hb); replace HB := bst hb; (try clear hb); (try clear hb2); (try clear hk); (try clear hi); obtain ⟨C28_0, C28_1, C28_2, -⟩ := cells_3 BK288.out trivial; obtain ⟨F28_0, F28_1, F28_2, -⟩ := frz_3 BK288.out))
 refine bodyPost_ret (results_cell_row rfl _ _ gb288 89 #[.int .i64 0, .bool false, .slice none 0 0] (0, 0) _ rfl (by (with_reducible repeat (first | refine blk_drewN ?_ _ | refine blk_drew ?_ | refine blk_alloc ?_ _)); refine blk_put (cs := #[.int .i64 0, .bool false, .slice none 0 0]) ?_ 2 _ rfl; (with_reducible repeat (first | refine blk_drewN ?_ _ | refine blk_drew ?_ | refine blk_alloc ?_ _)); refine blk_put (cs := #[.int .i64 0, .bool false, .slice none 0 0]) ?_ 1 _ rfl; (with_reducible repeat (first | refine blk_drewN ?_ _ | refine blk_drew ?_ | refine blk_alloc ?_ _)); refine blk_put (cs := #[.int .i64 0, .bool false, .slice none 0 0]) ?_ 0 _ rfl; (with_reducible repeat (first | refine blk_drewN ?_ _ | refine blk_drew ?_ | refine blk_alloc ?_ _)); exact BK288.out) Try.underlying89 rfl (by kernel_rfl)) rfl ?_
 exact ⟨_, rz_, by first | exact Kd.R_nil _ _ _ _ _ | exact Kd.N_nil _ _ _ _ _ | exact Kd.V_nil _ _ _ _ _ | exact Kd.Q_nil _ _ _ _ _ | exact Kd.S_nil _ _ _ _ _, bel⟩

/-! ### laws_markState: function 57 -/
set_option maxHeartbeats 8000000 in
set_option maxRecDepth 100000 in
theorem laws_markState.S_flat (P : Nat → Prop) (base : Nat) (v : Value) (l : List Int) (a : Int) (w : World) (hr : Kd.R (Kd.int .u8) 5 w base P v l) (h0 : 0 ≤ a) (h1 : a + l.length ≤ 1000000000) :
  Calls Try.prog 38 #[v, .int .i64 a] w fun e w' => e = .returned (.int .i64 (a + l.length)) ∧ Mk w w' P := by
 obtain ⟨A, c, rfl⟩ := Kd.R_slice hr
 have HR := Aside0.mk hr
 clear hr
 go_enter Try.func38, Try.ntmps38
 go_wp2
 go_loopg [1, 5] l.length (fun gg v1 v5 wr => ∃ x : Int, v1 = .int .i64 (a + x) ∧ v5 = .int .i64 x ∧ 0 ≤ x ∧ x ≤ (l.length : Int) ∧ l.length - x.toNat ≤ gg ∧ Aside0 (Mk w wr P))
 case atStart => exact ⟨0, by rw [Int.add_zero], rfl, by omega, by omega, by omega, ⟨Mk.refl w P⟩⟩
 case round =>
  obtain ⟨x, rfl, rfl, hx0, hx1, hg, M⟩ := hrel
  by_cases hlt : x < (l.length : Int)
  ·obtain ⟨l', hl', hr'⟩ := Mk.R_int M.out (fun _ h => h) HR.out
   have hlt' : x < (l'.length : Int) := by omega
   have c1 : decide (x < (l.length : Int)) = true := decide_eq_true hlt
   have HL := Aside0.mk hlt
   have HLL := Aside0.mk hl'
   have HG := Aside0.mk hg
   clear hlt hg
   obtain ⟨g, cap, e, hb, hgl, cells, hcell⟩ := Kd.R_form hr' (by omega)
   injection e with ea en ec
   subst ea
   obtain ⟨hx, hf⟩ := Kd.R_celln 0 hr' x hx0 (by omega)
   have HP := Aside0.mk (hr'.1 g rfl)
   have HR' := Aside0.mk hr'
   clear hr' hcell hgl hb en ec hl' hlt' hx1
   have p5 : (0 ≤ x) = True := eq_true hx0
   have q5 : (x < (l.length : Int)) = True := eq_true HL.out
   go_wp2_with (first | ((with_reducible refine gate_store (t := 5) (p := 16) rfl ?_); refine store_event (t := 5) (p := 16) (v := ?vo_w8) (w1 := (wr.setCell ⟨g, x.toNat, none⟩ (.int .u8 ((a + x) % 256)))) ?hg ?ho ?hn ?hr ?_; (case ho => rfl); (case hg => rfl); (case hn => rfl); (case hr => first | (go_simp; done) | (go_simp; rfl)); intro w8 hw; have M8 := Aside0.mk (show Mk w w8 P by rw [hw]; exact Mk.set M.out HP.out hx (.inr (.inl ⟨_, _, _, rfl, rfl⟩))); clear hw))
   go_roundg (l.length - (x.toNat + 1))
   case measure => have := HG.out; have := HL.out; omega
   case rel =>
    have hw1 : wrap64 (a + x + 1) = a + (x + 1) := by rw [w64m (by have := HL.out; omega) (by have := HL.out; omega)]; omega
    have hw2 : wrap64 (x + 1) = x + 1 := w64m (by have := HL.out; omega) (by have := HL.out; omega)
    exact ⟨x + 1, by first | rw [hw1] | simp [hw1], by first | rw [hw2] | simp [hw2], by omega, by have := HL.out; omega, by have := HL.out; omega, ⟨M8.out⟩⟩
  have c1 : decide (x < (l.length : Int)) = false := decide_eq_false hlt
  have hx : x = (l.length : Int) := by omega
  clear hlt hg
  subst hx
  go_wp2
  go_ret
  exact ⟨rfl, M.out⟩
def laws_markState.SRow_wt (x : S92) : Nat := x.f0.length + x.f1.length + 2
def laws_markState.SRow_Eqv (x y : S92) : Prop := x.f0.length = y.f0.length ∧ x.f1.length = y.f1.length
theorem laws_markState.SRow_shape (x : S92) (w W : World) (P ok : Nat → Prop) (base : Nat) (cs cs' : List Value) (M : Mk w W P) (hok : ∀ b, ok b → P b) (hm : k92.M w base ok x cs) (hsm : Sm cs cs') : ∃ x', laws_markState.SRow_Eqv x x' ∧ k92.M W base ok x' cs' := by
 obtain ⟨hl, he⟩ := hsm
 obtain ⟨v0, v1, rfl, h0, h1⟩ := k92_openM hm
 obtain ⟨A0, c0, rfl⟩ := Kd.R_slice h0
 obtain ⟨A1, c1, rfl⟩ := Kd.R_slice h1
 obtain ⟨u0, hu0, q0⟩ := he 0 _ rfl
 obtain ⟨u1, hu1, q1⟩ := he 1 _ rfl
 obtain ⟨u2, hu2, q2⟩ := he 2 _ rfl
 obtain ⟨u3, hu3, q3⟩ := he 3 _ rfl
 obtain rfl := q0.slice
 obtain rfl := q1.slice
 obtain ⟨i2, rfl⟩ := q2.int
 obtain ⟨i3, rfl⟩ := q3.int
 have hcs : cs' = [.slice A0 x.f0.length c0, .slice A1 x.f1.length c1, .int .i64 i2, .int .i64 i3] := by
  match cs', hl, hu0, hu1, hu2, hu3 with
  | [y0, y1, y2, y3], _, a0, a1, a2, a3 => simp at a0 a1 a2 a3; rw [a0, a1, a2, a3]
 subst hcs
 obtain ⟨f0, l0, g0⟩ := Mk.R_int M hok h0
 obtain ⟨f1, l1, g1⟩ := Mk.R_int M hok h1
 have e := k92_mkM W base ok (⟨f0, f1, i2, i3⟩ : S92) (v0 := .slice A0 x.f0.length c0) g0 (v1 := .slice A1 x.f1.length c1) g1
 exact ⟨⟨f0, f1, i2, i3⟩, ⟨l0.symm, l1.symm⟩, e⟩
set_option maxHeartbeats 16000000 in
set_option maxRecDepth 100000 in
theorem laws_markState.SRow_deep (P : Nat → Prop) (base : Nat) (v : Value) (l : List S92) (a : Int) (w : World) (hr : Kd.R k92 92 w base P v l) (h0 : 0 ≤ a) (h1 : a + ((l.map laws_markState.SRow_wt).sum : Nat) ≤ 1000000000) :
  Calls Try.prog 136 #[v, .int .i64 a] w fun e w' => e = .returned (.int .i64 (a + ((l.map laws_markState.SRow_wt).sum : Nat))) ∧ Mk w w' P := by
 obtain ⟨A, c, rfl⟩ := Kd.R_slice hr
 have HR := Aside0.mk hr
 have H0 := Aside0.mk h0
 have H1 := Aside0.mk h1
 clear hr h0 h1
 have hu := Try.underlying92
 go_enter Try.func136, Try.ntmps136
 go_wp2
 go_loopg [1, 5] l.length (fun gg v1 v5 wr => ∃ x N1 : Int, v1 = .int .i64 N1 ∧ v5 = .int .i64 x ∧ 0 ≤ x ∧ x ≤ (l.length : Int) ∧ l.length - x.toNat ≤ gg ∧ Aside0 (N1 = a + (((l.take x.toNat).map laws_markState.SRow_wt).sum : Nat)) ∧ Aside0 (Mk w wr P))
 case atStart => exact ⟨0, a, rfl, rfl, by omega, by omega, by omega, ⟨by simp⟩, ⟨Mk.refl w P⟩⟩
 case round =>
  obtain ⟨x, N1, rfl, rfl, hx0, hx1, hg, HA, M⟩ := hrel
  by_cases hlt : x < (l.length : Int)
  ·have hn : x.toNat < l.length := by omega
   obtain ⟨l', hl', hs', hr'⟩ := Mk.R (s := laws_markState.SRow_Eqv) M.out (fun _ h => h) HR.out (fun y hy ok' hok' d d' hm' hsm' => laws_markState.SRow_shape y w wr P ok' base d d' M.out hok' hm' hsm')
   have hn' : x.toNat < l'.length := by omega
   have hE := hs' x.toNat _ _ (List.getElem?_eq_getElem hn) (List.getElem?_eq_getElem hn')
   have c1 : decide (x < (l.length : Int)) = true := decide_eq_true hlt
   obtain ⟨g, cap, e, hb, hgl, cells, hcell⟩ := Kd.R_form hr' (by omega)
   injection e with ea en ec
   subst ea
   obtain ⟨ce, hcl, hM, hcc, hfr⟩ := Kd.R_elem hr' z92 x hx0 (by omega)
   rw [List.getD_eq_getElem?_getD, List.getElem?_eq_getElem hn', Option.getD_some] at hM
   generalize l'[x.toNat] = y at hE hM
   obtain ⟨v0, v1, rfl, hr0, hr1⟩ := k92_openM hM
   obtain ⟨A0, c0, rfl⟩ := Kd.R_slice hr0
   obtain ⟨A1, c1, rfl⟩ := Kd.R_slice hr1
   have hx_0 : wr.cell? ⟨g, x.toNat * 4, none⟩ = some (.slice A0 y.f0.length c0) := hcc 0 _ rfl
   have hx_1 : wr.cell? ⟨g, x.toNat * 4 + 1, none⟩ = some (.slice A1 y.f1.length c1) := hcc 1 _ rfl
   have hx_2 : wr.cell? ⟨g, x.toNat * 4 + 2, none⟩ = some (.int .i64 y.f2) := hcc 2 _ rfl
   have hx_3 : wr.cell? ⟨g, x.toNat * 4 + 3, none⟩ = some (.int .i64 y.f3) := hcc 3 _ rfl
   have hf_2 : wr.frozen? ⟨g, x.toNat * 4 + 2, none⟩ = false := hfr 2
   have hf_3 : wr.frozen? ⟨g, x.toNat * 4 + 3, none⟩ = false := hfr 3
   have HP := Aside0.mk (hr'.1 g rfl)
   have h4 := Aside0.mk (mk_sum_take laws_markState.SRow_wt l (x.toNat + 1))
   have h5 := Aside0.mk (mk_sum_step laws_markState.SRow_wt l x.toNat hn)
   have h6 : laws_markState.SRow_wt l[x.toNat] = y.f0.length + y.f1.length + 2 := by
    unfold laws_markState.SRow_wt
    unfold laws_markState.SRow_Eqv at hE
    rw [hE.1, hE.2]
   have hsum : N1 + (y.f0.length + y.f1.length + 2 : Nat) = a + (((l.take (x.toNat + 1)).map laws_markState.SRow_wt).sum : Nat) := by rw [HA.out, h5.out, h6]; omega
   have hle : N1 + (y.f0.length + y.f1.length + 2 : Nat) ≤ 1000000000 := by rw [hsum]; have := h4.out; have := H1.out; omega
   have hA0 : 0 ≤ N1 := by rw [HA.out]; have := H0.out; omega
   have hw0 : wrap64 (N1 + (y.f0.length : Int) + (y.f1.length : Int) + 1) = N1 + (y.f0.length : Int) + (y.f1.length : Int) + 1 := w64m (by clear hsum; omega) (by clear hsum; omega)
   have hw1 : wrap64 (N1 + (y.f0.length : Int) + (y.f1.length : Int) + 1 + 1) = N1 + (y.f0.length : Int) + (y.f1.length : Int) + 1 + 1 := w64m (by clear hsum hw0; omega) (by clear hsum hw0; omega)
   have hwx : wrap64 (x + 1) = x + 1 := w64m (by clear hsum hle hw0 hw1; omega) (by have := (Kd.R_reads' HR.out).2.2.2.1; clear hsum hle hw0 hw1; omega)
   have HL := Aside0.mk hlt
   have HG := Aside0.mk hg
   have HR0 := Aside0.mk hr0
   have HR1 := Aside0.mk hr1
   have HLE := Aside0.mk hle
   have HA0 := Aside0.mk hA0
   have HSUM := Aside0.mk hsum
   have SETS := Aside0.mk (show ∀ w8, Mk wr w8 P → ∀ (b2 : Int) (b3 : Int), Mk wr ((w8.setCell ⟨g, x.toNat * 4 + 2, none⟩ (.int .i64 b2)).setCell ⟨g, x.toNat * 4 + 3, none⟩ (.int .i64 b3)) P from by
    intro w8 m8 b2 b3
    obtain ⟨u2, hy_2, s2⟩ := m8.cell hx_2
    obtain ⟨d2, rfl⟩ := s2.int
    have n0 := Mk.set m8 HP.out hy_2 (u' := .int .i64 b2) (.inr (.inl ⟨_, _, _, rfl, rfl⟩))
    obtain ⟨u3, hy_3, s3⟩ := n0.cell hx_3
    obtain ⟨d3, rfl⟩ := s3.int
    have n1 := Mk.set n0 HP.out hy_3 (u' := .int .i64 b3) (.inr (.inl ⟨_, _, _, rfl, rfl⟩))
    exact n1)
   clear hr' hcell hgl hb en ec hl' hn' hx1 hE hlt hg hr0 hr1 hle hA0 hsum h6 hs' hM hcc hfr hcl h4 h5 hn
   have p5 : (0 ≤ x) = True := eq_true hx0
   have q5 : (x < (l.length : Int)) = True := eq_true HL.out
   go_wp2_with (first | (go_at_call 38; with_reducible refine (laws_markState.S_flat P base _ y.f0 (N1) _ (Kd.R_mono HR0.out (fun _ h => h.1)) HA0.out (by have := HLE.out; omega)).mono ?_; rintro e w80 ⟨rfl, m8⟩; have M80 := Aside0.mk (m8); obtain ⟨u1_0, hy0_1, s1⟩ := M80.out.cell hx_1; obtain rfl := s1.slice; obtain ⟨u2_0, hy0_2, s2⟩ := M80.out.cell hx_2; obtain ⟨i2_0, rfl⟩ := s2.int; obtain ⟨u3_0, hy0_3, s3⟩ := M80.out.cell hx_3; obtain ⟨i3_0, rfl⟩ := s3.int; have hz0_2 := M80.out.frz hx_2 hf_2; have hz0_3 := M80.out.frz hx_3 hf_3; clear m8) | (go_at_call 38; obtain ⟨r1, lr1, gr1⟩ := Mk.R_int M80.out (fun _ (h : P _ ∧ _) => h.1) HR1.out; with_reducible refine (laws_markState.S_flat P base _ r1 (N1 + (y.f0.length : Int)) _ (Kd.R_mono gr1 (fun _ h => h.1)) (by have := HA0.out; omega) (by have := HLE.out; have := lr1; omega)).mono ?_; rw [lr1]; rintro e w81 ⟨rfl, m8⟩; have M81 := Aside0.mk (M80.out.trans m8); obtain ⟨u2_1, hy1_2, s2⟩ := M81.out.cell hx_2; obtain ⟨i2_1, rfl⟩ := s2.int; obtain ⟨u3_1, hy1_3, s3⟩ := M81.out.cell hx_3; obtain ⟨i3_1, rfl⟩ := s3.int; have hz1_2 := M81.out.frz hx_2 hf_2; have hz1_3 := M81.out.frz hx_3 hf_3; clear m8))
   go_roundg (l.length - (x.toNat + 1))
   case measure => have := HG.out; have := HL.out; omega
   case rel => exact ⟨x + 1, _, rfl, by first | rw [hwx] | simp [hwx], by omega, by have := HL.out; omega, by have := HL.out; omega, ⟨by have := HSUM.out; rw [show (x + 1).toNat = x.toNat + 1 by omega]; omega⟩, ⟨M.out.trans (SETS.out _ M81.out _ _)⟩⟩
  have c1 : decide (x < (l.length : Int)) = false := decide_eq_false hlt
  have hA : N1 = a + ((l.map laws_markState.SRow_wt).sum : Nat) := by rw [HA.out, List.take_of_length_le (by omega)]
  clear hlt hg
  subst hA
  go_wp2
  go_ret
  exact ⟨rfl, M.out⟩
theorem laws_markState.SRow_call (P : Nat → Prop) (base : Nat) (v : Value) (l : List S92) (a : Int) (w1 w : World) (m : Mk w1 w P) (hr : Kd.R k92 92 w1 base P v l) (h0 : 0 ≤ a) (h1 : a + ((l.map laws_markState.SRow_wt).sum : Nat) ≤ 1000000000) :
  Calls Try.prog 136 #[v, .int .i64 a] w fun e w' => e = .returned (.int .i64 (a + ((l.map laws_markState.SRow_wt).sum : Nat))) ∧ Mk w1 w' P := by
 obtain ⟨l', hl, hs, hr'⟩ := Mk.R (s := laws_markState.SRow_Eqv) m (fun _ h => h) hr (fun z hz ok' hok' d d' hm' hsm' => laws_markState.SRow_shape z w1 w P ok' base d d' m hok' hm' hsm')
 have e1 : l.map laws_markState.SRow_wt = l'.map laws_markState.SRow_wt := mk_map_eq laws_markState.SRow_wt hl (fun j z z' h h' => by have := hs j z z' h h'; unfold laws_markState.SRow_Eqv at this; unfold laws_markState.SRow_wt; omega)
 rw [e1] at h1 ⊢
 refine (laws_markState.SRow_deep P base v l' a w hr' h0 h1).mono ?_
 rintro e w' ⟨rfl, m'⟩
 exact ⟨rfl, m.trans m'⟩
def laws_markState.STomb_wt (x : S94) : Nat := x.f0.length + 1
def laws_markState.STomb_Eqv (x y : S94) : Prop := x.f0.length = y.f0.length
theorem laws_markState.STomb_shape (x : S94) (w W : World) (P ok : Nat → Prop) (base : Nat) (cs cs' : List Value) (M : Mk w W P) (hok : ∀ b, ok b → P b) (hm : k94.M w base ok x cs) (hsm : Sm cs cs') : ∃ x', laws_markState.STomb_Eqv x x' ∧ k94.M W base ok x' cs' := by
 obtain ⟨hl, he⟩ := hsm
 obtain ⟨v0, rfl, h0⟩ := k94_openM hm
 obtain ⟨A0, c0, rfl⟩ := Kd.R_slice h0
 obtain ⟨u0, hu0, q0⟩ := he 0 _ rfl
 obtain ⟨u1, hu1, q1⟩ := he 1 _ rfl
 obtain rfl := q0.slice
 obtain ⟨i1, rfl⟩ := q1.int
 have hcs : cs' = [.slice A0 x.f0.length c0, .int .i64 i1] := by
  match cs', hl, hu0, hu1 with
  | [y0, y1], _, a0, a1 => simp at a0 a1; rw [a0, a1]
 subst hcs
 obtain ⟨f0, l0, g0⟩ := Mk.R_int M hok h0
 have e := k94_mkM W base ok (⟨f0, i1⟩ : S94) (v0 := .slice A0 x.f0.length c0) g0
 exact ⟨⟨f0, i1⟩, l0.symm, e⟩
set_option maxHeartbeats 16000000 in
set_option maxRecDepth 100000 in
theorem laws_markState.STomb_deep (P : Nat → Prop) (base : Nat) (v : Value) (l : List S94) (a : Int) (w : World) (hr : Kd.R k94 94 w base P v l) (h0 : 0 ≤ a) (h1 : a + ((l.map laws_markState.STomb_wt).sum : Nat) ≤ 1000000000) :
  Calls Try.prog 137 #[v, .int .i64 a] w fun e w' => e = .returned (.int .i64 (a + ((l.map laws_markState.STomb_wt).sum : Nat))) ∧ Mk w w' P := by
 obtain ⟨A, c, rfl⟩ := Kd.R_slice hr
 have HR := Aside0.mk hr
 have H0 := Aside0.mk h0
 have H1 := Aside0.mk h1
 clear hr h0 h1
 have hu := Try.underlying94
 go_enter Try.func137, Try.ntmps137
 go_wp2
 go_loopg [1, 5] l.length (fun gg v1 v5 wr => ∃ x N1 : Int, v1 = .int .i64 N1 ∧ v5 = .int .i64 x ∧ 0 ≤ x ∧ x ≤ (l.length : Int) ∧ l.length - x.toNat ≤ gg ∧ Aside0 (N1 = a + (((l.take x.toNat).map laws_markState.STomb_wt).sum : Nat)) ∧ Aside0 (Mk w wr P))
 case atStart => exact ⟨0, a, rfl, rfl, by omega, by omega, by omega, ⟨by simp⟩, ⟨Mk.refl w P⟩⟩
 case round =>
  obtain ⟨x, N1, rfl, rfl, hx0, hx1, hg, HA, M⟩ := hrel
  by_cases hlt : x < (l.length : Int)
  ·have hn : x.toNat < l.length := by omega
   obtain ⟨l', hl', hs', hr'⟩ := Mk.R (s := laws_markState.STomb_Eqv) M.out (fun _ h => h) HR.out (fun y hy ok' hok' d d' hm' hsm' => laws_markState.STomb_shape y w wr P ok' base d d' M.out hok' hm' hsm')
   have hn' : x.toNat < l'.length := by omega
   have hE := hs' x.toNat _ _ (List.getElem?_eq_getElem hn) (List.getElem?_eq_getElem hn')
   have c1 : decide (x < (l.length : Int)) = true := decide_eq_true hlt
   obtain ⟨g, cap, e, hb, hgl, cells, hcell⟩ := Kd.R_form hr' (by omega)
   injection e with ea en ec
   subst ea
   obtain ⟨ce, hcl, hM, hcc, hfr⟩ := Kd.R_elem hr' z94 x hx0 (by omega)
   rw [List.getD_eq_getElem?_getD, List.getElem?_eq_getElem hn', Option.getD_some] at hM
   generalize l'[x.toNat] = y at hE hM
   obtain ⟨v0, rfl, hr0⟩ := k94_openM hM
   obtain ⟨A0, c0, rfl⟩ := Kd.R_slice hr0
   have hx_0 : wr.cell? ⟨g, x.toNat * 2, none⟩ = some (.slice A0 y.f0.length c0) := hcc 0 _ rfl
   have hx_1 : wr.cell? ⟨g, x.toNat * 2 + 1, none⟩ = some (.int .i64 y.f1) := hcc 1 _ rfl
   have hf_1 : wr.frozen? ⟨g, x.toNat * 2 + 1, none⟩ = false := hfr 1
   have HP := Aside0.mk (hr'.1 g rfl)
   have h4 := Aside0.mk (mk_sum_take laws_markState.STomb_wt l (x.toNat + 1))
   have h5 := Aside0.mk (mk_sum_step laws_markState.STomb_wt l x.toNat hn)
   have h6 : laws_markState.STomb_wt l[x.toNat] = y.f0.length + 1 := by
    unfold laws_markState.STomb_wt
    unfold laws_markState.STomb_Eqv at hE
    rw [hE]
   have hsum : N1 + (y.f0.length + 1 : Nat) = a + (((l.take (x.toNat + 1)).map laws_markState.STomb_wt).sum : Nat) := by rw [HA.out, h5.out, h6]; omega
   have hle : N1 + (y.f0.length + 1 : Nat) ≤ 1000000000 := by rw [hsum]; have := h4.out; have := H1.out; omega
   have hA0 : 0 ≤ N1 := by rw [HA.out]; have := H0.out; omega
   have hw0 : wrap64 (N1 + (y.f0.length : Int) + 1) = N1 + (y.f0.length : Int) + 1 := w64m (by clear hsum; omega) (by clear hsum; omega)
   have hwx : wrap64 (x + 1) = x + 1 := w64m (by clear hsum hle hw0; omega) (by have := (Kd.R_reads' HR.out).2.2.2.1; clear hsum hle hw0; omega)
   have HL := Aside0.mk hlt
   have HG := Aside0.mk hg
   have HR0 := Aside0.mk hr0
   have HLE := Aside0.mk hle
   have HA0 := Aside0.mk hA0
   have HSUM := Aside0.mk hsum
   have SETS := Aside0.mk (show ∀ w8, Mk wr w8 P → ∀ (b1 : Int), Mk wr (w8.setCell ⟨g, x.toNat * 2 + 1, none⟩ (.int .i64 b1)) P from by
    intro w8 m8 b1
    obtain ⟨u1, hy_1, s1⟩ := m8.cell hx_1
    obtain ⟨d1, rfl⟩ := s1.int
    have n0 := Mk.set m8 HP.out hy_1 (u' := .int .i64 b1) (.inr (.inl ⟨_, _, _, rfl, rfl⟩))
    exact n0)
   clear hr' hcell hgl hb en ec hl' hn' hx1 hE hlt hg hr0 hle hA0 hsum h6 hs' hM hcc hfr hcl h4 h5 hn
   have p5 : (0 ≤ x) = True := eq_true hx0
   have q5 : (x < (l.length : Int)) = True := eq_true HL.out
   go_wp2_with (first | (go_at_call 38; with_reducible refine (laws_markState.S_flat P base _ y.f0 (N1) _ (Kd.R_mono HR0.out (fun _ h => h.1)) HA0.out (by have := HLE.out; omega)).mono ?_; rintro e w80 ⟨rfl, m8⟩; have M80 := Aside0.mk (m8); obtain ⟨u1_0, hy0_1, s1⟩ := M80.out.cell hx_1; obtain ⟨i1_0, rfl⟩ := s1.int; have hz0_1 := M80.out.frz hx_1 hf_1; clear m8))
   go_roundg (l.length - (x.toNat + 1))
   case measure => have := HG.out; have := HL.out; omega
   case rel => exact ⟨x + 1, _, rfl, by first | rw [hwx] | simp [hwx], by omega, by have := HL.out; omega, by have := HL.out; omega, ⟨by have := HSUM.out; rw [show (x + 1).toNat = x.toNat + 1 by omega]; omega⟩, ⟨M.out.trans (SETS.out _ M80.out _)⟩⟩
  have c1 : decide (x < (l.length : Int)) = false := decide_eq_false hlt
  have hA : N1 = a + ((l.map laws_markState.STomb_wt).sum : Nat) := by rw [HA.out, List.take_of_length_le (by omega)]
  clear hlt hg
  subst hA
  go_wp2
  go_ret
  exact ⟨rfl, M.out⟩
theorem laws_markState.STomb_call (P : Nat → Prop) (base : Nat) (v : Value) (l : List S94) (a : Int) (w1 w : World) (m : Mk w1 w P) (hr : Kd.R k94 94 w1 base P v l) (h0 : 0 ≤ a) (h1 : a + ((l.map laws_markState.STomb_wt).sum : Nat) ≤ 1000000000) :
  Calls Try.prog 137 #[v, .int .i64 a] w fun e w' => e = .returned (.int .i64 (a + ((l.map laws_markState.STomb_wt).sum : Nat))) ∧ Mk w1 w' P := by
 obtain ⟨l', hl, hs, hr'⟩ := Mk.R (s := laws_markState.STomb_Eqv) m (fun _ h => h) hr (fun z hz ok' hok' d d' hm' hsm' => laws_markState.STomb_shape z w1 w P ok' base d d' m hok' hm' hsm')
 have e1 : l.map laws_markState.STomb_wt = l'.map laws_markState.STomb_wt := mk_map_eq laws_markState.STomb_wt hl (fun j z z' h h' => by have := hs j z z' h h'; unfold laws_markState.STomb_Eqv at this; unfold laws_markState.STomb_wt; omega)
 rw [e1] at h1 ⊢
 refine (laws_markState.STomb_deep P base v l' a w hr' h0 h1).mono ?_
 rintro e w' ⟨rfl, m'⟩
 exact ⟨rfl, m.trans m'⟩
def laws_markState.SSes_wt (x : S109) : Nat := 2
def laws_markState.SSes_Eqv (x y : S109) : Prop := True
theorem laws_markState.SSes_shape (x : S109) (w W : World) (P ok : Nat → Prop) (base : Nat) (cs cs' : List Value) (M : Mk w W P) (hok : ∀ b, ok b → P b) (hm : k109.M w base ok x cs) (hsm : Sm cs cs') : ∃ x', laws_markState.SSes_Eqv x x' ∧ k109.M W base ok x' cs' := by
 obtain ⟨hl, he⟩ := hsm
 obtain rfl := k109_openM hm
 obtain ⟨u0, hu0, q0⟩ := he 0 _ rfl
 obtain ⟨u1, hu1, q1⟩ := he 1 _ rfl
 obtain ⟨i0, rfl⟩ := q0.int
 obtain ⟨i1, rfl⟩ := q1.bool
 have hcs : cs' = [.int .i64 i0, .bool i1] := by
  match cs', hl, hu0, hu1 with
  | [y0, y1], _, a0, a1 => simp at a0 a1; rw [a0, a1]
 subst hcs
 have e := k109_mkM W base ok (⟨i0, i1⟩ : S109)
 exact ⟨⟨i0, i1⟩, trivial, e⟩
set_option maxHeartbeats 16000000 in
set_option maxRecDepth 100000 in
theorem laws_markState.SSes_deep (P : Nat → Prop) (base : Nat) (v : Value) (l : List S109) (a : Int) (w : World) (hr : Kd.R k109 109 w base P v l) (h0 : 0 ≤ a) (h1 : a + ((l.map laws_markState.SSes_wt).sum : Nat) ≤ 1000000000) :
  Calls Try.prog 138 #[v, .int .i64 a] w fun e w' => e = .returned (.int .i64 (a + ((l.map laws_markState.SSes_wt).sum : Nat))) ∧ Mk w w' P := by
 obtain ⟨A, c, rfl⟩ := Kd.R_slice hr
 have HR := Aside0.mk hr
 have H0 := Aside0.mk h0
 have H1 := Aside0.mk h1
 clear hr h0 h1
 have hu := Try.underlying109
 go_enter Try.func138, Try.ntmps138
 go_wp2
 go_loopg [1, 5] l.length (fun gg v1 v5 wr => ∃ x N1 : Int, v1 = .int .i64 N1 ∧ v5 = .int .i64 x ∧ 0 ≤ x ∧ x ≤ (l.length : Int) ∧ l.length - x.toNat ≤ gg ∧ Aside0 (N1 = a + (((l.take x.toNat).map laws_markState.SSes_wt).sum : Nat)) ∧ Aside0 (Mk w wr P))
 case atStart => exact ⟨0, a, rfl, rfl, by omega, by omega, by omega, ⟨by simp⟩, ⟨Mk.refl w P⟩⟩
 case round =>
  obtain ⟨x, N1, rfl, rfl, hx0, hx1, hg, HA, M⟩ := hrel
  by_cases hlt : x < (l.length : Int)
  ·have hn : x.toNat < l.length := by omega
   obtain ⟨l', hl', hs', hr'⟩ := Mk.R (s := laws_markState.SSes_Eqv) M.out (fun _ h => h) HR.out (fun y hy ok' hok' d d' hm' hsm' => laws_markState.SSes_shape y w wr P ok' base d d' M.out hok' hm' hsm')
   have hn' : x.toNat < l'.length := by omega
   have hE := hs' x.toNat _ _ (List.getElem?_eq_getElem hn) (List.getElem?_eq_getElem hn')
   have c1 : decide (x < (l.length : Int)) = true := decide_eq_true hlt
   obtain ⟨g, cap, e, hb, hgl, cells, hcell⟩ := Kd.R_form hr' (by omega)
   injection e with ea en ec
   subst ea
   obtain ⟨ce, hcl, hM, hcc, hfr⟩ := Kd.R_elem hr' z109 x hx0 (by omega)
   rw [List.getD_eq_getElem?_getD, List.getElem?_eq_getElem hn', Option.getD_some] at hM
   generalize l'[x.toNat] = y at hE hM
   obtain rfl := k109_openM hM
   have hx_0 : wr.cell? ⟨g, x.toNat * 2, none⟩ = some (.int .i64 y.f0) := hcc 0 _ rfl
   have hx_1 : wr.cell? ⟨g, x.toNat * 2 + 1, none⟩ = some (.bool y.f1) := hcc 1 _ rfl
   have hf_0 : wr.frozen? ⟨g, x.toNat * 2, none⟩ = false := hfr 0
   have hf_1 : wr.frozen? ⟨g, x.toNat * 2 + 1, none⟩ = false := hfr 1
   have HP := Aside0.mk (hr'.1 g rfl)
   have h4 := Aside0.mk (mk_sum_take laws_markState.SSes_wt l (x.toNat + 1))
   have h5 := Aside0.mk (mk_sum_step laws_markState.SSes_wt l x.toNat hn)
   have h6 : laws_markState.SSes_wt l[x.toNat] = 2 := by
    unfold laws_markState.SSes_wt
    rfl
   have hsum : N1 + (2 : Nat) = a + (((l.take (x.toNat + 1)).map laws_markState.SSes_wt).sum : Nat) := by rw [HA.out, h5.out, h6]; omega
   have hle : N1 + (2 : Nat) ≤ 1000000000 := by rw [hsum]; have := h4.out; have := H1.out; omega
   have hA0 : 0 ≤ N1 := by rw [HA.out]; have := H0.out; omega
   have hw0 : wrap64 (N1 + 1) = N1 + 1 := w64m (by clear hsum; omega) (by clear hsum; omega)
   have hw1 : wrap64 (N1 + 1 + 1) = N1 + 1 + 1 := w64m (by clear hsum hw0; omega) (by clear hsum hw0; omega)
   have hwx : wrap64 (x + 1) = x + 1 := w64m (by clear hsum hle hw0 hw1; omega) (by have := (Kd.R_reads' HR.out).2.2.2.1; clear hsum hle hw0 hw1; omega)
   have HL := Aside0.mk hlt
   have HG := Aside0.mk hg
   have HLE := Aside0.mk hle
   have HA0 := Aside0.mk hA0
   have HSUM := Aside0.mk hsum
   have SETS := Aside0.mk (show ∀ w8, Mk wr w8 P → ∀ (b0 : Int) (b1 : Bool), Mk wr ((w8.setCell ⟨g, x.toNat * 2, none⟩ (.int .i64 b0)).setCell ⟨g, x.toNat * 2 + 1, none⟩ (.bool b1)) P from by
    intro w8 m8 b0 b1
    obtain ⟨u0, hy_0, s0⟩ := m8.cell hx_0
    obtain ⟨d0, rfl⟩ := s0.int
    have n0 := Mk.set m8 HP.out hy_0 (u' := .int .i64 b0) (.inr (.inl ⟨_, _, _, rfl, rfl⟩))
    obtain ⟨u1, hy_1, s1⟩ := n0.cell hx_1
    obtain ⟨d1, rfl⟩ := s1.bool
    have n1 := Mk.set n0 HP.out hy_1 (u' := .bool b1) (.inr (.inr ⟨_, _, rfl, rfl⟩))
    exact n1)
   clear hr' hcell hgl hb en ec hl' hn' hx1 hE hlt hg hle hA0 hsum h6 hs' hM hcc hfr hcl h4 h5 hn
   have p5 : (0 ≤ x) = True := eq_true hx0
   have q5 : (x < (l.length : Int)) = True := eq_true HL.out
   go_wp2
   go_roundg (l.length - (x.toNat + 1))
   case measure => have := HG.out; have := HL.out; omega
   case rel => exact ⟨x + 1, _, rfl, by first | rw [hwx] | simp [hwx], by omega, by have := HL.out; omega, by have := HL.out; omega, ⟨by have := HSUM.out; rw [show (x + 1).toNat = x.toNat + 1 by omega]; omega⟩, ⟨M.out.trans (SETS.out _ (Mk.refl wr P) _ _)⟩⟩
  have c1 : decide (x < (l.length : Int)) = false := decide_eq_false hlt
  have hA : N1 = a + ((l.map laws_markState.SSes_wt).sum : Nat) := by rw [HA.out, List.take_of_length_le (by omega)]
  clear hlt hg
  subst hA
  go_wp2
  go_ret
  exact ⟨rfl, M.out⟩
theorem laws_markState.SSes_call (P : Nat → Prop) (base : Nat) (v : Value) (l : List S109) (a : Int) (w1 w : World) (m : Mk w1 w P) (hr : Kd.R k109 109 w1 base P v l) (h0 : 0 ≤ a) (h1 : a + ((l.map laws_markState.SSes_wt).sum : Nat) ≤ 1000000000) :
  Calls Try.prog 138 #[v, .int .i64 a] w fun e w' => e = .returned (.int .i64 (a + ((l.map laws_markState.SSes_wt).sum : Nat))) ∧ Mk w1 w' P := by
 obtain ⟨l', hl, hs, hr'⟩ := Mk.R (s := laws_markState.SSes_Eqv) m (fun _ h => h) hr (fun z hz ok' hok' d d' hm' hsm' => laws_markState.SSes_shape z w1 w P ok' base d d' m hok' hm' hsm')
 have e1 : l.map laws_markState.SSes_wt = l'.map laws_markState.SSes_wt := mk_map_eq laws_markState.SSes_wt hl (fun j z z' h h' => by have := hs j z z' h h'; unfold laws_markState.SSes_Eqv at this; unfold laws_markState.SSes_wt; omega)
 rw [e1] at h1 ⊢
 refine (laws_markState.SSes_deep P base v l' a w hr' h0 h1).mono ?_
 rintro e w' ⟨rfl, m'⟩
 exact ⟨rfl, m.trans m'⟩
def laws_markState.SLast_wt (x : S75) : Nat := 4
def laws_markState.SLast_Eqv (x y : S75) : Prop := True
theorem laws_markState.SLast_shape (x : S75) (w W : World) (P ok : Nat → Prop) (base : Nat) (cs cs' : List Value) (M : Mk w W P) (hok : ∀ b, ok b → P b) (hm : k75.M w base ok x cs) (hsm : Sm cs cs') : ∃ x', laws_markState.SLast_Eqv x x' ∧ k75.M W base ok x' cs' := by
 obtain ⟨hl, he⟩ := hsm
 obtain rfl := k75_openM hm
 obtain ⟨u0, hu0, q0⟩ := he 0 _ rfl
 obtain ⟨u1, hu1, q1⟩ := he 1 _ rfl
 obtain ⟨u2, hu2, q2⟩ := he 2 _ rfl
 obtain ⟨u3, hu3, q3⟩ := he 3 _ rfl
 obtain ⟨i0, rfl⟩ := q0.int
 obtain ⟨i1, rfl⟩ := q1.int
 obtain ⟨i2, rfl⟩ := q2.int
 obtain ⟨i3, rfl⟩ := q3.int
 have hcs : cs' = [.int .i64 i0, .int .i64 i1, .int .i64 i2, .int .i64 i3] := by
  match cs', hl, hu0, hu1, hu2, hu3 with
  | [y0, y1, y2, y3], _, a0, a1, a2, a3 => simp at a0 a1 a2 a3; rw [a0, a1, a2, a3]
 subst hcs
 have e := k75_mkM W base ok (⟨i0, i1, ⟨i2, i3⟩⟩ : S75)
 exact ⟨⟨i0, i1, ⟨i2, i3⟩⟩, trivial, e⟩
set_option maxHeartbeats 16000000 in
set_option maxRecDepth 100000 in
theorem laws_markState.SLast_deep (P : Nat → Prop) (base : Nat) (v : Value) (l : List S75) (a : Int) (w : World) (hr : Kd.R k75 75 w base P v l) (h0 : 0 ≤ a) (h1 : a + ((l.map laws_markState.SLast_wt).sum : Nat) ≤ 1000000000) :
  Calls Try.prog 139 #[v, .int .i64 a] w fun e w' => e = .returned (.int .i64 (a + ((l.map laws_markState.SLast_wt).sum : Nat))) ∧ Mk w w' P := by
 obtain ⟨A, c, rfl⟩ := Kd.R_slice hr
 have HR := Aside0.mk hr
 have H0 := Aside0.mk h0
 have H1 := Aside0.mk h1
 clear hr h0 h1
 have hu := Try.underlying75
 have huz := Try.underlying73
 go_enter Try.func139, Try.ntmps139
 go_wp2
 go_loopg [1, 5] l.length (fun gg v1 v5 wr => ∃ x N1 : Int, v1 = .int .i64 N1 ∧ v5 = .int .i64 x ∧ 0 ≤ x ∧ x ≤ (l.length : Int) ∧ l.length - x.toNat ≤ gg ∧ Aside0 (N1 = a + (((l.take x.toNat).map laws_markState.SLast_wt).sum : Nat)) ∧ Aside0 (Mk w wr P))
 case atStart => exact ⟨0, a, rfl, rfl, by omega, by omega, by omega, ⟨by simp⟩, ⟨Mk.refl w P⟩⟩
 case round =>
  obtain ⟨x, N1, rfl, rfl, hx0, hx1, hg, HA, M⟩ := hrel
  by_cases hlt : x < (l.length : Int)
  ·have hn : x.toNat < l.length := by omega
   obtain ⟨l', hl', hs', hr'⟩ := Mk.R (s := laws_markState.SLast_Eqv) M.out (fun _ h => h) HR.out (fun y hy ok' hok' d d' hm' hsm' => laws_markState.SLast_shape y w wr P ok' base d d' M.out hok' hm' hsm')
   have hn' : x.toNat < l'.length := by omega
   have hE := hs' x.toNat _ _ (List.getElem?_eq_getElem hn) (List.getElem?_eq_getElem hn')
   have c1 : decide (x < (l.length : Int)) = true := decide_eq_true hlt
   obtain ⟨g, cap, e, hb, hgl, cells, hcell⟩ := Kd.R_form hr' (by omega)
   injection e with ea en ec
   subst ea
   obtain ⟨ce, hcl, hM, hcc, hfr⟩ := Kd.R_elem hr' z75 x hx0 (by omega)
   rw [List.getD_eq_getElem?_getD, List.getElem?_eq_getElem hn', Option.getD_some] at hM
   generalize l'[x.toNat] = y at hE hM
   obtain rfl := k75_openM hM
   have hx_0 : wr.cell? ⟨g, x.toNat * 4, none⟩ = some (.int .i64 y.f0) := hcc 0 _ rfl
   have hx_1 : wr.cell? ⟨g, x.toNat * 4 + 1, none⟩ = some (.int .i64 y.f1) := hcc 1 _ rfl
   have hx_2 : wr.cell? ⟨g, x.toNat * 4 + 2, none⟩ = some (.int .i64 y.f2.f0) := hcc 2 _ rfl
   have hx_3 : wr.cell? ⟨g, x.toNat * 4 + 3, none⟩ = some (.int .i64 y.f2.f1) := hcc 3 _ rfl
   have hf_0 : wr.frozen? ⟨g, x.toNat * 4, none⟩ = false := hfr 0
   have hf_1 : wr.frozen? ⟨g, x.toNat * 4 + 1, none⟩ = false := hfr 1
   have hf_2 : wr.frozen? ⟨g, x.toNat * 4 + 2, none⟩ = false := hfr 2
   have hf_3 : wr.frozen? ⟨g, x.toNat * 4 + 3, none⟩ = false := hfr 3
   have HP := Aside0.mk (hr'.1 g rfl)
   have h4 := Aside0.mk (mk_sum_take laws_markState.SLast_wt l (x.toNat + 1))
   have h5 := Aside0.mk (mk_sum_step laws_markState.SLast_wt l x.toNat hn)
   have h6 : laws_markState.SLast_wt l[x.toNat] = 4 := by
    unfold laws_markState.SLast_wt
    rfl
   have hsum : N1 + (4 : Nat) = a + (((l.take (x.toNat + 1)).map laws_markState.SLast_wt).sum : Nat) := by rw [HA.out, h5.out, h6]; omega
   have hle : N1 + (4 : Nat) ≤ 1000000000 := by rw [hsum]; have := h4.out; have := H1.out; omega
   have hA0 : 0 ≤ N1 := by rw [HA.out]; have := H0.out; omega
   have hw0 : wrap64 (N1 + 1) = N1 + 1 := w64m (by clear hsum; omega) (by clear hsum; omega)
   have hw1 : wrap64 (N1 + 1 + 1) = N1 + 1 + 1 := w64m (by clear hsum hw0; omega) (by clear hsum hw0; omega)
   have hw2 : wrap64 (N1 + 1 + 1 + 1) = N1 + 1 + 1 + 1 := w64m (by clear hsum hw0 hw1; omega) (by clear hsum hw0 hw1; omega)
   have hw3 : wrap64 (N1 + 1 + 1 + 1 + 1) = N1 + 1 + 1 + 1 + 1 := w64m (by clear hsum hw0 hw1 hw2; omega) (by clear hsum hw0 hw1 hw2; omega)
   have hwx : wrap64 (x + 1) = x + 1 := w64m (by clear hsum hle hw0 hw1 hw2 hw3; omega) (by have := (Kd.R_reads' HR.out).2.2.2.1; clear hsum hle hw0 hw1 hw2 hw3; omega)
   have HL := Aside0.mk hlt
   have HG := Aside0.mk hg
   have HLE := Aside0.mk hle
   have HA0 := Aside0.mk hA0
   have HSUM := Aside0.mk hsum
   have SETS := Aside0.mk (show ∀ w8, Mk wr w8 P → ∀ (b0 : Int) (b1 : Int) (b2 : Int) (b3 : Int), Mk wr ((((w8.setCell ⟨g, x.toNat * 4, none⟩ (.int .i64 b0)).setCell ⟨g, x.toNat * 4 + 1, none⟩ (.int .i64 b1)).setCell ⟨g, x.toNat * 4 + 2, none⟩ (.int .i64 b2)).setCell ⟨g, x.toNat * 4 + 3, none⟩ (.int .i64 b3)) P from by
    intro w8 m8 b0 b1 b2 b3
    obtain ⟨u0, hy_0, s0⟩ := m8.cell hx_0
    obtain ⟨d0, rfl⟩ := s0.int
    have n0 := Mk.set m8 HP.out hy_0 (u' := .int .i64 b0) (.inr (.inl ⟨_, _, _, rfl, rfl⟩))
    obtain ⟨u1, hy_1, s1⟩ := n0.cell hx_1
    obtain ⟨d1, rfl⟩ := s1.int
    have n1 := Mk.set n0 HP.out hy_1 (u' := .int .i64 b1) (.inr (.inl ⟨_, _, _, rfl, rfl⟩))
    obtain ⟨u2, hy_2, s2⟩ := n1.cell hx_2
    obtain ⟨d2, rfl⟩ := s2.int
    have n2 := Mk.set n1 HP.out hy_2 (u' := .int .i64 b2) (.inr (.inl ⟨_, _, _, rfl, rfl⟩))
    obtain ⟨u3, hy_3, s3⟩ := n2.cell hx_3
    obtain ⟨d3, rfl⟩ := s3.int
    have n3 := Mk.set n2 HP.out hy_3 (u' := .int .i64 b3) (.inr (.inl ⟨_, _, _, rfl, rfl⟩))
    exact n3)
   clear hr' hcell hgl hb en ec hl' hn' hx1 hE hlt hg hle hA0 hsum h6 hs' hM hcc hfr hcl h4 h5 hn
   have p5 : (0 ≤ x) = True := eq_true hx0
   have q5 : (x < (l.length : Int)) = True := eq_true HL.out
   go_wp2
   go_roundg (l.length - (x.toNat + 1))
   case measure => have := HG.out; have := HL.out; omega
   case rel => exact ⟨x + 1, _, rfl, by first | rw [hwx] | simp [hwx], by omega, by have := HL.out; omega, by have := HL.out; omega, ⟨by have := HSUM.out; rw [show (x + 1).toNat = x.toNat + 1 by omega]; omega⟩, ⟨M.out.trans (SETS.out _ (Mk.refl wr P) _ _ _ _)⟩⟩
  have c1 : decide (x < (l.length : Int)) = false := decide_eq_false hlt
  have hA : N1 = a + ((l.map laws_markState.SLast_wt).sum : Nat) := by rw [HA.out, List.take_of_length_le (by omega)]
  clear hlt hg
  subst hA
  go_wp2
  go_ret
  exact ⟨rfl, M.out⟩
theorem laws_markState.SLast_call (P : Nat → Prop) (base : Nat) (v : Value) (l : List S75) (a : Int) (w1 w : World) (m : Mk w1 w P) (hr : Kd.R k75 75 w1 base P v l) (h0 : 0 ≤ a) (h1 : a + ((l.map laws_markState.SLast_wt).sum : Nat) ≤ 1000000000) :
  Calls Try.prog 139 #[v, .int .i64 a] w fun e w' => e = .returned (.int .i64 (a + ((l.map laws_markState.SLast_wt).sum : Nat))) ∧ Mk w1 w' P := by
 obtain ⟨l', hl, hs, hr'⟩ := Mk.R (s := laws_markState.SLast_Eqv) m (fun _ h => h) hr (fun z hz ok' hok' d d' hm' hsm' => laws_markState.SLast_shape z w1 w P ok' base d d' m hok' hm' hsm')
 have e1 : l.map laws_markState.SLast_wt = l'.map laws_markState.SLast_wt := mk_map_eq laws_markState.SLast_wt hl (fun j z z' h h' => by have := hs j z z' h h'; unfold laws_markState.SLast_Eqv at this; unfold laws_markState.SLast_wt; omega)
 rw [e1] at h1 ⊢
 refine (laws_markState.SLast_deep P base v l' a w hr' h0 h1).mono ?_
 rintro e w' ⟨rfl, m'⟩
 exact ⟨rfl, m.trans m'⟩
def laws_markState.f (a0 : Int) (l1 : List S92) (l2 : List S94) (a3 : Int) (l4 : List S109) (l5 : List S75) (a6 : Int) : Option Int := if 0 ≤ a6 ∧ a6 + ((l1.map laws_markState.SRow_wt).sum : Nat) + ((l2.map laws_markState.STomb_wt).sum : Nat) + ((l4.map laws_markState.SSes_wt).sum : Nat) + ((l5.map laws_markState.SLast_wt).sum : Nat) ≤ 1000000000 then some (a6 + ((l1.map laws_markState.SRow_wt).sum : Nat) + ((l2.map laws_markState.STomb_wt).sum : Nat) + ((l4.map laws_markState.SSes_wt).sum : Nat) + ((l5.map laws_markState.SLast_wt).sum : Nat)) else none
set_option maxHeartbeats 16000000 in
set_option maxRecDepth 100000 in
theorem laws_markState.calls (a0 : Int) (P1_ : Nat → Prop) (u1 : Value) (l1 : List S92) (P2_ : Nat → Prop) (u2 : Value) (l2 : List S94) (a3 : Int) (P4_ : Nat → Prop) (u4 : Value) (l4 : List S109) (P5_ : Nat → Prop) (u5 : Value) (l5 : List S75) (a6 : Int) (r : Int) (w0 w : World) (hB : Below w0.heap.size w0 w) (ho1 : Kd.R k92 92 w w0.heap.size P1_ u1 l1) (ho2 : Kd.R k94 94 w w0.heap.size P2_ u2 l2) (ho4 : Kd.R k109 109 w w0.heap.size P4_ u4 l4) (ho5 : Kd.R k75 75 w w0.heap.size P5_ u5 l5) (h : laws_markState.f a0 l1 l2 a3 l4 l5 a6 = some r) :
  Calls Try.prog 57 #[.agg #[.int .i64 a0, u1, u2, .int .i64 a3, u4, u5], .int .i64 a6] w fun e w' => e = .returned (.int .i64 r) ∧ Below w0.heap.size w0 w' ∧ Kept w w' (fun k_ => P1_ k_ ∨ P2_ k_ ∨ P4_ k_ ∨ P5_ k_) := by
 have hu := Try.underlying35
 unfold laws_markState.f at h
 split at h
 case isFalse => cases h
 case isTrue hh =>
 obtain rfl := Option.some.inj h
 clear h
 obtain ⟨h0, h1⟩ := hh
 obtain ⟨A1, c1, rfl⟩ := Kd.R_slice ho1
 obtain ⟨A2, c2, rfl⟩ := Kd.R_slice ho2
 obtain ⟨A4, c4, rfl⟩ := Kd.R_slice ho4
 obtain ⟨A5, c5, rfl⟩ := Kd.R_slice ho5
 have HO1 := Aside0.mk (Kd.R_mono (ok' := (fun b => (P1_ b ∨ P2_ b ∨ P4_ b ∨ P5_ b) ∧ w0.heap.size ≤ b ∧ b < w.heap.size)) (Kd.R_bound ho1) (fun _ h => ⟨(.inl h.1), h.2.1, h.2.2.1⟩))
 have HO2 := Aside0.mk (Kd.R_mono (ok' := (fun b => (P1_ b ∨ P2_ b ∨ P4_ b ∨ P5_ b) ∧ w0.heap.size ≤ b ∧ b < w.heap.size)) (Kd.R_bound ho2) (fun _ h => ⟨(.inr (.inl h.1)), h.2.1, h.2.2.1⟩))
 have HO4 := Aside0.mk (Kd.R_mono (ok' := (fun b => (P1_ b ∨ P2_ b ∨ P4_ b ∨ P5_ b) ∧ w0.heap.size ≤ b ∧ b < w.heap.size)) (Kd.R_bound ho4) (fun _ h => ⟨(.inr (.inr (.inl h.1))), h.2.1, h.2.2.1⟩))
 have HO5 := Aside0.mk (Kd.R_mono (ok' := (fun b => (P1_ b ∨ P2_ b ∨ P4_ b ∨ P5_ b) ∧ w0.heap.size ≤ b ∧ b < w.heap.size)) (Kd.R_bound ho5) (fun _ h => ⟨(.inr (.inr (.inr h.1))), h.2.1, h.2.2.1⟩))
 have HBB := Aside0.mk hB
 have H0 := Aside0.mk h0
 have H1 := Aside0.mk h1
 clear ho1 ho2 ho4 ho5 hB h0 h1
 go_enter Try.func57, Try.ntmps57
 go_wp2_with (first | ((with_reducible refine gate_dst (N := 2) rfl ?_); refine bx_ 2 #[.int .i64 a0, .slice A1 l1.length c1, .slice A2 l2.length c2, .int .i64 a3, .slice A4 l4.length c4, .slice A5 l5.length c5] 35 (h := ?_); intro gb1 hg w1 hbox hb; have BK1 := Aside0.mk (hbox); have HG1 := Aside0.mk hg; have HB1 := Aside0.mk hb; have M1 := Aside0.mk (Mk.refl w1 (fun b => (P1_ b ∨ P2_ b ∨ P4_ b ∨ P5_ b) ∧ w0.heap.size ≤ b ∧ b < w.heap.size)); clear hb hbox hg; have C1_1 : w1.cell? ⟨gb1, 1, none⟩ = some (.slice A1 l1.length c1) := (blk_cell BK1.out 1).trans rfl) | (go_at_call 136; refine (laws_markState.SRow_call _ _ _ l1 (a6) w1 _ M1.out (Kd.R_below HO1.out HB1.out) (by have := H0.out; omega) (by have := H1.out; omega)).mono ?_; rintro e w2 ⟨rfl, m_⟩; have M2 := Aside0.mk m_; have BK2 := Aside0.mk (blk_kept BK1.out m_.kept (fun h => by have := h.2.2; have := HG1.out; omega)); have C2_2 : w2.cell? ⟨gb1, 2, none⟩ = some (.slice A2 l2.length c2) := (blk_cell BK2.out 2).trans rfl; clear m_) | (go_at_call 137; refine (laws_markState.STomb_call _ _ _ l2 (a6 + ((l1.map laws_markState.SRow_wt).sum : Nat)) w1 _ M2.out (Kd.R_below HO2.out HB1.out) (by have := H0.out; omega) (by have := H1.out; omega)).mono ?_; rintro e w3 ⟨rfl, m_⟩; have M3 := Aside0.mk m_; have BK3 := Aside0.mk (blk_kept BK1.out m_.kept (fun h => by have := h.2.2; have := HG1.out; omega)); have C3_4 : w3.cell? ⟨gb1, 4, none⟩ = some (.slice A4 l4.length c4) := (blk_cell BK3.out 4).trans rfl; clear m_) | (go_at_call 138; refine (laws_markState.SSes_call _ _ _ l4 (a6 + ((l1.map laws_markState.SRow_wt).sum : Nat) + ((l2.map laws_markState.STomb_wt).sum : Nat)) w1 _ M3.out (Kd.R_below HO4.out HB1.out) (by have := H0.out; omega) (by have := H1.out; omega)).mono ?_; rintro e w4 ⟨rfl, m_⟩; have M4 := Aside0.mk m_; have BK4 := Aside0.mk (blk_kept BK1.out m_.kept (fun h => by have := h.2.2; have := HG1.out; omega)); have C4_5 : w4.cell? ⟨gb1, 5, none⟩ = some (.slice A5 l5.length c5) := (blk_cell BK4.out 5).trans rfl; clear m_) | (go_at_call 139; refine (laws_markState.SLast_call _ _ _ l5 (a6 + ((l1.map laws_markState.SRow_wt).sum : Nat) + ((l2.map laws_markState.STomb_wt).sum : Nat) + ((l4.map laws_markState.SSes_wt).sum : Nat)) w1 _ M4.out (Kd.R_below HO5.out HB1.out) (by have := H0.out; omega) (by have := H1.out; omega)).mono ?_; rintro e w5 ⟨rfl, m_⟩; have M5 := Aside0.mk m_; clear m_))
 go_ret
 have mm := Mk.newer HB1.out M5.out (fun _ h => h.2.2)
 exact ⟨rfl, mm.below HBB.out (fun _ h => h.2.1), mm.kept.mono (fun _ h => h.1)⟩

/-! ### spec_l2index: function 71 -/
def spec_l2index.f (a0 : Int) : Option (Bool) := if a0 ≥ 0 then (some (decide (a0 ≤ 1000000))) else (some false)
set_option maxHeartbeats 8000000 in
set_option maxRecDepth 100000 in
theorem spec_l2index.calls (a0 : Int) (r : Bool) (w : World) (h : spec_l2index.f a0 = some r) :
  Calls Try.prog 71 #[.int .i64 a0] w fun e w' => e = .returned (.bool r) ∧ Drawn0 w w' := by
 have H : (if a0 ≥ 0 then (some (decide (a0 ≤ 1000000))) else (some false)) = some r := h
 clear h
 by_cases c2 : a0 ≥ 0
 ·rw [if_pos c2] at H
  have c2b0 : decide (0 ≤ a0) = true := decide_eq_true c2
  clear c2
  obtain rfl := Option.some.inj H
  go_enter Try.func71, Try.ntmps71
  go_wp2
  go_ret
  exact ⟨by first | rfl | (simp; done) | (simp [*]; done), by repeat (first | exact Drawn0.refl _ | apply Drawn0.step)⟩
 rw [if_neg c2] at H
 have c2b0 : decide (0 ≤ a0) = false := decide_eq_false c2
 clear c2
 obtain rfl := Option.some.inj H
 go_enter Try.func71, Try.ntmps71
 go_wp2
 go_ret
 exact ⟨by first | rfl | (simp; done) | (simp [*]; done), by repeat (first | exact Drawn0.refl _ | apply Drawn0.step)⟩

end Go.Proofs.Ytdgegnakiljfjaa.PL
